/- PayBounds: for every input the law returns true, and each argument reads behind the call as it read before. Conditions: the package-level variables that the row lists hold what the program's text lays (tied by the card). -/
import Derived.Test.YtpnjgmioohofcaaGreatDoorOwnB
import Derived.Test.YtpnjgmioohofcaaGreatDoorOwnF
import Derived.Test.YtpnjgmioohofcaaGreatDoorOwnD
import Derived.LaidOnce
import Derived.SevenTiedAt
import Derived.Test.YtpnjgmioohofcaaGreatDoorTie
import Derived.Test.YtpnjgmioohofcaaGreatDoorCards
set_option linter.unusedVariables false
set_option linter.unusedSimpArgs false

namespace Go.Sx
open Go Go.RowKit

/-! ### Mixed regions whose operations are taken in an order of our own -/

section mixed
variable {P : Program} {ops : Array Oper} {md : Region.Mode} {C : World → Prop} {S : List Nat}

def wpOrd (P : Program) (ops : Array Oper) (S : List Nat) (C : World → Prop) (Q : (World → Prop) → Act → Prop) : List (Nat × Oper) → (World → Prop) → Act → Prop
  | [], D, a => Q D a
  | (k, o) :: rest, D, a => if Region.wanted o (yielded ops a.tmps) then
      if S.contains k then ∀ w, D w → o.wpIn (WF none) 0 P a w (fun a' w' => a'.defers = a.defers ∧ ∃ D', Fine ops C k D' ∧ D' w' ∧ wpOrd P ops S C Q rest D' a') QF
      else ∃ v, quietM P C o a v ∧ wpOrd P ops S C Q rest D (a.put o.dst v)
    else wpOrd P ops S C Q rest D (a.put o.dst undef)

def ordFrom (md : Region.Mode) (ops : Array Oper) (S : List Nat) : List (Nat × Oper) → Array Bool → Bool
  | [], listed => (Region.ready md ops listed).isEmpty
  | (k, _) :: l, listed => (if S.contains k then Region.ready md ops listed == [k] else (Region.ready md ops listed).contains k && Region.free md ops listed k) && ordFrom md ops S l (listed.setIfInBounds k true)

def nthO : List Oper → Nat → Option Oper
  | [], _ => none
  | o :: _, 0 => some o
  | _ :: l, k + 1 => nthO l k
theorem nthO_eq : ∀ (l : List Oper) (k : Nat), nthO l k = l[k]?
  | [], k => by simp [nthO]
  | o :: l, 0 => by simp [nthO]
  | o :: l, k + 1 => by simp [nthO, nthO_eq l k]
/-- The operations in an order of our own. -/
def plan (l : List Oper) : List Nat → List (Nat × Oper)
  | [] => []
  | k :: L => match nthO l k with
    | some o => (k, o) :: plan l L
    | none => plan l L
theorem plan_at {l : List Oper} : ∀ {L : List Nat}, ∀ p ∈ plan l L, l.toArray[p.1]? = some p.2
  | [], p, hp => by simp [plan] at hp
  | k :: L, p, hp => by
    simp only [plan] at hp
    split at hp
    · rename_i o ho
      rcases List.mem_cons.1 hp with rfl | hp
      · rw [nthO_eq] at ho; simpa using ho
      · exact plan_at p hp
    · exact plan_at p hp

theorem mAny_ord {Q : (World → Prop) → Act → Prop} (hs : Region.noSelect ops = true) (hnd : noDefer ops = true) : ∀ (l : List (Nat × Oper)) (listed : Array Bool) (D : World → Prop) (a : Act), (∀ p ∈ l, ops[p.1]? = some p.2) →
    ordFrom md ops S l listed = true → wpOrd P ops S C Q l D a → mAny P md ops S C Q l.length listed D a
  | [], _, _, _, _, hB, h => ⟨by simpa [ordFrom] using hB, h⟩
  | (k, o) :: l, listed, D, a, hl, hB, h => by
    have h0 : ops[k]? = some o := hl (k, o) (List.mem_cons_self ..)
    simp only [ordFrom, Bool.and_eq_true] at hB
    obtain ⟨hr, hB'⟩ := hB
    have hst : mOp P ops S C D k (fun D' a' => wpOrd P ops S C Q l D' a') a := by unfold mOp; simp only [h0]; exact h
    have hnext := fun D' a' (h : wpOrd P ops S C Q l D' a') => mAny_ord (Q := Q) hs hnd l (listed.setIfInBounds k true) D' a' (fun p hp => hl p (List.mem_cons_of_mem _ hp)) hB' h
    cases hS : S.contains k with
    | true =>
      rw [hS] at hr
      have hr' : Region.ready md ops listed = [k] := by simpa using hr
      refine ⟨fun h => (by rw [hr'] at h; cases h), fun i hi => ?_⟩
      rw [hr'] at hi
      have : i = k := by simpa using hi
      subst this
      exact mOp_mono hnext hst
    | false =>
      rw [hS] at hr
      simp only [Bool.false_eq_true, if_false, Bool.and_eq_true] at hr
      obtain ⟨v, hy, hK⟩ := yieldsM_of_op h0 hS hst
      exact mAny_first (noDefer_spec hnd) h0 hS (Region.noSelect_spec hs) l.length listed D a (Region.free_spec h0 hr.2) (by simpa using hr.1) hy (hnext _ _ hK)

def ordB (l : List Oper) (S L : List Nat) : Bool := Region.noSelect l.toArray && noDefer l.toArray && Nat.beq (plan l L).length l.toArray.size && ordFrom .any l.toArray S (plan l L) (Array.replicate l.toArray.size false)

theorem wpIn_region_ord {id : Nat} {Q : Exit → Act → World → Prop} {a : Act} {w : World} {l : List Oper} (S L : List Nat) (C D : World → Prop) (hm : P.follows .mixedOrders = true) (hB : ordB l S L = true) (hg : Good C D)
    (hD : D { w with drawn := w.drawn + 1 }) (h : wpOrd P l.toArray S C (fun D a' => ∀ w', D w' → Q .normal a' w') (plan l L) D a) : (Code.region id l.toArray true).wpIn (WF none) 0 P Q a w := by
  simp only [ordB, Bool.and_eq_true] at hB
  refine wpIn_region_any hm (wpAnyIn_of_m (S := S) (noDefer_spec hB.1.1.2) (Q := fun D a' => ∀ w', D w' → Q .normal a' w') (fun D a w h hw => h w hw) _ _ D _ _ (.inl hg) hD ?_)
  have := mAny_ord (P := P) (C := C) (md := .any) (S := S) hB.1.1.1 hB.1.1.2 (plan l L) (Array.replicate l.toArray.size false) D a plan_at hB.2 h
  rw [Nat.eq_of_beq_eq_true hB.1.2] at this
  exact this
end mixed

def TP (x : Cx) (S : List Nat) (ops : Array Oper) (rest : List (Nat × Oper)) (ks : List KI) (E : Env) (Hb H : List Seg) : Prop :=
  ∀ a, E.ok a → (∃ w, St x.w0 Hb w) → wpOrd x.P ops S (St x.w0 Hb) (fun D a' => ∀ w', D w' → Qk x ks .normal a' w') rest (St x.w0 H) a

def MP (x : Cx) (S : List Nat) (k : Nat) (ops : Array Oper) (rest : List (Nat × Oper)) (ks : List KI) (ds : List Deferred) (Hb : List Seg) (a : Act) (w : World) : Prop :=
  a.defers = ds ∧ ∃ D', Fine ops (St x.w0 Hb) (k - 1) D' ∧ D' w ∧ wpOrd x.P ops S (St x.w0 Hb) (fun D a' => ∀ w', D w' → Qk x ks .normal a' w') rest D' a

section
variable {x : Cx} {S : List Nat} {k : Nat} {ops : Array Oper} {rest : List (Nat × Oper)} {ks : List KI} {E : Env} {Hb H : List Seg}

theorem t_regP {id : Nat} {l : List Oper} (S L : List Nat) (Hb : List Seg) (hr : x.r = none) (hm : x.P.follows .mixedOrders = true) (hB : ordB l S L = true) [SubH Hb H] (h : TP x S l.toArray (plan l L) ks E Hb H) : T x ks (.region id l.toArray true) E H := by
  intro a w e s
  rw [hr]
  exact wpIn_region_ord S L (St x.w0 Hb) (St x.w0 H) hm hB st_good s.drew (h a e ⟨w, s.sub⟩)

theorem tp_nil (h : TX x .normal ks E H) : TP x S ops [] ks E Hb H := fun a e _ w s => h a w e s

/-- A quiet operation: its rule, applied to it alone. -/
theorem tp_q {o : Oper} (E' : Env) (hS : S.contains k = false) (hq : TO x.nx true ops [o] [.inv (fun a _ => E'.ok a)] E Hb) (h : TP x S ops rest ks E' Hb H) : TP x S ops ((k, o) :: rest) ks E Hb H := by
  intro a e hne
  have h1 := hq a e
  have ⟨w, hw⟩ := hne
  simp only [wpQM] at h1
  simp only [wpOrd, hS, Bool.false_eq_true, if_false]
  split
  · rename_i hwt
    simp only [hwt, if_true] at h1
    obtain ⟨v, h2, h3⟩ := h1
    exact ⟨v, h2, h _ (h3 w hw) hne⟩
  · rename_i hwt
    simp only [hwt] at h1
    exact h _ (h1 w hw) hne

theorem tpq_end {E : Env} {x : Cx} {ops : Array Oper} {H : List Seg} : TO x true ops [] [.inv (fun a _ => E.ok a)] E H := fun _ e _ _ => e

/-- One that turns the world. -/
theorem tp_s {o : Oper} (hS : S.contains k = true) (hs : TO x.nx false ops [o] [.inv (MP x S (k + 1) ops rest ks E.ds Hb)] E H) (hnd : ∀ c, o.op ≠ .defer c) (hg : o.guard = none) : TP x S ops ((k, o) :: rest) ks E Hb H := by
  intro a e hne
  have hw : Region.wanted o (yielded ops a.tmps) = true := by unfold Region.wanted; rw [hg]
  simp only [wpOrd, hS, hw, if_true]
  intro w s
  have h1 := hs a w e s
  simp only [wpListIn, hw, if_true] at h1
  refine ⟨fun _ _ => trivial, ?_⟩
  have h2 := h1.2
  have hQ : Qk x.nx [.inv (MP x S (k + 1) ops rest ks E.ds Hb)] = Exit.then (MP x S (k + 1) ops rest ks E.ds Hb) QF := rfl
  rw [hQ] at h2
  have hL : LetsOut (Exit.then (MP x S (k + 1) ops rest ks E.ds Hb) QF) → LetsOut QF := fun ⟨_, _, h⟩ => ⟨a, w, h⟩
  have h2' : o.uponIn (WF none) 0 x.P a (MP x S (k + 1) ops rest ks E.ds Hb) (Exit.then (MP x S (k + 1) ops rest ks E.ds Hb) QF) ((o.semAt none a.eval).run x.P w) := h2
  have h3 : o.uponIn (WF none) 0 x.P a (MP x S (k + 1) ops rest ks E.ds Hb) QF ((o.semAt none a.eval).run x.P w) := by
    generalize (o.semAt none a.eval).run x.P w = r at h2'
    unfold Oper.uponIn at *
    split <;> simp only at h2'
    · exact h2'
    · exact h2'
    · exact h2'
    · exact ⟨h2'.1, h2'.2.mono fun e w' he => by
        cases e with
        | returned v => exact he
        | panicked c => exact he
        | outgrown => exact hL he⟩
    · exact h2'
    · exact ⟨h2'.1, h2'.2.mono fun e w' he => by
        cases e with
        | returned v => exact he
        | panicked c => exact he
        | outgrown => exact hL he⟩
    · exact h2'
  refine upon_mono (fun a' w' h' => ?_) h3
  obtain ⟨h4, D', h5, h6, h7⟩ := h'
  exact ⟨h4.trans e.ds.symm, D', h5, h6, h7⟩

theorem tp_se {ds : List Deferred} [SubH Hb H] (hds : E.ds = ds) (h : TP x S ops rest ks E Hb H) : TO x.nx false ops [] [.inv (MP x S k ops rest ks ds Hb)] E H := fun a w e s =>
  ⟨e.ds.trans hds, St x.w0 H, .inr st_good, s, h a e ⟨w, s.sub⟩⟩

theorem tp_se2 {ds : List Deferred} (hsub : ∀ w, St x.w0 H w → St x.w0 Hb w) (hds : E.ds = ds) (h : TP x S ops rest ks E Hb H) : TO x.nx false ops [] [.inv (MP x S k ops rest ks ds Hb)] E H := fun a w e s =>
  ⟨e.ds.trans hds, St x.w0 H, .inr ⟨fun _ _ h hb => h.below hb, hsub⟩, s, h a e ⟨w, hsub w s⟩⟩

/-- Behind the last operation of all. -/
theorem tp_sl {ds : List Deferred} (hl : lastB ops = true) (hk : Nat.beq k ops.size = true) (hds : E.ds = ds) (h : TX x .normal ks E H) : TO x.nx false ops [] [.inv (MP x S k ops [] ks ds Hb)] E H := fun a w e s =>
  ⟨e.ds.trans hds, St x.w0 H, .inl ⟨hl, by have := Nat.eq_of_beq_eq_true hk; have h0 : 0 < ops.size := (by unfold lastB at hl; rcases Nat.eq_zero_or_pos ops.size with h0 | h0; (rw [h0] at hl; rw [Array.getElem?_eq_none (by omega)] at hl; cases hl); exact h0); omega⟩, s, fun w' hw' => h a w' e hw'⟩

/-- A guarded operation, as without a guard. -/
theorem tp_gt {op : Op} {ty : TypeId} {pos : String} {aft : Array Edge} {dst : Option Nat} {j : Nat} {want : Bool} {s : Nat}
    (hs : (ops[j]?).bind (·.dst) = some s) (hv : lk E.m s = some (.bool want)) (h : TP x S ops ((k, ⟨dst, op, ty, pos, aft, none⟩) :: rest) ks E Hb H) : TP x S ops ((k, ⟨dst, op, ty, pos, aft, some (j, want)⟩) :: rest) ks E Hb H := by
  intro a e hne
  have hw : Region.wanted ⟨dst, op, ty, pos, aft, some (j, want)⟩ (yielded ops a.tmps) = true := by
    simp [Region.wanted, yielded, hs, e.get _ _ hv]
  have h1 := h a e hne
  simp only [wpOrd, Region.wanted, if_true] at h1
  simp only [wpOrd, hw, if_true]
  exact h1

theorem tp_gf {n : Nat} {m : List (Nat × Value)} {ds : List Deferred} {op : Op} {ty : TypeId} {pos : String} {aft : Array Edge} {dd : Nat} {j : Nat} {want : Bool} {s : Nat} {u : Value}
    (hs : (ops[j]?).bind (·.dst) = some s) (hv : lk m s = some u) (hu : (match u with | .bool b => b == want | _ => false) = false) (hd : Nat.blt dd n = true)
    (h : TP x S ops rest ks ⟨n, (dd, undef) :: m, ds⟩ Hb H) : TP x S ops ((k, ⟨some dd, op, ty, pos, aft, some (j, want)⟩) :: rest) ks ⟨n, m, ds⟩ Hb H := by
  intro a e hne
  have hw : Region.wanted ⟨some dd, op, ty, pos, aft, some (j, want)⟩ (yielded ops a.tmps) = false := by
    have := e.get _ _ hv
    simp only [Region.wanted, yielded, hs, Option.bind_some, this]
    cases u <;> simp_all
  simp only [wpOrd, hw]
  exact h _ (e.put hd undef) hne

theorem tp_gs {n : Nat} {m : List (Nat × Value)} {ds : List Deferred} {o : Oper} {j : Nat} {want b : Bool} {s : Nat}
    (_hg : o.guard = some (j, want)) (_hs : (ops[j]?).bind (·.dst) = some s) (hv : lk m s = some (.bool b))
    (ht : b = true → TP x S ops ((k, o) :: rest) ks ⟨n, (s, .bool true) :: m, ds⟩ Hb H) (hf : b = false → TP x S ops ((k, o) :: rest) ks ⟨n, (s, .bool false) :: m, ds⟩ Hb H) : TP x S ops ((k, o) :: rest) ks ⟨n, m, ds⟩ Hb H := by
  have key : ∀ a, Env.ok ⟨n, m, ds⟩ a → Env.ok ⟨n, (s, .bool b) :: m, ds⟩ a := by
    intro a e
    refine ⟨e.size, e.ds, fun t u hu => ?_⟩
    simp only [lk] at hu
    cases hb : Nat.beq s t with
    | true =>
      rw [hb] at hu; cases hu
      have e' : s = t := Nat.eq_of_beq_eq_true hb
      subst e'; exact e.get _ _ hv
    | false => rw [hb] at hu; exact e.get _ _ hu
  cases b with
  | true => exact fun a e hne => ht rfl a (key a e) hne
  | false => exact fun a e hne => hf rfl a (key a e) hne

end

end Go.Sx



namespace Go.Sx
open Go Go.RowKit

/-! ### Rows in a list that grows: it stands at the end of the segments -/

class TailH (A H : List Seg) : Prop where
  sub : ∃ R, H.Perm (A ++ R)
instance TailH.refl (A : List Seg) : TailH A A := ⟨[], by simp⟩
instance TailH.skip (A H : List Seg) (s : Seg) [h : TailH A H] : TailH A (s :: H) :=
  ⟨let ⟨R, h1⟩ := h.sub; ⟨s :: R, (h1.cons s).trans List.perm_middle.symm⟩⟩
instance (priority := low) SubH.tail (A H : List Seg) [h : TailH A H] : SubH A H := ⟨h.sub⟩

class RowIn (a : Option Addr) (H : List Seg) (n cap t sz : outParam Nat) (xs : outParam (List (List Value))) : Prop where
  mem : .row a n cap t sz xs ∈ H
instance RowIn.skip (a : Option Addr) (s : Seg) (H : List Seg) (n cap t sz : Nat) (xs : List (List Value)) [h : RowIn a H n cap t sz xs] : RowIn a (s :: H) n cap t sz xs := ⟨List.mem_cons_of_mem _ h.mem⟩
instance (priority := low) Rd.rowin {w0 : World} {H : List Seg} {a : Option Addr} {n cap t sz : Nat} {xs : List (List Value)} [h : RowIn a H n cap t sz xs] : Rd w0 H a n cap sz xs :=
  ⟨fun w s => RowOk.ro (s.ok _ h.mem)⟩
end Go.Sx


namespace Go.Proofs
open Go Go.Sx Go.RowKit

theorem ieq_refl : ∀ {vs : List Value}, isI vs → ieq vs vs = true
  | [], _ => rfl
  | v :: vs, h => by
    obtain ⟨i, rfl⟩ := h v (List.mem_cons_self ..)
    have ih := ieq_refl (vs := vs) (fun u hu => h u (List.mem_cons_of_mem _ hu))
    simp only [ieq, ih, Bool.and_true]; simp
theorem isI_mon (m : Mon) : isI (monC m) := allI_isI rfl
theorem isI_span (s : Int × Int) : isI (spanC s) := allI_isI rfl
theorem far_t {m : Mon} (h : isMon m = true) : payFar m = (monN m, 0) := by simp [payFar, h]
theorem far_f {m : Mon} (h : isMon m = false) : payFar m = (0, 2) := by simp [payFar, h]
theorem mny_t {n : Int} (h : isSum n = true) : payMoney n = (monOf n, 0) := by simp [payMoney, h]
theorem mny_f {n : Int} (h : isSum n = false) : payMoney n = (⟨0, 0, 0, 0⟩, 2) := by simp [payMoney, h]
theorem c_far_t {m : Mon} (h : isMon m = true) (w : World) : Calls Tryz.prog 15 #[monV m] w (RetV w (.tuple #[.int .i64 (monN m), .int .i64 0])) := by
  have := pay_Farthings m w
  rw [far_t h] at this; exact this
theorem c_far_f {m : Mon} (h : isMon m = false) (w : World) : Calls Tryz.prog 15 #[monV m] w (RetV w (.tuple #[.int .i64 0, .int .i64 2])) := by
  have := pay_Farthings m w
  rw [far_f h] at this; exact this
theorem c_mny_t {n : Int} (h : isSum n = true) (w : World) : Calls Tryz.prog 16 #[.int .i64 n] w (RetV w (.tuple #[monV (monOf n), .int .i64 0])) := by
  have := pay_Money n w
  rw [mny_t h] at this; exact this
theorem c_mny_f {n : Int} (h : isSum n = false) (w : World) : Calls Tryz.prog 16 #[.int .i64 n] w (RetV w (.tuple #[monV ⟨0, 0, 0, 0⟩, .int .i64 2])) := by
  have := pay_Money n w
  rw [mny_f h] at this; exact this
theorem bool_tf (b : Bool) : b = true ∨ b = false := by cases b <;> simp

end Go.Proofs


namespace Go.Proofs
open Go Go.Sx Go.RowKit

set_option maxRecDepth 20000 in
theorem ref_Owes (b : Bk) (a : Option Addr) (c : Nat) (k : Nat) (l : Lin) (e : Int) (w : World) (hr : Ro w 0 w.heap.size a b.lines.length c 10 (b.lines.map linC)) (hb : isBk b = true) (hl : b.lines[k]? = some l) (he : 0 ≤ e ∧ e ≤ 20) : Calls Tryz.prog 38 #[bkV b a c, (.int .i64 (k : Int)), (.int .i64 e)] w (RetV w (.int .i64 (owesL b l e))) := by
  have hx := map_get (f := linC) hl
  have hp := prodB hb (List.mem_of_getElem? hl) he
  have hkl := (List.getElem?_eq_some_iff.1 hl).1
  have hbb := isBk_b hb
  refine calls_T0 (av := [_, _, _]) Tryz.func38 rfl rfl rfl ?_
  refine t_seq ?_
  refine t_reg ?_
  refine to_box rfl rfl (fun b3 => ?_)
  refine to_as rfl rfl ?_
  refine to_nil ?_
  refine tn_code ?_
  refine t_seq ?_
  refine t_reg ?_
  first | refine to_fa rfl rfl rfl (by simp only [Nat.reduceAdd]; rfl) rfl ?_ | refine to_fae rfl rfl rfl (by simp only [Nat.reduceAdd]; rfl) rfl ?_
  first | refine to_lds rfl rfl rfl ?_ | refine to_ldes rfl (by assumption) rfl rfl ?_
  refine to_mv rfl rfl ?_
  first | refine to_ix rfl rfl rfl (by first | omega | decide) (by first | omega | decide) rfl ?_ | refine to_ixi rfl rfl rfl (by omega) (by omega) (by omega) rfl ?_
  first | refine to_lda rfl rfl rfl ?_ | refine to_ldea rfl (by assumption) rfl rfl ?_
  refine to_alloc rfl (fun b7 => ?_)
  first | refine to_st rfl rfl rfl rfl ?_ | refine to_ste rfl rfl (by assumption) rfl rfl ?_
  refine to_nil ?_
  refine tn_code ?_
  refine t_seq ?_
  refine t_reg ?_
  first | refine to_fa rfl rfl rfl (by simp only [Nat.reduceAdd]; rfl) rfl ?_ | refine to_fae rfl rfl rfl (by simp only [Nat.reduceAdd]; rfl) rfl ?_
  first | refine to_lds rfl rfl rfl ?_ | refine to_ldes rfl (by assumption) rfl rfl ?_
  first | refine to_fa rfl rfl rfl (by simp only [Nat.reduceAdd]; rfl) rfl ?_ | refine to_fae rfl rfl rfl (by simp only [Nat.reduceAdd]; rfl) rfl ?_
  first | refine to_lds rfl rfl rfl ?_ | refine to_ldes rfl (by assumption) rfl rfl ?_
  refine to_mul rfl rfl (by first | omega | exact mul_ok (by omega) (by omega) (by omega) (by omega)) rfl ?_
  first | refine to_fa rfl rfl rfl (by simp only [Nat.reduceAdd]; rfl) rfl ?_ | refine to_fae rfl rfl rfl (by simp only [Nat.reduceAdd]; rfl) rfl ?_
  first | refine to_lds rfl rfl rfl ?_ | refine to_ldes rfl (by assumption) rfl rfl ?_
  refine to_mv rfl rfl ?_
  refine to_mul rfl rfl (by first | omega | exact mul_ok (by omega) (by omega) (by omega) (by omega)) rfl ?_
  refine to_sub rfl rfl (by omega) rfl ?_
  refine to_max rfl rfl rfl ?_
  first | refine to_fa rfl rfl rfl (by simp only [Nat.reduceAdd]; rfl) rfl ?_ | refine to_fae rfl rfl rfl (by simp only [Nat.reduceAdd]; rfl) rfl ?_
  first | refine to_lds rfl rfl rfl ?_ | refine to_ldes rfl (by assumption) rfl rfl ?_
  first | refine to_fa rfl rfl rfl (by simp only [Nat.reduceAdd]; rfl) rfl ?_ | refine to_fae rfl rfl rfl (by simp only [Nat.reduceAdd]; rfl) rfl ?_
  first | refine to_lds rfl rfl rfl ?_ | refine to_ldes rfl (by assumption) rfl rfl ?_
  refine to_mul rfl rfl (by first | omega | exact mul_ok (by omega) (by omega) (by omega) (by omega)) rfl ?_
  refine to_add rfl rfl (by omega) rfl ?_
  first | refine to_fa rfl rfl rfl (by simp only [Nat.reduceAdd]; rfl) rfl ?_ | refine to_fae rfl rfl rfl (by simp only [Nat.reduceAdd]; rfl) rfl ?_
  first | refine to_lds rfl rfl rfl ?_ | refine to_ldes rfl (by assumption) rfl rfl ?_
  first | refine to_fa rfl rfl rfl (by simp only [Nat.reduceAdd]; rfl) rfl ?_ | refine to_fae rfl rfl rfl (by simp only [Nat.reduceAdd]; rfl) rfl ?_
  first | refine to_lds rfl rfl rfl ?_ | refine to_ldes rfl (by assumption) rfl rfl ?_
  refine to_mul rfl rfl (by first | omega | exact mul_ok (by omega) (by omega) (by omega) (by omega)) rfl ?_
  refine to_add rfl rfl (by omega) rfl ?_
  refine to_as rfl rfl ?_
  refine to_nil ?_
  refine tn_code ?_
  refine t_ret1 rfl rfl (res_tmp rfl) (fun w' s => ?_)
  rfl

def RCar (xs ys : List Int) : Nat → World → Value → Prop := fun lo w1 v => ∃ a1 c1 a2 c2, v = .tuple #[.slice a1 xs.length c1, .slice a2 ys.length c2] ∧ Ro w1 lo w1.heap.size a1 xs.length c1 1 (ints xs) ∧ Ro w1 lo w1.heap.size a2 ys.length c2 1 (ints ys)

set_option maxRecDepth 20000 in
theorem ref_carried (b : Bk) (a : Option Addr) (c : Nat) (t : List Int) (ta : Option Addr) (tc : Nat) (w : World) (hr : Ro w 0 w.heap.size a b.lines.length c 10 (b.lines.map linC)) (hrt : Ro w 0 w.heap.size ta t.length tc 1 (ints t)) (hb : isBk b = true) (htr : truOk b.lines t = true) : Calls Tryz.prog 70 #[bkV b a c, .slice ta t.length tc] w (Ret w (RCar (paysL b t) (restL (restF b t) b.hands.toNat))) := by
  have hlen := (truOk_iff.1 htr).1
  have hbb := isBk_b hb
  have hpl := paysL_len hlen
  refine calls_T (av := [_, _]) Tryz.func70 rfl rfl rfl ?_
  refine t_seq ?_
  refine t_reg ?_
  refine to_box rfl rfl (fun b2 => ?_)
  refine to_as rfl rfl ?_
  refine to_as rfl rfl ?_
  refine to_nil ?_
  refine tn_code ?_
  refine t_seq ?_
  refine t_reg ?_
  first | refine to_fa rfl rfl rfl (by simp only [Nat.reduceAdd]; rfl) rfl ?_ | refine to_fae rfl rfl rfl (by simp only [Nat.reduceAdd]; rfl) rfl ?_
  first | refine to_lds rfl rfl rfl ?_ | refine to_ldes rfl (by assumption) rfl rfl ?_
  refine to_mksi rfl rfl (by omega) (by omega) (by decide) rfl (fun a14 => ?_)
  refine to_as rfl rfl ?_
  refine to_nil ?_
  refine tn_code ?_
  refine t_seq ?_
  refine t_reg ?_
  refine to_as rfl rfl ?_
  refine to_nil ?_
  refine tn_code ?_
  refine t_seq ?_
  refine t_seq ?_
  refine t_reg ?_
  refine to_as rfl rfl ?_
  refine to_nil ?_
  refine tn_code ?_
  refine t_blk ?_
  refine t_nilrow 3 1 ?_
  refine t_loop2 (ι := Nat × Option Addr × Nat) (fun ((k, a', c') : Nat × Option Addr × Nat) => k ≤ b.lines.length) (fun ((k, a', c') : Nat × Option Addr × Nat) => [(1, .slice ta t.length tc), (2, (.pointer (some ⟨b2, 0, none⟩))), (6, .slice a14 b.hands.toNat b.hands.toNat), (7, .slice a' k c'), (8, .int .i64 (k : Int))]) (fun ((k, a', c') : Nat × Option Addr × Nat) => [.row a' k c' 3 1 (ints (payK b t k).1), .row a14 b.hands.toNat b.hands.toNat 3 1 (ints (restL (payK b t k).2 b.hands.toNat)), .own b2 (isC (bkC b a c) 40), .snap 0 w.heap.size w]) (fun ((k, a', c') : Nat × Option Addr × Nat) => b.lines.length - k) ((0, none, 0)) [.row none 0 0 3 1 [], .row a14 b.hands.toNat b.hands.toNat 3 1 (List.replicate b.hands.toNat [Value.int .i64 0]), .own b2 (isC (bkC b a c) 40), .snap 0 w.heap.size w] (by rw [restL_zero]; rfl) (Nat.zero_le _) (⟨rfl, rfl, rfl, rfl, rfl, trivial⟩) ?_
  rintro ⟨k, a', c'⟩ hk
  try dsimp only at hk
  show T _ _ _ ⟨_, [(1, .slice ta t.length tc), (2, (.pointer (some ⟨b2, 0, none⟩))), (6, .slice a14 b.hands.toNat b.hands.toNat), (7, .slice a' k c'), (8, .int .i64 (k : Int))], _⟩ [.row a' k c' 3 1 (ints (payK b t k).1), .row a14 b.hands.toNat b.hands.toNat 3 1 (ints (restL (payK b t k).2 b.hands.toNat)), .own b2 (isC (bkC b a c) 40), .snap 0 w.heap.size w]
  refine t_seq ?_
  refine t_seq ?_
  refine t_reg ?_
  refine to_mv rfl rfl ?_
  refine to_mv rfl rfl ?_
  refine to_lenS rfl rfl ?_
  refine to_lss rfl rfl rfl ?_
  refine to_nil ?_
  refine tn_code ?_
  refine t_if rfl (fun h1 => ?_) (fun h1 => ?_)
  · try simp only [decide_eq_true_eq, decide_eq_false_iff_not, Bool.not_eq_true', Bool.not_eq_false', Int.not_lt, Int.not_le, ne_eq, Decidable.not_not] at h1
    try have h1b := inB_iff.1 h1
    obtain ⟨l, hl⟩ := some_get (xs := b.lines) (k := k) (by omega)
    obtain ⟨e, he⟩ := some_get (xs := t) (k := k) (by omega)
    have hx := map_get (f := linC) hl
    have hx2 := map_get (f := intC) he
    have hin := (truOk_e hb htr hl he).2
    have hlb := isLin_b (isBk_l hb (List.mem_of_getElem? hl))
    have hq0 : 0 ≤ l.hand ∧ l.hand < (b.hands.toNat : Nat) := by omega
    have hx3 := map_get (f := intC) (restL_at (g := (payK b t k).2) hq0.1 hq0.2)
    have hob := owesL_b hb (List.mem_of_getElem? hl) hin
    have hkb := payK_b (t := t) hb k l.hand
    have hmd := emod_bd (owesL b l e + (payK b t k).2 l.hand) (b := b.unit) (by omega)
    refine t_skip ?_
    refine tn_code ?_
    refine t_seq ?_
    refine t_blk ?_
    refine t_seq ?_
    refine t_reg ?_
    first | refine to_fa rfl rfl rfl (by simp only [Nat.reduceAdd]; rfl) rfl ?_ | refine to_fae rfl rfl rfl (by simp only [Nat.reduceAdd]; rfl) rfl ?_
    first | refine to_lds rfl rfl rfl ?_ | refine to_ldes rfl (by assumption) rfl rfl ?_
    refine to_mv rfl rfl ?_
    first | refine to_ix rfl rfl rfl (by first | omega | decide) (by first | omega | decide) rfl ?_ | refine to_ixi rfl rfl rfl (by omega) (by omega) (by omega) rfl ?_
    first | refine to_fa rfl rfl rfl (by simp only [Nat.reduceAdd]; rfl) rfl ?_ | refine to_fae rfl rfl rfl (by simp only [Nat.reduceAdd]; rfl) rfl ?_
    first | refine to_lds rfl rfl rfl ?_ | refine to_ldes rfl (by assumption) rfl rfl ?_
    refine to_as rfl rfl ?_
    refine to_nil ?_
    refine tn_code ?_
    refine t_seq ?_
    refine t_regD rfl (by kernel_rfl) (by kernel_rfl) ?_
    first | refine to_lda rfl rfl rfl ?_ | refine to_ldea rfl (by assumption) rfl rfl ?_
    refine to_mv rfl rfl ?_
    refine to_mv rfl rfl ?_
    refine to_mv rfl rfl ?_
    first | refine to_ix rfl rfl rfl (by first | omega | decide) (by first | omega | decide) rfl ?_ | refine to_ixi rfl rfl rfl (by omega) (by omega) (by omega) rfl ?_
    first | refine to_lds rfl rfl rfl ?_ | refine to_ldes rfl (by assumption) rfl rfl ?_
    refine to_call0 rfl rfl (fun w s => ref_Owes b a c k l e w (rdw s) hb hl hin) rfl ?_
    refine to_mv rfl rfl ?_
    refine to_mv rfl rfl ?_
    first | refine to_ix rfl rfl rfl (by first | omega | decide) (by first | omega | decide) rfl ?_ | refine to_ixi rfl rfl rfl (by omega) (by omega) (by omega) rfl ?_
    first | refine to_lds rfl rfl rfl ?_ | refine to_ldes rfl (by assumption) rfl rfl ?_
    refine to_add rfl rfl (by omega) rfl ?_
    refine to_as rfl rfl ?_
    refine to_nil ?_
    refine tn_code ?_
    refine t_seq ?_
    refine t_reg ?_
    refine to_mv rfl rfl ?_
    first | refine to_fa rfl rfl rfl (by simp only [Nat.reduceAdd]; rfl) rfl ?_ | refine to_fae rfl rfl rfl (by simp only [Nat.reduceAdd]; rfl) rfl ?_
    first | refine to_lds rfl rfl rfl ?_ | refine to_ldes rfl (by assumption) rfl rfl ?_
    refine to_rem rfl rfl (by omega) (by omega) rfl ?_
    refine to_as rfl rfl ?_
    refine to_nil ?_
    refine tn_code ?_
    refine t_seq ?_
    refine t_reg ?_
    refine to_mv rfl rfl ?_
    refine to_mv rfl rfl ?_
    refine to_mv rfl rfl ?_
    first | refine to_ix rfl rfl rfl (by first | omega | decide) (by first | omega | decide) rfl ?_ | refine to_ixi rfl rfl rfl (by omega) (by omega) (by omega) rfl ?_
    first | refine to_st rfl rfl rfl rfl ?_ | refine to_ste rfl rfl (by assumption) rfl rfl ?_
    refine to_nil ?_
    refine tn_code ?_
    refine t_reg ?_
    refine to_mv rfl rfl ?_
    refine to_mv rfl rfl ?_
    refine to_mv rfl rfl ?_
    refine to_sub rfl rfl (by omega) rfl ?_
    refine to_bsl rfl rfl rfl rfl (fun a51 => ?_)
    refine to_app rfl rfl rfl (by simp [scals, scal]) (by decide) (by omega) (by decide) rfl (fun a52 c52 => ?_)
    refine to_as rfl rfl ?_
    refine to_nil ?_
    refine tn_blk ?_
    refine tn_code ?_
    refine t_reg ?_
    refine to_mv rfl rfl ?_
    refine to_add rfl rfl (by omega) rfl ?_
    refine to_as rfl rfl ?_
    refine to_nil ?_
    exact tn_loop2 ((k + 1, a52, c52)) [.row a52 (k + 1) c52 3 1 (ints (payK b t k).1 ++ [[.int .i64 ((owesL b l e + (payK b t k).2 l.hand) - (owesL b l e + (payK b t k).2 l.hand) % b.unit)]]), .row a14 b.hands.toNat b.hands.toNat 3 1 ((ints (restL (payK b t k).2 b.hands.toNat)).set l.hand.toNat [Value.int .i64 ((owesL b l e + (payK b t k).2 l.hand) % b.unit)]), .own b2 (isC (bkC b a c) 40), .snap 0 w.heap.size w] (by dsimp only; rw [payK_succ hl he, ints_snoc, restL_put hq0.1 hq0.2]) (by dsimp only; omega) (by dsimp only; omega) (⟨rfl, rfl, rfl, rfl, rfl, trivial⟩)
  · try simp only [decide_eq_true_eq, decide_eq_false_iff_not, Bool.not_eq_true', Bool.not_eq_false', Int.not_lt, Int.not_le, ne_eq, Decidable.not_not] at h1
    try have h1b := inB_iff.1 h1
    have hk2 : k = b.lines.length := by omega
    subst hk2
    refine t_exit ?_
    refine tx_code ?_
    refine tx_inv ?_
    refine tx_blk ?_
    refine tn_code ?_
    refine t_seq ?_
    refine t_reg ?_
    refine to_mv rfl rfl ?_
    refine to_mv rfl rfl ?_
    refine to_as rfl rfl ?_
    refine to_as rfl rfl ?_
    refine to_nil ?_
    refine tn_code ?_
    refine t_ret2 rfl rfl (res_tmp rfl) (res_tmp rfl) (fun w' s => ?_)
    rw [RCar, paysL_len hlen, restL_len]
    exact ⟨_, _, _, _, rfl, ro_row s, ro_row s⟩

set_option maxRecDepth 20000 in
theorem ref_Pays (b : Bk) (a : Option Addr) (c : Nat) (t : List Int) (ta : Option Addr) (tc : Nat) (w : World) (hr : Ro w 0 w.heap.size a b.lines.length c 10 (b.lines.map linC)) (hrt : Ro w 0 w.heap.size ta t.length tc 1 (ints t)) (hb : isBk b = true) (htr : truOk b.lines t = true) : Calls Tryz.prog 30 #[bkV b a c, .slice ta t.length tc] w (Ret w (RSl (paysL b t))) := by
  refine calls_T (av := [_, _]) Tryz.func30 rfl rfl rfl ?_
  refine t_seq ?_
  refine t_reg ?_
  refine to_box rfl rfl (fun b2 => ?_)
  refine to_as rfl rfl ?_
  refine to_nil ?_
  refine tn_code ?_
  refine t_seq ?_
  refine t_reg ?_
  first | refine to_lda rfl rfl rfl ?_ | refine to_ldea rfl (by assumption) rfl rfl ?_
  refine to_mv rfl rfl ?_
  refine to_callR rfl rfl (fun w s => ref_carried b a c t ta tc w (rdw s) (rdw s) hb htr) rfl (fun v10 lo10 w10 hlo10 hR10 => ?_)
  obtain ⟨pa10, pc10, qa10, qc10, rfl, hro10, hrq10⟩ := hR10
  refine to_mv rfl rfl ?_
  refine to_ex rfl rfl rfl ?_
  refine to_ex rfl rfl rfl ?_
  refine to_as rfl rfl ?_
  refine to_as rfl rfl ?_
  refine to_nil ?_
  refine tn_code ?_
  refine t_seq ?_
  refine t_reg ?_
  refine to_mv rfl rfl ?_
  refine to_as rfl rfl ?_
  refine to_nil ?_
  refine tn_code ?_
  refine t_ret1 rfl rfl (res_tmp rfl) (fun w' s => ?_)
  exact ⟨_, _, rfl, ro_snap s hlo10⟩

set_option maxRecDepth 20000 in
theorem ref_Rest (b : Bk) (a : Option Addr) (c : Nat) (t : List Int) (ta : Option Addr) (tc : Nat) (h : Int) (w : World) (hr : Ro w 0 w.heap.size a b.lines.length c 10 (b.lines.map linC)) (hrt : Ro w 0 w.heap.size ta t.length tc 1 (ints t)) (hb : isBk b = true) (htr : truOk b.lines t = true) (hh : 0 ≤ h ∧ h ≤ b.hands - 1) : Calls Tryz.prog 32 #[bkV b a c, .slice ta t.length tc, (.int .i64 h)] w (RetV w (.int .i64 (restF b t h))) := by
  have hbb := isBk_b hb
  have hx3 := map_get (f := intC) (restL_at (g := restF b t) (h := b.hands.toNat) hh.1 (by omega))
  have hrl := restL_len (restF b t) b.hands.toNat
  refine calls_T0 (av := [_, _, _]) Tryz.func32 rfl rfl rfl ?_
  refine t_seq ?_
  refine t_reg ?_
  refine to_box rfl rfl (fun b3 => ?_)
  refine to_as rfl rfl ?_
  refine to_nil ?_
  refine tn_code ?_
  refine t_seq ?_
  refine t_reg ?_
  first | refine to_lda rfl rfl rfl ?_ | refine to_ldea rfl (by assumption) rfl rfl ?_
  refine to_mv rfl rfl ?_
  refine to_callR rfl rfl (fun w s => ref_carried b a c t ta tc w (rdw s) (rdw s) hb htr) rfl (fun v12 lo12 w12 hlo12 hR12 => ?_)
  obtain ⟨pa12, pc12, qa12, qc12, rfl, hro12, hrq12⟩ := hR12
  refine to_mv rfl rfl ?_
  refine to_ex rfl rfl rfl ?_
  refine to_ex rfl rfl rfl ?_
  refine to_as rfl rfl ?_
  refine to_as rfl rfl ?_
  refine to_nil ?_
  refine tn_code ?_
  refine t_seq ?_
  refine t_reg ?_
  refine to_mv rfl rfl ?_
  refine to_mv rfl rfl ?_
  first | refine to_ix rfl rfl rfl (by first | omega | decide) (by first | omega | decide) rfl ?_ | refine to_ixi rfl rfl rfl (by omega) (by omega) (by omega) rfl ?_
  first | refine to_lds rfl rfl rfl ?_ | refine to_ldes rfl (by assumption) rfl rfl ?_
  refine to_as rfl rfl ?_
  refine to_nil ?_
  refine tn_code ?_
  refine t_ret1 rfl rfl (res_tmp rfl) (fun w' s => ?_)
  rfl

end Go.Proofs


namespace Go.Proofs
open Go Go.Sx Go.RowKit

theorem monN_b {m : Mon} (h : isMon m = true) : 0 ≤ monN m ∧ monN m ≤ 959999 := by
  have := isMon_b h
  simp only [monN]; omega
theorem monN_s {m : Mon} (h : isMon m = true) : isSum (monN m) = true := by
  have := monN_b h
  simp only [isSum]; exact inB_iff.2 this
theorem monOf_m {n : Int} (h : isSum n = true) : isMon (monOf n) = true := by
  have := isSum_b h
  simp only [isMon, monOf, Bool.and_eq_true, inB_iff]
  omega
theorem monN_of {n : Int} (h : isSum n = true) : monN (monOf n) = n := by
  have := isSum_b h
  simp only [monN, monOf]
  omega
theorem monOf_N {m : Mon} (h : isMon m = true) : monOf (monN m) = m := by
  obtain ⟨p, s, d, f⟩ := m
  have := isMon_b h
  simp only [monOf, monN, Mon.mk.injEq] at this ⊢
  omega
theorem bef_mon {m o : Mon} (hm : isMon m = true) (ho : isMon o = true) : befI [m.p, m.s, m.d, m.f] [o.p, o.s, o.d, o.f] = decide (monN m < monN o) := by
  have h1 := isMon_b hm
  have h2 := isMon_b ho
  have e : befI [m.p, m.s, m.d, m.f] [o.p, o.s, o.d, o.f] = true ↔ monN m < monN o := by
    simp only [befI, monN]
    split
    · split
      · split
        · split
          · simp; omega
          · rw [decide_eq_true_eq]; omega
        · rw [decide_eq_true_eq]; omega
      · rw [decide_eq_true_eq]; omega
    · rw [decide_eq_true_eq]; omega
  rw [Bool.eq_iff_iff, e, decide_eq_true_eq]
theorem c_far_of {n : Int} (h : isSum n = true) (w : World) : Calls Tryz.prog 15 #[monV (monOf n)] w (RetV w (.tuple #[.int .i64 n, .int .i64 0])) := by
  have := c_far_t (monOf_m h) w
  rw [monN_of h] at this; exact this
theorem c_mny_N {m : Mon} (h : isMon m = true) (w : World) : Calls Tryz.prog 16 #[.int .i64 (monN m)] w (RetV w (.tuple #[monV m, .int .i64 0])) := by
  have := c_mny_t (monN_s h) w
  rw [monOf_N h] at this; exact this
theorem c_far_inc {m : Mon} (h : isMon m = true) (h3 : ¬ m.f = 3) (w : World) : Calls Tryz.prog 15 #[monV ⟨m.p, m.s, m.d, m.f + 1⟩] w (RetV w (.tuple #[.int .i64 (monN m + 1), .int .i64 0])) := by
  have hb := isMon_b h
  have hm : isMon ⟨m.p, m.s, m.d, m.f + 1⟩ = true := by
    simp only [isMon, Bool.and_eq_true, inB_iff]; omega
  have := c_far_t hm w
  rw [show monN ⟨m.p, m.s, m.d, m.f + 1⟩ = monN m + 1 from by simp only [monN]; omega] at this; exact this

end Go.Proofs


namespace Go.Proofs
open Go Go.Sx Go.RowKit

theorem pays_t {b : Bk} {t : List Int} (hb : isBk b = true) (ht : truOk b.lines t = true) : payPays b t = (paysL b t, 0) := by simp [payPays, hb, ht]
theorem pays_f {b : Bk} {t : List Int} (h : (isBk b && truOk b.lines t) = false) : payPays b t = ([], 2) := by simp only [payPays, h, Bool.false_eq_true, if_false]
theorem rest_t {b : Bk} {t : List Int} {h : Int} (hb : isBk b = true) (ht : truOk b.lines t = true) (hh : inB h 0 (b.hands - 1) = true) : payRest b t h = (restF b t h, 0) := by simp [payRest, hb, ht, hh]
theorem rest_f {b : Bk} {t : List Int} {h : Int} (hf : (isBk b && truOk b.lines t) = false) : payRest b t h = (0, 2) := by simp only [payRest, hf, Bool.false_and, Bool.false_eq_true, if_false]
theorem rest_h {b : Bk} {t : List Int} {h : Int} (hh : inB h 0 (b.hands - 1) = false) : payRest b t h = (0, 2) := by simp [payRest, hh]
section
variable {b : Bk} {a : Option Addr} {c : Nat} {t : List Int} {ta : Option Addr} {tc : Nat} {h : Int} {w : World}
theorem c_pays_t (hr : Ro w 0 w.heap.size a b.lines.length c 10 (b.lines.map linC)) (hrt : Ro w 0 w.heap.size ta t.length tc 1 (ints t)) (hb : isBk b = true) (ht : truOk b.lines t = true) : Calls Tryz.prog 25 #[bkV b a c, .slice ta t.length tc] w (Ret w (RSlE (paysL b t) 0)) := by
  have := pay_Pays b a c t ta tc w hr hrt
  rw [pays_t hb ht] at this; exact this
theorem c_pays_f (hr : Ro w 0 w.heap.size a b.lines.length c 10 (b.lines.map linC)) (hrt : Ro w 0 w.heap.size ta t.length tc 1 (ints t)) (hf : (isBk b && truOk b.lines t) = false) : Calls Tryz.prog 25 #[bkV b a c, .slice ta t.length tc] w (Ret w (RSlE [] 2)) := by
  have := pay_Pays b a c t ta tc w hr hrt
  rw [pays_f hf] at this; exact this
theorem c_rest_t (hr : Ro w 0 w.heap.size a b.lines.length c 10 (b.lines.map linC)) (hrt : Ro w 0 w.heap.size ta t.length tc 1 (ints t)) (hb : isBk b = true) (ht : truOk b.lines t = true) (hh : inB h 0 (b.hands - 1) = true) : Calls Tryz.prog 26 #[bkV b a c, .slice ta t.length tc, .int .i64 h] w (RetV w (.tuple #[.int .i64 (restF b t h), .int .i64 0])) := by
  have := pay_Rest b a c t ta tc h w hr hrt
  rw [rest_t hb ht hh] at this; exact this
theorem c_rest_f (hr : Ro w 0 w.heap.size a b.lines.length c 10 (b.lines.map linC)) (hrt : Ro w 0 w.heap.size ta t.length tc 1 (ints t)) (hf : payRest b t h = (0, 2)) : Calls Tryz.prog 26 #[bkV b a c, .slice ta t.length tc, .int .i64 h] w (RetV w (.tuple #[.int .i64 0, .int .i64 2])) := by
  have := pay_Rest b a c t ta tc h w hr hrt
  rw [hf] at this; exact this
end

end Go.Proofs


namespace Go.Proofs
open Go Go.Sx Go.RowKit

/-! # Plain laws of truths -/

def SpInv (of : List Int → Int) (is : List Int → Bool) (seen : List (List Int)) : Option (Int × Int) → Prop
  | none => ∀ t ∈ seen, is t = false
  | some s => (∃ t ∈ seen, is t = true ∧ of t = s.1) ∧ (∃ t ∈ seen, is t = true ∧ of t = s.2) ∧ ∀ t ∈ seen, is t = true → s.1 ≤ of t ∧ of t ≤ s.2
theorem sp_step {of : List Int → Int} {is : List Int → Bool} {seen : List (List Int)} {st : Option (Int × Int)} (h : SpInv of is seen st) (t : List Int) : SpInv of is (seen ++ [t]) (stepE of is st t) := by
  have hm : ∀ u, u ∈ seen ++ [t] ↔ u ∈ seen ∨ u = t := fun u => by simp
  by_cases ht : is t = true
  · cases st with
    | none =>
      simp only [stepE, ht, if_true, SpInv, Int.min_self, Int.max_self]
      refine ⟨⟨t, by simp, ht, rfl⟩, ⟨t, by simp, ht, rfl⟩, fun u hu hi => ?_⟩
      rcases (hm u).1 hu with h1 | rfl
      · have := h u h1; rw [hi] at this; cases this
      · exact ⟨Int.le_refl _, Int.le_refl _⟩
    | some s =>
      simp only [stepE, ht, if_true, SpInv]
      obtain ⟨⟨u1, h1, h2, h3⟩, ⟨u2, h4, h5, h6⟩, h7⟩ := h
      have e1 := Int.min_def s.1 (of t)
      have e2 := Int.max_def s.2 (of t)
      refine ⟨?_, ?_, fun u hu hi => ?_⟩
      · by_cases hle : s.1 ≤ of t
        · exact ⟨u1, (hm _).2 (.inl h1), h2, by rw [e1, if_pos hle]; exact h3⟩
        · exact ⟨t, by simp, ht, by rw [e1, if_neg hle]⟩
      · by_cases hle : s.2 ≤ of t
        · exact ⟨t, by simp, ht, by rw [e2, if_pos hle]⟩
        · exact ⟨u2, (hm _).2 (.inl h4), h5, by rw [e2, if_neg hle]; exact h6⟩
      · rcases (hm u).1 hu with h1 | rfl
        · have := h7 u h1 hi; omega
        · omega
  · have hf : is t = false := by simpa using ht
    have : stepE of is st t = st := by simp [stepE, hf]
    rw [this]
    cases st with
    | none =>
      intro u hu
      rcases (hm u).1 hu with h1 | rfl
      · exact h u h1
      · exact hf
    | some s =>
      obtain ⟨⟨u1, h1, h2, h3⟩, ⟨u2, h4, h5, h6⟩, h7⟩ := h
      refine ⟨⟨u1, (hm _).2 (.inl h1), h2, h3⟩, ⟨u2, (hm _).2 (.inl h4), h5, h6⟩, fun u hu hi => ?_⟩
      rcases (hm u).1 hu with h1 | rfl
      · exact h7 u h1 hi
      · rw [hf] at hi; cases hi
theorem sp_fold {of : List Int → Int} {is : List Int → Bool} : ∀ (L seen : List (List Int)) (st : Option (Int × Int)), SpInv of is seen st → SpInv of is (seen ++ L) (L.foldl (stepE of is) st)
  | [], seen, st, h => by simpa using h
  | t :: L, seen, st, h => by
    have := sp_fold L (seen ++ [t]) (stepE of is st t) (sp_step h t)
    simpa using this
theorem sp_inv (of : List Int → Int) (is : List Int → Bool) (L : List (List Int)) : SpInv of is L (spF of is L) := by
  have := sp_fold (of := of) (is := is) L [] none (fun t h => by cases h)
  simpa [spF] using this
theorem sp_none {of : List Int → Int} {is : List Int → Bool} {L : List (List Int)} (h : ∀ t ∈ L, is t = false) : spF of is L = none := by
  have := sp_inv of is L
  cases hq : spF of is L with
  | none => rfl
  | some s =>
    rw [hq] at this
    obtain ⟨⟨t, h1, h2, _⟩, _⟩ := this
    rw [h t h1] at h2; cases h2
theorem sp_some {of : List Int → Int} {is : List Int → Bool} {L : List (List Int)} {t : List Int} (h : t ∈ L) (hi : is t = true) : ∃ s, spF of is L = some s ∧ SpInv of is L (some s) := by
  have := sp_inv of is L
  cases hq : spF of is L with
  | none => rw [hq] at this; have := this t h; rw [hi] at this; cases this
  | some s => rw [hq] at this; exact ⟨s, rfl, this⟩
/-- Where two truths are the ends. -/
theorem sp_ends {of : List Int → Int} {L : List (List Int)} {u v : List Int} (hu : u ∈ L) (hv : v ∈ L) (h : ∀ t ∈ L, of u ≤ of t ∧ of t ≤ of v) : spF of (fun _ => true) L = some (of u, of v) := by
  obtain ⟨s, h1, ⟨t1, h2, _, h3⟩, ⟨t2, h4, _, h5⟩, h6⟩ := sp_some (of := of) (is := fun _ => true) hu rfl
  have a1 := h t1 h2
  have a2 := h t2 h4
  have a3 := h6 u hu rfl
  have a4 := h6 v hv rfl
  rw [h1, show s = (of u, of v) from Prod.ext (by show s.1 = of u; omega) (by show s.2 = of v; omega)]
theorem end_mem {b : Bk} (hb : isBk b = true) (m : Bool) : endL b m ∈ truL b := mem_truL.2 (endL_ok hb m)
theorem sp_all {b : Bk} (hb : isBk b = true) (of : List Int → Int) : ∃ s, spF of (fun _ => true) (truL b) = some s ∧ ∀ t, truOk b.lines t = true → s.1 ≤ of t ∧ of t ≤ s.2 := by
  obtain ⟨s, h1, _, _, h2⟩ := sp_some (of := of) (is := fun _ => true) (end_mem hb true) rfl
  exact ⟨s, h1, fun t ht => h2 t (mem_truL.2 ht) rfl⟩

/-! ### What is owed and what is paid -/

def sumK (b : Bk) (t : List Int) (h : Int) : Nat → Int
  | 0 => 0
  | k + 1 => match b.lines[k]?, t[k]? with
    | some l, some e => if l.hand = h then sumK b t h k + owesL b l e else sumK b t h k
    | _, _ => sumK b t h k
theorem sumK_succ {b : Bk} {t : List Int} {h : Int} {k : Nat} {l : Lin} {e : Int} (hl : b.lines[k]? = some l) (he : t[k]? = some e) : sumK b t h (k + 1) = if l.hand = h then sumK b t h k + owesL b l e else sumK b t h k := by
  simp only [sumK, hl, he]
theorem payK_fix {b : Bk} {t : List Int} {j : Nat} (ht : truOk b.lines t = true) : ∀ (d k : Nat) (x : Int), k + d ≤ b.lines.length → (payK b t k).1[j]? = some x → (payK b t (k + d)).1[j]? = some x
  | 0, _, _, _, h => h
  | d + 1, k, x, hk, h => by
    have hlen := (truOk_iff.1 ht).1
    have ih := payK_fix ht d k x (by omega) h
    obtain ⟨l, hl⟩ := some_get (xs := b.lines) (k := k + d) (by omega)
    obtain ⟨e, he⟩ := some_get (xs := t) (k := k + d) (by omega)
    rw [show k + (d + 1) = k + d + 1 from rfl, payK_succ hl he]
    rw [List.getElem?_append_left (List.getElem?_eq_some_iff.1 ih).1]
    exact ih
/-- What is paid in a line. -/
theorem paysL_at {b : Bk} {t : List Int} (ht : truOk b.lines t = true) {k : Nat} {l : Lin} {e : Int} (hl : b.lines[k]? = some l) (he : t[k]? = some e) :
    (paysL b t)[k]? = some ((owesL b l e + (payK b t k).2 l.hand) - (owesL b l e + (payK b t k).2 l.hand) % b.unit) := by
  have hlen := (truOk_iff.1 ht).1
  have hk := (List.getElem?_eq_some_iff.1 hl).1
  have h1 : (payK b t (k + 1)).1[k]? = some ((owesL b l e + (payK b t k).2 l.hand) - (owesL b l e + (payK b t k).2 l.hand) % b.unit) := by
    rw [payK_succ hl he]
    have h2 := payK_len hlen k (by omega)
    rw [List.getElem?_append_right (by omega), h2]
    simp
  have := payK_fix (j := k) ht (b.lines.length - (k + 1)) (k + 1) _ (by omega) h1
  rwa [show k + 1 + (b.lines.length - (k + 1)) = b.lines.length from by omega] at this
theorem emod_sub_self (n u : Int) : (n - n % u) % u = 0 := by
  rw [Int.sub_emod, Int.emod_emod_of_dvd n (Int.dvd_refl u), Int.sub_self, Int.zero_emod]
theorem paysL_mod {b : Bk} {t : List Int} (ht : truOk b.lines t = true) {k : Nat} {x : Int} (h : (paysL b t)[k]? = some x) : x % b.unit = 0 := by
  have hlen := (truOk_iff.1 ht).1
  have hpl := paysL_len hlen
  have hk := (List.getElem?_eq_some_iff.1 h).1
  obtain ⟨l, hl⟩ := some_get (xs := b.lines) (k := k) (by omega)
  obtain ⟨e, he⟩ := some_get (xs := t) (k := k) (by omega)
  rw [paysL_at ht hl he] at h
  cases h
  exact emod_sub_self _ _
/-- All that is owed to a hand is what it is paid and its rest. -/
theorem sum_law {b : Bk} {t : List Int} (hb : isBk b = true) (ht : truOk b.lines t = true) (h : Int) : ∀ k, k ≤ b.lines.length → sumK b t h k = toK b t h k + (payK b t k).2 h ∧ toK b t h k % b.unit = 0
  | 0, _ => by simp [sumK, toK, payK]
  | k + 1, hk => by
    have hlen := (truOk_iff.1 ht).1
    obtain ⟨ih, ih2⟩ := sum_law hb ht h k (by omega)
    obtain ⟨l, hl⟩ := some_get (xs := b.lines) (k := k) (by omega)
    obtain ⟨e, he⟩ := some_get (xs := t) (k := k) (by omega)
    have hp := paysL_at ht hl he
    rw [sumK_succ hl he, toK_succ hl hp, payK_succ hl he]
    by_cases hh : l.hand = h
    · subst hh
      simp only [if_true, upd]
      refine ⟨by omega, ?_⟩
      rw [Int.add_emod, ih2, emod_sub_self]; simp
    · have hne : ¬ (h = l.hand) := fun e => hh e.symm
      simp only [if_neg hh, upd, if_neg hne]
      exact ⟨ih, ih2⟩
theorem sumK_b {b : Bk} {t : List Int} {h : Int} (hb : isBk b = true) (ht : truOk b.lines t = true) : ∀ k, 0 ≤ sumK b t h k ∧ sumK b t h k ≤ k * 32000
  | 0 => by simp [sumK]
  | k + 1 => by
    have ih := sumK_b (h := h) hb ht k
    simp only [sumK]
    split
    · rename_i l e h1 h2
      have hin := (truOk_e hb ht h1 h2).2
      have := owesL_b hb (List.mem_of_getElem? h1) hin
      split <;> omega
    · omega
theorem sum_rest {b : Bk} {t : List Int} (hb : isBk b = true) (ht : truOk b.lines t = true) (h : Int) : toL b t h = sumK b t h b.lines.length - sumK b t h b.lines.length % b.unit := by
  obtain ⟨h1, h2⟩ := sum_law hb ht h b.lines.length (Nat.le_refl _)
  have h3 := payK_b (t := t) hb b.lines.length h
  have h4 : sumK b t h b.lines.length % b.unit = (payK b t b.lines.length).2 h := by
    rw [h1, Int.add_emod, h2, Int.zero_add, Int.emod_emod_of_dvd _ (Int.dvd_refl _), Int.emod_eq_of_lt h3.1 h3.2]
  rw [h4, toL]; omega
theorem toL_mod {b : Bk} {t : List Int} (hb : isBk b = true) (ht : truOk b.lines t = true) (h : Int) : toL b t h % b.unit = 0 := (sum_law hb ht h _ (Nat.le_refl _)).2

/-- More errors, less owed. -/
theorem owes_mono {b : Bk} {l : Lin} {e e' : Int} (hb : isBk b = true) (h : e ≤ e') : owesL b l e' ≤ owesL b l e := by
  have hbb := isBk_b hb
  have := Int.mul_le_mul_of_nonneg_left h hbb.2.2.2.2.1.1
  simp only [owesL]; omega
theorem sumK_mono {b : Bk} {t u : List Int} (hb : isBk b = true) (h : Int) (ht : t.length = b.lines.length) (hu : u.length = b.lines.length) (hle : ∀ (j : Nat) e f, t[j]? = some e → u[j]? = some f → e ≤ f) : ∀ k, k ≤ b.lines.length → sumK b u h k ≤ sumK b t h k
  | 0, _ => by simp [sumK]
  | k + 1, hk => by
    have ih := sumK_mono hb h ht hu hle k (by omega)
    obtain ⟨l, hl⟩ := some_get (xs := b.lines) (k := k) (by omega)
    obtain ⟨e, he⟩ := some_get (xs := t) (k := k) (by omega)
    obtain ⟨f, hf⟩ := some_get (xs := u) (k := k) (by omega)
    rw [sumK_succ hl he, sumK_succ hl hf]
    have := owes_mono (l := l) hb (hle k e f he hf)
    split <;> omega
theorem floor_mono {a b u : Int} (hu : 0 < u) (h : a ≤ b) : a - a % u ≤ b - b % u := by
  have h1 := Int.ediv_le_ediv hu h
  have h2 := Int.mul_ediv_add_emod a u
  have h3 := Int.mul_ediv_add_emod b u
  have h4 := Int.mul_le_mul_of_nonneg_left h1 (Int.le_of_lt hu)
  omega
theorem toL_mono {b : Bk} {t u : List Int} (hb : isBk b = true) (ht : truOk b.lines t = true) (hu : truOk b.lines u = true) (h : Int) (hle : ∀ (j : Nat) e f, t[j]? = some e → u[j]? = some f → e ≤ f) : toL b u h ≤ toL b t h := by
  have hbb := isBk_b hb
  rw [sum_rest hb ht, sum_rest hb hu]
  exact floor_mono (by omega) (sumK_mono hb h (truOk_iff.1 ht).1 (truOk_iff.1 hu).1 hle _ (Nat.le_refl _))
theorem end_le {b : Bk} {t : List Int} (ht : truOk b.lines t = true) : (∀ (j : Nat) e f, t[j]? = some e → (endL b true)[j]? = some f → e ≤ f) ∧ (∀ (j : Nat) e f, (endL b false)[j]? = some e → t[j]? = some f → e ≤ f) := by
  constructor
  · intro j e f h1 h2
    have hlt := (List.getElem?_eq_some_iff.1 h2).1
    rw [endL_len] at hlt
    obtain ⟨l, hl⟩ := some_get (xs := b.lines) (k := j) hlt
    rw [endL_get hl] at h2
    have := inB_iff.1 ((truOk_iff.1 ht).2 j l e hl h1)
    simp at h2; omega
  · intro j e f h1 h2
    have hlt := (List.getElem?_eq_some_iff.1 h1).1
    rw [endL_len] at hlt
    obtain ⟨l, hl⟩ := some_get (xs := b.lines) (k := j) hlt
    rw [endL_get hl] at h1
    have := inB_iff.1 ((truOk_iff.1 ht).2 j l f hl h2)
    simp at h1; omega
/-- Both ends of what a hand is paid. -/
theorem total_ends {b : Bk} (hb : isBk b = true) (h : Int) : spF (fun t => toL b t h) (fun _ => true) (truL b) = some (toL b (endL b true) h, toL b (endL b false) h) :=
  sp_ends (of := fun t => toL b t h) (end_mem hb true) (end_mem hb false) (fun t ht => by
    have ht' := mem_truL.1 ht
    exact ⟨toL_mono hb ht' (endL_ok hb true) h (end_le ht').1, toL_mono hb (endL_ok hb false) ht' h (end_le ht').2⟩)
theorem payTotal_t {b : Bk} {h : Int} (hb : isBk b = true) (hh : inB h 0 (b.hands - 1) = true) : payTotal b h = ((toL b (endL b true) h, toL b (endL b false) h), 0) := by
  simp only [payTotal, hb, hh, Bool.and_self, if_true, total_ends hb h, endsV]
theorem payTotal_f {b : Bk} {h : Int} (hf : (isBk b && inB h 0 (b.hands - 1)) = false) : payTotal b h = ((0, 0), 2) := by simp only [payTotal, hf, Bool.false_eq_true, if_false]
theorem owed_ends {b : Bk} (hb : isBk b = true) {k : Nat} {l : Lin} (hl : b.lines[k]? = some l) : spF (fun t => owesAt b t k) (fun _ => true) (truL b) = some (owesL b l l.hi, owesL b l l.lo) := by
  have e1 : owesAt b (endL b true) k = owesL b l l.hi := by simp [owesAt, hl, endL_get hl]
  have e2 : owesAt b (endL b false) k = owesL b l l.lo := by simp [owesAt, hl, endL_get hl]
  rw [← e1, ← e2]
  refine sp_ends (of := fun t => owesAt b t k) (end_mem hb true) (end_mem hb false) (fun t ht => ?_)
  have ht' := mem_truL.1 ht
  have hlt := (List.getElem?_eq_some_iff.1 hl).1
  have hlen := (truOk_iff.1 ht').1
  obtain ⟨e, he⟩ := some_get (xs := t) (k := k) (by omega)
  have h1 := inB_iff.1 ((truOk_iff.1 ht').2 k l e hl he)
  simp only [e1, e2]
  simp only [owesAt, hl, he]
  exact ⟨owes_mono hb h1.2, owes_mono hb h1.1⟩
theorem payOwed_t {b : Bk} {k : Nat} {l : Lin} (hb : isBk b = true) (hl : b.lines[k]? = some l) : payOwed b (k : Int) = ((owesL b l l.hi, owesL b l l.lo), 0) := by
  have hlt := (List.getElem?_eq_some_iff.1 hl).1
  have hin : inB (k : Int) 0 (b.lines.length - 1) = true := inB_iff.2 (by omega)
  simp only [payOwed, hb, hin, Bool.and_self, if_true, Int.toNat_natCast, owed_ends hb hl, endsV]
theorem payOwed_f {b : Bk} {k : Int} (hf : (isBk b && inB k 0 (b.lines.length - 1)) = false) : payOwed b k = ((0, 0), 2) := by simp only [payOwed, hf, Bool.false_eq_true, if_false]
theorem payAt_b {b : Bk} {t : List Int} {k : Nat} {x : Int} (hb : isBk b = true) (ht : truOk b.lines t = true) (hx : (paysL b t)[k]? = some x) : (payAt b k).1 ≤ x ∧ x ≤ (payAt b k).2 := by
  obtain ⟨s, h1, h2⟩ := sp_all hb (fun t => (paysL b t).getD k 0)
  have h3 := h2 t ht
  simp only [payAt, h1, endsV]
  simp only [List.getD, hx, Option.getD_some] at h3
  exact h3

end Go.Proofs


namespace Go.Proofs
open Go Go.Sx Go.RowKit

section
variable {b : Bk} {a : Option Addr} {c : Nat} {h : Int} {w : World}
theorem c_bounds_t (hr : Ro w 0 w.heap.size a b.lines.length c 10 (b.lines.map linC)) (hb : isBk b = true) : Calls Tryz.prog 35 #[bkV b a c] w (Ret w (RSpE (bdL b b.lines.length) 0)) := by
  have := pay_Bounds b a c w hr
  rw [payBounds_t hb] at this; exact this
theorem c_bounds_f (hr : Ro w 0 w.heap.size a b.lines.length c 10 (b.lines.map linC)) (hb : isBk b = false) : Calls Tryz.prog 35 #[bkV b a c] w (Ret w (RSpE [] 2)) := by
  have := pay_Bounds b a c w hr
  rw [payBounds_f hb] at this; exact this
theorem c_total_t (hr : Ro w 0 w.heap.size a b.lines.length c 10 (b.lines.map linC)) (hb : isBk b = true) (hh : inB h 0 (b.hands - 1) = true) : Calls Tryz.prog 36 #[bkV b a c, .int .i64 h] w (RetV w (.tuple #[spanV (toL b (endL b true) h, toL b (endL b false) h), .int .i64 0])) := by
  have := pay_Total b a c h w hr
  rw [payTotal_t hb hh] at this; exact this
theorem c_total_f (hr : Ro w 0 w.heap.size a b.lines.length c 10 (b.lines.map linC)) (hf : (isBk b && inB h 0 (b.hands - 1)) = false) : Calls Tryz.prog 36 #[bkV b a c, .int .i64 h] w (RetV w (.tuple #[spanV (0, 0), .int .i64 2])) := by
  have := pay_Total b a c h w hr
  rw [payTotal_f hf] at this; exact this
theorem c_owed_t {k : Nat} {l : Lin} (hr : Ro w 0 w.heap.size a b.lines.length c 10 (b.lines.map linC)) (hb : isBk b = true) (hl : b.lines[k]? = some l) : Calls Tryz.prog 37 #[bkV b a c, .int .i64 (k : Int)] w (RetV w (.tuple #[spanV (owesL b l l.hi, owesL b l l.lo), .int .i64 0])) := by
  have := pay_Owed b a c (k : Int) w hr
  rw [payOwed_t hb hl] at this; exact this
end

end Go.Proofs


namespace Go.Proofs
open Go Go.Sx Go.RowKit

set_option maxRecDepth 20000 in
theorem ref_End (b : Bk) (a : Option Addr) (c : Nat) (m : Bool) (w : World) (hr : Ro w 0 w.heap.size a b.lines.length c 10 (b.lines.map linC)) (hb : isBk b = true) : Calls Tryz.prog 42 #[bkV b a c, .bool m] w (Ret w (RSl (endL b m))) := by
  have hbb := isBk_b hb
  refine calls_T (av := [_, _]) Tryz.func42 rfl rfl rfl ?_
  refine t_seq ?_
  refine t_reg ?_
  refine to_box rfl rfl (fun b2 => ?_)
  refine to_as rfl rfl ?_
  refine to_nil ?_
  refine tn_code ?_
  refine t_seq ?_
  refine t_reg ?_
  refine to_as rfl rfl ?_
  refine to_nil ?_
  refine tn_code ?_
  refine t_seq ?_
  refine t_seq ?_
  refine t_reg ?_
  refine to_as rfl rfl ?_
  refine to_nil ?_
  refine tn_code ?_
  refine t_blk ?_
  refine t_nilrow 3 1 ?_
  refine t_loop2 (ι := Nat × Option Addr × Nat) (fun ((k, a', c') : Nat × Option Addr × Nat) => k ≤ b.lines.length) (fun ((k, a', c') : Nat × Option Addr × Nat) => [(1, .bool m), (2, (.pointer (some ⟨b2, 0, none⟩))), (5, .slice a' k c'), (6, (.int .i64 (k : Int)))]) (fun ((k, a', c') : Nat × Option Addr × Nat) => [.row a' k c' 3 1 (ints ((endL b m).take k)), .own b2 (isC (bkC b a c) 40), .snap 0 w.heap.size w]) (fun ((k, a', c') : Nat × Option Addr × Nat) => b.lines.length - k) ((0, none, 0)) [.row none 0 0 3 1 [], .own b2 (isC (bkC b a c) 40), .snap 0 w.heap.size w] (rfl) (Nat.zero_le _) (⟨rfl, rfl, rfl, rfl, trivial⟩) ?_
  rintro ⟨k, a', c'⟩ hk
  try dsimp only at hk
  show T _ _ _ ⟨_, [(1, .bool m), (2, (.pointer (some ⟨b2, 0, none⟩))), (5, .slice a' k c'), (6, (.int .i64 (k : Int)))], _⟩ [.row a' k c' 3 1 (ints ((endL b m).take k)), .own b2 (isC (bkC b a c) 40), .snap 0 w.heap.size w]
  refine t_seq ?_
  refine t_seq ?_
  refine t_reg ?_
  refine to_mv rfl rfl ?_
  first | refine to_fa rfl rfl rfl (by simp only [Nat.reduceAdd]; rfl) rfl ?_ | refine to_fae rfl rfl rfl (by simp only [Nat.reduceAdd]; rfl) rfl ?_
  first | refine to_lds rfl rfl rfl ?_ | refine to_ldes rfl (by assumption) rfl rfl ?_
  refine to_lenS rfl rfl ?_
  refine to_lss rfl rfl rfl ?_
  refine to_nil ?_
  refine tn_code ?_
  refine t_if rfl (fun h1 => ?_) (fun h1 => ?_)
  · try simp only [decide_eq_true_eq, decide_eq_false_iff_not, Bool.not_eq_true', Bool.not_eq_false', Int.not_lt, Int.not_le, ne_eq, Decidable.not_not] at h1
    try have h1b := inB_iff.1 h1
    obtain ⟨l, hl⟩ := some_get (xs := b.lines) (k := k) (by omega)
    have hx := map_get (f := linC) hl
    refine t_skip ?_
    refine tn_code ?_
    refine t_seq ?_
    refine t_blk ?_
    refine t_seq ?_
    refine t_reg ?_
    refine to_mv rfl rfl ?_
    refine to_nil ?_
    refine tn_code ?_
    refine t_if rfl (fun h2 => ?_) (fun h2 => ?_)
    · try simp only [decide_eq_true_eq, decide_eq_false_iff_not, Bool.not_eq_true', Bool.not_eq_false', Int.not_lt, Int.not_le, ne_eq, Decidable.not_not] at h2
      try have h2b := inB_iff.1 h2
      refine t_reg ?_
      refine to_mv rfl rfl ?_
      first | refine to_fa rfl rfl rfl (by simp only [Nat.reduceAdd]; rfl) rfl ?_ | refine to_fae rfl rfl rfl (by simp only [Nat.reduceAdd]; rfl) rfl ?_
      first | refine to_lds rfl rfl rfl ?_ | refine to_ldes rfl (by assumption) rfl rfl ?_
      refine to_mv rfl rfl ?_
      first | refine to_ix rfl rfl rfl (by first | omega | decide) (by first | omega | decide) rfl ?_ | refine to_ixi rfl rfl rfl (by omega) (by omega) (by omega) rfl ?_
      first | refine to_fa rfl rfl rfl (by simp only [Nat.reduceAdd]; rfl) rfl ?_ | refine to_fae rfl rfl rfl (by simp only [Nat.reduceAdd]; rfl) rfl ?_
      first | refine to_fa rfl rfl rfl (by simp only [Nat.reduceAdd]; rfl) rfl ?_ | refine to_fae rfl rfl rfl (by simp only [Nat.reduceAdd]; rfl) rfl ?_
      first | refine to_lds rfl rfl rfl ?_ | refine to_ldes rfl (by assumption) rfl rfl ?_
      refine to_bsl rfl rfl rfl rfl (fun a23 => ?_)
      refine to_app rfl rfl rfl (by simp [scals, scal]) (by decide) (by omega) (by decide) rfl (fun a24 c24 => ?_)
      refine to_as rfl rfl ?_
      refine to_nil ?_
      refine tn_blk ?_
      refine tn_code ?_
      refine t_reg ?_
      refine to_mv rfl rfl ?_
      refine to_add rfl rfl (by omega) rfl ?_
      refine to_as rfl rfl ?_
      refine to_nil ?_
      exact tn_loop2 ((k + 1, a24, c24)) [.row a24 (k + 1) c24 3 1 (ints ((endL b m).take k) ++ [[.int .i64 l.hi]]), .own b2 (isC (bkC b a c) 40), .snap 0 w.heap.size w] (by dsimp only; rw [take_snoc (endL_get (m := m) hl), ints_snoc, h2]; rfl) (by dsimp only; omega) (by dsimp only; omega) (⟨rfl, rfl, rfl, rfl, trivial⟩)
    · try simp only [decide_eq_true_eq, decide_eq_false_iff_not, Bool.not_eq_true', Bool.not_eq_false', Int.not_lt, Int.not_le, ne_eq, Decidable.not_not] at h2
      try have h2b := inB_iff.1 h2
      refine t_reg ?_
      refine to_mv rfl rfl ?_
      first | refine to_fa rfl rfl rfl (by simp only [Nat.reduceAdd]; rfl) rfl ?_ | refine to_fae rfl rfl rfl (by simp only [Nat.reduceAdd]; rfl) rfl ?_
      first | refine to_lds rfl rfl rfl ?_ | refine to_ldes rfl (by assumption) rfl rfl ?_
      refine to_mv rfl rfl ?_
      first | refine to_ix rfl rfl rfl (by first | omega | decide) (by first | omega | decide) rfl ?_ | refine to_ixi rfl rfl rfl (by omega) (by omega) (by omega) rfl ?_
      first | refine to_fa rfl rfl rfl (by simp only [Nat.reduceAdd]; rfl) rfl ?_ | refine to_fae rfl rfl rfl (by simp only [Nat.reduceAdd]; rfl) rfl ?_
      first | refine to_fa rfl rfl rfl (by simp only [Nat.reduceAdd]; rfl) rfl ?_ | refine to_fae rfl rfl rfl (by simp only [Nat.reduceAdd]; rfl) rfl ?_
      first | refine to_lds rfl rfl rfl ?_ | refine to_ldes rfl (by assumption) rfl rfl ?_
      refine to_bsl rfl rfl rfl rfl (fun a33 => ?_)
      refine to_app rfl rfl rfl (by simp [scals, scal]) (by decide) (by omega) (by decide) rfl (fun a34 c34 => ?_)
      refine to_as rfl rfl ?_
      refine to_nil ?_
      refine tn_blk ?_
      refine tn_code ?_
      refine t_reg ?_
      refine to_mv rfl rfl ?_
      refine to_add rfl rfl (by omega) rfl ?_
      refine to_as rfl rfl ?_
      refine to_nil ?_
      exact tn_loop2 ((k + 1, a34, c34)) [.row a34 (k + 1) c34 3 1 (ints ((endL b m).take k) ++ [[.int .i64 l.lo]]), .own b2 (isC (bkC b a c) 40), .snap 0 w.heap.size w] (by dsimp only; rw [take_snoc (endL_get (m := m) hl), ints_snoc, h2]; rfl) (by dsimp only; omega) (by dsimp only; omega) (⟨rfl, rfl, rfl, rfl, trivial⟩)
  · try simp only [decide_eq_true_eq, decide_eq_false_iff_not, Bool.not_eq_true', Bool.not_eq_false', Int.not_lt, Int.not_le, ne_eq, Decidable.not_not] at h1
    try have h1b := inB_iff.1 h1
    have hk2 : k = b.lines.length := by omega
    subst hk2
    have hta : (endL b m).take b.lines.length = endL b m := List.take_of_length_le (by rw [endL_len]; exact Nat.le_refl _)
    refine t_exit ?_
    refine tx_code ?_
    refine tx_inv ?_
    refine tx_blk ?_
    refine tn_code ?_
    refine t_seq ?_
    refine t_reg ?_
    refine to_mv rfl rfl ?_
    refine to_as rfl rfl ?_
    refine to_nil ?_
    refine tn_code ?_
    refine t_ret1 rfl rfl (res_tmp rfl) (fun w' s => ?_)
    rw [RSl, endL_len, ← hta]
    exact ⟨_, _, rfl, ro_row s⟩

end Go.Proofs


namespace Go.Proofs
open Go Go.Sx Go.RowKit

end Go.Proofs


namespace Go.Proofs
open Go Go.Sx Go.RowKit

/-! # Plain laws of agreement -/

theorem befI_irr : ∀ (xs : List Int), befI xs xs = false
  | [] => rfl
  | x :: xs => by simp [befI, befI_irr xs]
theorem befI_asym : ∀ {xs ys : List Int}, befI xs ys = true → befI ys xs = false
  | [], [], h => by simp [befI] at h
  | [], _ :: _, _ => rfl
  | _ :: _, [], h => by simp [befI] at h
  | x :: xs, y :: ys, h => by
    by_cases he : x = y
    · subst he; simp only [befI, if_true] at h ⊢; exact befI_asym h
    · have he' : ¬ (y = x) := fun e => he e.symm
      simp only [befI, he, if_false, decide_eq_true_eq] at h
      simp only [befI, he', if_false, decide_eq_false_iff_not]; omega
theorem befI_tot : ∀ {xs ys : List Int}, xs.length = ys.length → befI xs ys = false → befI ys xs = false → xs = ys
  | [], [], _, _, _ => rfl
  | [], _ :: _, h, _, _ => by simp at h
  | _ :: _, [], h, _, _ => by simp at h
  | x :: xs, y :: ys, h, h1, h2 => by
    by_cases he : x = y
    · subst he; simp only [befI, if_true] at h1 h2; rw [befI_tot (by simpa using h) h1 h2]
    · have he' : ¬ (y = x) := fun e => he e.symm
      simp only [befI, he, if_false, decide_eq_false_iff_not] at h1
      simp only [befI, he', if_false, decide_eq_false_iff_not] at h2
      omega
theorem befI_app : ∀ (pre xs ys : List Int), befI (pre ++ xs) (pre ++ ys) = befI xs ys
  | [], _, _ => rfl
  | p :: pre, xs, ys => by simp [befI, befI_app pre xs ys]
theorem rngN_up : ∀ (lo : Int) (k : Nat), (rngN lo k).Pairwise (fun a b => a < b)
  | _, 0 => .nil
  | lo, k + 1 => .cons (fun x hx => by have := (mem_rngN.1 hx).1; omega) (rngN_up (lo + 1) k)
theorem ext_up : ∀ (ls : List Lin) (pre : List Int), (extL ls pre).Pairwise (fun u v => befI u v = true)
  | [], pre => by simp [extL]
  | l :: ls, pre => by
    simp only [extL]
    rw [List.pairwise_flatMap]
    refine ⟨fun n _ => ext_up ls (pre ++ [n]), (rngN_up _ _).imp ?_⟩
    intro n m hnm x hx y hy
    obtain ⟨s1, rfl, _⟩ := mem_extL.1 hx
    obtain ⟨s2, rfl, _⟩ := mem_extL.1 hy
    rw [List.append_assoc, List.append_assoc, befI_app]
    have : ¬ (n = m) := by omega
    simp [befI, this, hnm]
theorem firL_mem {b : Bk} {t : List Int} (h : firL b = some t) : truOk b.lines t = true ∧ rigB b t = true :=
  ⟨mem_truL.1 (List.mem_of_find?_eq_some h), List.find?_some h⟩
/-- The first truth that agrees is before each other. -/
theorem firL_least {b : Bk} {t u : List Int} (h : firL b = some t) (hu : truOk b.lines u = true) (hr : rigB b u = true) : befI u t = false := by
  obtain ⟨_, us, vs, h2, h3⟩ := List.find?_eq_some_iff_append.1 h
  have hm := mem_truL.2 hu
  have hp : (truL b).Pairwise (fun u v => befI u v = true) := ext_up _ _
  rw [h2] at hm hp
  rcases List.mem_append.1 hm with hm | hm
  · have := h3 u hm; rw [hr] at this; cases this
  · rcases List.mem_cons.1 hm with rfl | hm
    · exact befI_irr _
    · exact befI_asym ((List.pairwise_cons.1 (List.pairwise_append.1 hp).2.1).1 u hm)
theorem firL_is {b : Bk} {t : List Int} (ht : truOk b.lines t = true) (hr : rigB b t = true) : ∃ u, firL b = some u := by
  have : (firL b).isSome = true := by rw [firL, List.find?_isSome]; exact ⟨t, mem_truL.2 ht, hr⟩
  exact Option.isSome_iff_exists.1 this
theorem firL_of {b : Bk} {t : List Int} (ht : truOk b.lines t = true) (hr : rigB b t = true) (hl : ∀ u, truOk b.lines u = true → rigB b u = true → befI u t = false) : firL b = some t := by
  obtain ⟨u, hu⟩ := firL_is ht hr
  obtain ⟨h1, h2⟩ := firL_mem hu
  rw [hu, befI_tot (by rw [(truOk_iff.1 h1).1, (truOk_iff.1 ht).1]) (hl u h1 h2) (firL_least hu ht hr)]
theorem rig_iff {b : Bk} {t : List Int} : rigB b t = true ↔ ∀ (k : Nat) (l : Lin) (x : Int), b.lines[k]? = some l → (paysL b t)[k]? = some x → x = monN l.paid := by
  constructor
  · intro h k l x h1 h2
    by_cases hne : x = monN l.paid
    · exact hne
    · rw [rigB_f h1 h2 hne] at h; cases h
  · exact fun h => rigB_t (fun j _ l x h1 h2 => h j l x h1 h2)
theorem payK_cong {b b' : Bk} {t t' : List Int} (hu : b.unit = b'.unit) : ∀ k, (∀ j, j < k → ∃ l e l' e', b.lines[j]? = some l ∧ t[j]? = some e ∧ b'.lines[j]? = some l' ∧ t'[j]? = some e' ∧ l.hand = l'.hand ∧ owesL b l e = owesL b' l' e') → payK b t k = payK b' t' k
  | 0, _ => rfl
  | k + 1, h => by
    have ih := payK_cong hu k (fun j hj => h j (by omega))
    obtain ⟨l, e, l', e', h1, h2, h3, h4, h5, h6⟩ := h k (by omega)
    rw [payK_succ h1 h2, payK_succ h3 h4, ih, h5, h6, hu]

/-! ### The first lines of a book -/

theorem unt_get {b : Bk} {j k : Nat} (h : j < k + 1) : (untL b k).lines[j]? = b.lines[j]? := by
  show (b.lines.take (k + 1))[j]? = _
  rw [List.getElem?_take, if_pos h]
theorem unt_pay {b : Bk} {t : List Int} {k : Nat} (hk : k < b.lines.length) (ht : truOk b.lines t = true) : paysL (untL b k) (t.take (k + 1)) = (payK b t (k + 1)).1 := by
  have hlen := (truOk_iff.1 ht).1
  rw [paysL, untL_len hk]
  refine congrArg Prod.fst (payK_cong (b := untL b k) (b' := b) rfl _ (fun j hj => ?_))
  obtain ⟨l, hl⟩ := some_get (xs := b.lines) (k := j) (by omega)
  obtain ⟨e, he⟩ := some_get (xs := t) (k := j) (by omega)
  exact ⟨l, e, l, e, (unt_get hj).trans hl, by rw [List.getElem?_take, if_pos hj]; exact he, hl, he, rfl, rfl⟩
theorem unt_rig {b : Bk} {t : List Int} {k : Nat} (hk : k < b.lines.length) (ht : truOk b.lines t = true) (hr : rigB b t = true) : truOk (untL b k).lines (t.take (k + 1)) = true ∧ rigB (untL b k) (t.take (k + 1)) = true := by
  have hlen := (truOk_iff.1 ht).1
  have hlk := untL_len hk
  refine ⟨truOk_iff.2 ⟨by rw [List.length_take, hlk]; omega, fun j l e h1 h2 => ?_⟩, rig_iff.2 fun j l x h1 h2 => ?_⟩
  · have hj := (List.getElem?_eq_some_iff.1 h1).1
    rw [hlk] at hj
    rw [unt_get hj] at h1
    rw [List.getElem?_take, if_pos hj] at h2
    exact (truOk_iff.1 ht).2 j l e h1 h2
  · have hj := (List.getElem?_eq_some_iff.1 h1).1
    rw [hlk] at hj
    rw [unt_get hj] at h1
    rw [unt_pay hk ht] at h2
    have h3 := payK_fix ht (b.lines.length - (k + 1)) (k + 1) x (by omega) h2
    rw [show k + 1 + (b.lines.length - (k + 1)) = b.lines.length from by omega] at h3
    exact rig_iff.1 hr j l x h1 h3
theorem unt_some {b : Bk} {k : Nat} (hk : k < b.lines.length) (h : (firL b).isSome = true) : (firL (untL b k)).isSome = true := by
  obtain ⟨t, ht⟩ := Option.isSome_iff_exists.1 h
  obtain ⟨h1, h2⟩ := firL_mem ht
  obtain ⟨h3, h4⟩ := unt_rig hk h1 h2
  obtain ⟨u, hu⟩ := firL_is h3 h4
  rw [hu]; rfl
theorem unt_unt {b : Bk} {j k : Nat} (h : j ≤ k) : untL (untL b k) j = untL b j := by
  simp only [untL, List.take_take]
  rw [show min (j + 1) (k + 1) = j + 1 from by omega]
theorem unt_all {b : Bk} {k : Nat} (h : k + 1 = b.lines.length) : untL b k = b := by
  simp only [untL, h, List.take_length]
theorem first_t {b : Bk} (hb : isBk b = true) (h : (firL b).isSome = true) : payFirst b = (0, 5) := payFirst_none hb (fun _ hj => unt_some hj h)
theorem first_f {b : Bk} (hb : isBk b = true) (h : (firL b).isSome = false) : ∃ k : Nat, k < b.lines.length ∧ payFirst b = ((k : Int), 0) ∧ ∀ j, j < b.lines.length → (firL (untL b j)).isSome = decide (j < k) := by
  have hbb := isBk_b hb
  cases hq : (List.range b.lines.length).find? (fun k => (firL (untL b k)).isNone) with
  | none =>
    rw [List.find?_range_eq_none] at hq
    have := hq (b.lines.length - 1) (by omega)
    rw [unt_all (by omega)] at this
    simp at this
    rw [this] at h; cases h
  | some k =>
    refine ⟨k, ?_⟩
    have hp : payFirst b = ((k : Int), 0) := by simp only [payFirst, hb, if_true, hq]
    rw [List.find?_range_eq_some] at hq
    obtain ⟨h1, h2, h3⟩ := hq
    have hk : k < b.lines.length := by simpa using h2
    refine ⟨hk, hp, fun j hj => ?_⟩
    by_cases hjk : j < k
    · have := h3 j hjk
      simp only [hjk, decide_true]
      simpa using this
    · simp only [hjk, decide_false]
      cases hs : (firL (untL b j)).isSome with
      | false => rfl
      | true =>
        have := unt_some (b := untL b j) (k := k) (by rw [untL_len hj]; omega) hs
        rw [unt_unt (by omega)] at this
        rw [Option.isNone_iff_eq_none] at h1
        rw [h1] at this; cases this

/-! ### What is found of errors -/

def ErIn (b : Bk) (k : Nat) (s : Int × Int) : Prop :=
  (∀ u e, truOk b.lines u = true → rigB b u = true → u[k]? = some e → s.1 ≤ e ∧ e ≤ s.2) ∧ (∃ u, truOk b.lines u = true ∧ rigB b u = true ∧ u[k]? = some s.1) ∧ (∃ u, truOk b.lines u = true ∧ rigB b u = true ∧ u[k]? = some s.2)
theorem errors_t {b : Bk} (hb : isBk b = true) {k : Nat} {l : Lin} (hl : b.lines[k]? = some l) (h : (firL b).isSome = true) : ∃ s, payErrors b (k : Int) = (s, 0) ∧ (l.lo ≤ s.1 ∧ s.1 ≤ s.2 ∧ s.2 ≤ l.hi) ∧ ErIn b k s := by
  obtain ⟨t, ht⟩ := Option.isSome_iff_exists.1 h
  obtain ⟨ht1, ht2⟩ := firL_mem ht
  have hlt := (List.getElem?_eq_some_iff.1 hl).1
  have hin : inB (k : Int) 0 (b.lines.length - 1) = true := inB_iff.2 (by omega)
  obtain ⟨s, h1, ⟨u, h2, h3, h4⟩, ⟨v, h5, h6, h7⟩, h8⟩ := sp_some (of := fun t => t.getD k 0) (is := rigB b) (mem_truL.2 ht1) ht2
  have key : ∀ t, truOk b.lines t = true → t[k]? = some (t.getD k 0) := by
    intro t ht
    obtain ⟨e, he⟩ := some_get (xs := t) (k := k) (by rw [(truOk_iff.1 ht).1]; exact hlt)
    rw [List.getD, he]; rfl
  have hu1 := key u (mem_truL.1 h2)
  have hv1 := key v (mem_truL.1 h5)
  have hu2 := inB_iff.1 ((truOk_iff.1 (mem_truL.1 h2)).2 k l _ hl hu1)
  have hv2 := inB_iff.1 ((truOk_iff.1 (mem_truL.1 h5)).2 k l _ hl hv1)
  have huv := h8 u h2 h3
  simp only at h4 h7 huv
  rw [h4] at hu1 hu2
  rw [h7] at hv1 hv2
  refine ⟨s, by simp only [payErrors, hb, hin, Bool.and_self, if_true, Int.toNat_natCast, h1, endsV], ⟨hu2.1, by omega, hv2.2⟩, fun w e hw1 hw2 he => ?_, ⟨u, mem_truL.1 h2, h3, hu1⟩, ⟨v, mem_truL.1 h5, h6, hv1⟩⟩
  have := h8 w (mem_truL.2 hw1) hw2
  simp only [List.getD, he, Option.getD_some] at this
  exact this
theorem errors_f {b : Bk} (hb : isBk b = true) {k : Nat} (hk : k < b.lines.length) (h : (firL b).isSome = false) : payErrors b (k : Int) = ((0, 0), 5) := by
  have hin : inB (k : Int) 0 (b.lines.length - 1) = true := inB_iff.2 (by omega)
  have hn : spF (fun t => t.getD k 0) (rigB b) (truL b) = none := sp_none (fun t ht => by
    cases hr : rigB b t with
    | false => rfl
    | true => obtain ⟨u, hu⟩ := firL_is (mem_truL.1 ht) hr; rw [hu] at h; cases h)
  simp only [payErrors, hb, hin, Bool.and_self, if_true, Int.toNat_natCast, hn, endsV]

/-! ### A book with one line's errors told -/

def exB (b : Bk) (k : Nat) (l : Lin) (lo hi : Int) : Bk := { b with lines := b.lines.set k { l with lo := lo, hi := hi } }
section
variable {b : Bk} {k : Nat} {l : Lin} {lo hi : Int}
theorem ex_len : (exB b k l lo hi).lines.length = b.lines.length := by simp [exB]
theorem ex_at (hk : k < b.lines.length) : (exB b k l lo hi).lines[k]? = some { l with lo := lo, hi := hi } := by simp [exB, hk]
theorem ex_ne {j : Nat} (h : j ≠ k) : (exB b k l lo hi).lines[j]? = b.lines[j]? := by
  have : ¬ (k = j) := fun e => h e.symm
  simp [exB, List.getElem?_set, this]
theorem ex_ok (hb : isBk b = true) (hl : b.lines[k]? = some l) (h1 : l.lo ≤ lo) (h2 : lo ≤ hi) (h3 : hi ≤ l.hi) : isBk (exB b k l lo hi) = true := by
  have hbl := isBk_l hb (List.mem_of_getElem? hl)
  have hlb := isLin_b hbl
  have hall : (exB b k l lo hi).lines.all (isLin b.hands) = true := by
    rw [List.all_eq_true]
    intro x hx
    obtain ⟨j, hj⟩ := List.mem_iff_getElem?.1 hx
    by_cases hjk : j = k
    · subst hjk
      rw [ex_at (List.getElem?_eq_some_iff.1 hl).1] at hj
      cases hj
      simp only [isLin, Bool.and_eq_true, inB_iff] at hbl ⊢
      refine ⟨⟨⟨⟨⟨⟨?_, ?_⟩, ?_⟩, ?_⟩, ?_⟩, ?_⟩, hbl.2⟩ <;> omega
    · rw [ex_ne hjk] at hj
      exact isBk_l hb (List.mem_of_getElem? hj)
  simp only [isBk, Bool.and_eq_true] at hb ⊢
  rw [ex_len]
  exact ⟨hb.1, hall⟩
theorem ex_pay (hl : b.lines[k]? = some l) {t : List Int} (ht : t.length = b.lines.length) : paysL (exB b k l lo hi) t = paysL b t := by
  rw [paysL, paysL, ex_len]
  refine congrArg Prod.fst (payK_cong (b := exB b k l lo hi) (b' := b) rfl _ (fun j hj => ?_))
  obtain ⟨e, he⟩ := some_get (xs := t) (k := j) (by omega)
  by_cases hjk : j = k
  · subst hjk
    exact ⟨_, e, l, e, ex_at hj, he, hl, he, rfl, rfl⟩
  · obtain ⟨m, hm⟩ := some_get (xs := b.lines) (k := j) hj
    exact ⟨m, e, m, e, (ex_ne hjk).trans hm, he, hm, he, rfl, rfl⟩
theorem ex_rig (hl : b.lines[k]? = some l) {t : List Int} (ht : t.length = b.lines.length) : rigB (exB b k l lo hi) t = rigB b t := by
  have hk := (List.getElem?_eq_some_iff.1 hl).1
  rw [Bool.eq_iff_iff, rig_iff, rig_iff, ex_pay hl ht]
  constructor
  · intro h j m x h1 h2
    by_cases hjk : j = k
    · subst hjk; rw [hl] at h1; cases h1; have h3 := h j _ x (ex_at hk) h2; exact h3
    · exact h j m x ((ex_ne hjk).trans h1) h2
  · intro h j m x h1 h2
    by_cases hjk : j = k
    · subst hjk; rw [ex_at hk] at h1; cases h1; exact h j l x hl h2
    · exact h j m x ((ex_ne hjk).symm.trans h1) h2
theorem ex_tru (hl : b.lines[k]? = some l) (h1 : l.lo ≤ lo) (h2 : hi ≤ l.hi) {t : List Int} : truOk (exB b k l lo hi).lines t = true ↔ truOk b.lines t = true ∧ ∀ e, t[k]? = some e → lo ≤ e ∧ e ≤ hi := by
  have hk := (List.getElem?_eq_some_iff.1 hl).1
  rw [truOk_iff, truOk_iff, ex_len]
  constructor
  · rintro ⟨h3, h4⟩
    refine ⟨⟨h3, fun j m e h5 h6 => ?_⟩, fun e he => ?_⟩
    · by_cases hjk : j = k
      · subst hjk; rw [hl] at h5; cases h5
        have := inB_iff.1 (h4 j _ e (ex_at hk) h6)
        exact inB_iff.2 (by simp at this; omega)
      · exact h4 j m e ((ex_ne hjk).trans h5) h6
    · have := inB_iff.1 (h4 k _ e (ex_at hk) he)
      exact this
  · rintro ⟨⟨h3, h4⟩, h5⟩
    refine ⟨h3, fun j m e h6 h7 => ?_⟩
    by_cases hjk : j = k
    · subst hjk; rw [ex_at hk] at h6; cases h6
      exact inB_iff.2 (h5 e h7)
    · exact h4 j m e ((ex_ne hjk).symm.trans h6) h7
theorem ex_first {t : List Int} {e : Int} (hl : b.lines[k]? = some l) (h1 : l.lo ≤ lo) (h2 : hi ≤ l.hi) (h : firL b = some t) (he : t[k]? = some e) (h3 : lo ≤ e ∧ e ≤ hi) : firL (exB b k l lo hi) = some t := by
  obtain ⟨ht1, ht2⟩ := firL_mem h
  refine firL_of ((ex_tru hl h1 h2).2 ⟨ht1, fun e' he' => by rw [he] at he'; cases he'; exact h3⟩) (by rw [ex_rig hl (truOk_iff.1 ht1).1]; exact ht2) (fun u hu hr => ?_)
  have hu1 := ((ex_tru hl h1 h2).1 hu).1
  rw [ex_rig hl (truOk_iff.1 hu1).1] at hr
  exact firL_least h hu1 hr
theorem ex_some {t : List Int} {e : Int} (hl : b.lines[k]? = some l) (h1 : l.lo ≤ lo) (h2 : hi ≤ l.hi) (ht : truOk b.lines t = true) (hr : rigB b t = true) (he : t[k]? = some e) (h3 : lo ≤ e ∧ e ≤ hi) : (firL (exB b k l lo hi)).isSome = true := by
  obtain ⟨u, hu⟩ := firL_is (b := exB b k l lo hi) (t := t) ((ex_tru hl h1 h2).2 ⟨ht, fun e' he' => by rw [he] at he'; cases he'; exact h3⟩) (by rw [ex_rig hl (truOk_iff.1 ht).1]; exact hr)
  rw [hu]; rfl
theorem ex_in {s : Int × Int} {o : Int} (hl : b.lines[k]? = some l) (h1 : l.lo ≤ o) (h2 : o ≤ l.hi) (hs : ErIn b k s) (h : (firL (exB b k l o o)).isSome = true) : s.1 ≤ o ∧ o ≤ s.2 := by
  obtain ⟨u, hu⟩ := Option.isSome_iff_exists.1 h
  obtain ⟨h3, h4⟩ := firL_mem hu
  obtain ⟨h5, h6⟩ := (ex_tru hl h1 h2).1 h3
  rw [ex_rig hl (truOk_iff.1 h5).1] at h4
  have hk := (List.getElem?_eq_some_iff.1 hl).1
  obtain ⟨e, he⟩ := some_get (xs := u) (k := k) (by rw [(truOk_iff.1 h5).1]; exact hk)
  have h7 := h6 e he
  have h8 := hs.1 u e h5 h4 he
  omega
end

/-! ### A book that tells what a truth pays -/

def wrK (ls : List Lin) (xs : List Int) : Nat → List Lin
  | 0 => ls
  | k + 1 => match ls[k]?, xs[k]? with
    | some l, some n => (wrK ls xs k).set k { l with paid := monOf n }
    | _, _ => wrK ls xs k
theorem wrK_succ {ls : List Lin} {xs : List Int} {k : Nat} {l : Lin} {n : Int} (hl : ls[k]? = some l) (hn : xs[k]? = some n) : wrK ls xs (k + 1) = (wrK ls xs k).set k { l with paid := monOf n } := by simp only [wrK, hl, hn]
theorem wrK_len (ls : List Lin) (xs : List Int) : ∀ k, (wrK ls xs k).length = ls.length
  | 0 => rfl
  | k + 1 => by
    have ih := wrK_len ls xs k
    simp only [wrK]
    split <;> simp [ih]
theorem wrK_ge (ls : List Lin) (xs : List Int) : ∀ (k j : Nat), k ≤ j → (wrK ls xs k)[j]? = ls[j]?
  | 0, _, _ => rfl
  | k + 1, j, h => by
    have ih := wrK_ge ls xs k j (by omega)
    have hne : ¬ (k = j) := by omega
    simp only [wrK]
    split
    · rw [List.getElem?_set, if_neg hne, ih]
    · exact ih
theorem wrK_at {ls : List Lin} {xs : List Int} {j : Nat} {l : Lin} {n : Int} (hl : ls[j]? = some l) (hn : xs[j]? = some n) : ∀ k, j < k → (wrK ls xs k)[j]? = some { l with paid := monOf n }
  | 0, h => by omega
  | k + 1, h => by
    have hlt := (List.getElem?_eq_some_iff.1 hl).1
    by_cases hjk : j = k
    · subst hjk
      rw [wrK_succ hl hn, List.getElem?_set, if_pos rfl, wrK_len, if_pos hlt]
    · have ih := wrK_at hl hn k (by omega)
      have hne : ¬ (k = j) := by omega
      simp only [wrK]
      split
      · rw [List.getElem?_set, if_neg hne]; exact ih
      · exact ih
def wrB (b : Bk) (t : List Int) : Bk := { b with lines := wrK b.lines (paysL b t) b.lines.length }
section
variable {b : Bk} {t : List Int}
theorem wr_len : (wrB b t).lines.length = b.lines.length := wrK_len _ _ _
theorem wr_at (ht : truOk b.lines t = true) {j : Nat} {l : Lin} (hl : b.lines[j]? = some l) : ∃ n, (paysL b t)[j]? = some n ∧ (wrB b t).lines[j]? = some { l with paid := monOf n } := by
  have hlt := (List.getElem?_eq_some_iff.1 hl).1
  obtain ⟨n, hn⟩ := some_get (xs := paysL b t) (k := j) (by rw [paysL_len (truOk_iff.1 ht).1]; exact hlt)
  exact ⟨n, hn, wrK_at hl hn _ hlt⟩
theorem pays_sum (hb : isBk b = true) (ht : truOk b.lines t = true) {n : Int} (hn : n ∈ paysL b t) : isSum n = true := by
  have := paysL_xb hb ht n hn
  exact inB_iff.2 (by omega)
theorem wr_ok (hb : isBk b = true) (ht : truOk b.lines t = true) : isBk (wrB b t) = true := by
  have hall : (wrB b t).lines.all (isLin b.hands) = true := by
    rw [List.all_eq_true]
    intro x hx
    obtain ⟨j, hj⟩ := List.mem_iff_getElem?.1 hx
    have hlt := (List.getElem?_eq_some_iff.1 hj).1
    rw [wr_len] at hlt
    obtain ⟨l, hl⟩ := some_get (xs := b.lines) (k := j) hlt
    obtain ⟨n, hn, h2⟩ := wr_at ht hl
    rw [hj] at h2
    cases h2
    have hbl := isBk_l hb (List.mem_of_getElem? hl)
    simp only [isLin, Bool.and_eq_true] at hbl ⊢
    exact ⟨hbl.1, monOf_m (pays_sum hb ht (List.mem_of_getElem? hn))⟩
  simp only [isBk, Bool.and_eq_true] at hb ⊢
  rw [wr_len]
  exact ⟨hb.1, hall⟩
theorem wr_pay (ht : truOk b.lines t = true) {u : List Int} (hu : u.length = b.lines.length) : paysL (wrB b t) u = paysL b u := by
  rw [paysL, paysL, wr_len]
  refine congrArg Prod.fst (payK_cong (b := wrB b t) (b' := b) rfl _ (fun j hj => ?_))
  obtain ⟨e, he⟩ := some_get (xs := u) (k := j) (by omega)
  obtain ⟨l, hl⟩ := some_get (xs := b.lines) (k := j) hj
  obtain ⟨n, _, h2⟩ := wr_at ht hl
  exact ⟨_, e, l, e, h2, he, hl, he, rfl, rfl⟩
theorem wr_tru (ht : truOk b.lines t = true) : truOk (wrB b t).lines t = true := by
  refine truOk_iff.2 ⟨by rw [wr_len]; exact (truOk_iff.1 ht).1, fun j m e h1 h2 => ?_⟩
  have hlt := (List.getElem?_eq_some_iff.1 h1).1
  rw [wr_len] at hlt
  obtain ⟨l, hl⟩ := some_get (xs := b.lines) (k := j) hlt
  obtain ⟨n, _, h3⟩ := wr_at ht hl
  rw [h1] at h3; cases h3
  exact (truOk_iff.1 ht).2 j l e hl h2
theorem wr_rig (hb : isBk b = true) (ht : truOk b.lines t = true) : rigB (wrB b t) t = true := by
  refine rig_iff.2 fun j m x h1 h2 => ?_
  have hlt := (List.getElem?_eq_some_iff.1 h1).1
  rw [wr_len] at hlt
  obtain ⟨l, hl⟩ := some_get (xs := b.lines) (k := j) hlt
  obtain ⟨n, hn, h3⟩ := wr_at ht hl
  rw [h1] at h3; cases h3
  rw [wr_pay ht (truOk_iff.1 ht).1, hn] at h2
  cases h2
  exact (monN_of (pays_sum hb ht (List.mem_of_getElem? hn))).symm
end
end Go.Proofs


namespace Go.Proofs
open Go Go.Sx Go.RowKit

section
variable {b : Bk} {a : Option Addr} {c : Nat} {w : World}
theorem c_agr_t {t : List Int} (hr : Ro w 0 w.heap.size a b.lines.length c 10 (b.lines.map linC)) (hb : isBk b = true) (h : firL b = some t) : Calls Tryz.prog 44 #[bkV b a c] w (Ret w (RSlE t 0)) := by
  have := pay_Agrees b a c w hr
  rw [payAgrees_some hb (by rw [h]; rfl), h] at this; exact this
theorem c_agr_f (hr : Ro w 0 w.heap.size a b.lines.length c 10 (b.lines.map linC)) (hb : isBk b = true) (h : firL b = none) : Calls Tryz.prog 44 #[bkV b a c] w (Ret w (RSlE [] 5)) := by
  have := pay_Agrees b a c w hr
  rw [payAgrees_none hb (by rw [h]; rfl)] at this; exact this
theorem c_fst {n e : Int} (hr : Ro w 0 w.heap.size a b.lines.length c 10 (b.lines.map linC)) (h : payFirst b = (n, e)) : Calls Tryz.prog 45 #[bkV b a c] w (RetV w (.tuple #[.int .i64 n, .int .i64 e])) := by
  have := pay_First b a c w hr
  rw [h] at this; exact this
theorem c_err {k : Int} {s : Int × Int} {e : Int} (hr : Ro w 0 w.heap.size a b.lines.length c 10 (b.lines.map linC)) (h : payErrors b k = (s, e)) : Calls Tryz.prog 48 #[bkV b a c, .int .i64 k] w (RetV w (.tuple #[spanV s, .int .i64 e])) := by
  have := pay_Errors b a c k w hr
  rw [h] at this; exact this
theorem fir_iff : firL b = none ↔ (firL b).isSome = false := by cases firL b <;> simp
end

set_option maxRecDepth 20000 in
theorem law_agrees (b : Bk) (a : Option Addr) (c : Nat) (t : List Int) (ta : Option Addr) (tc : Nat) (w : World) (hr : Ro w 0 w.heap.size a b.lines.length c 10 (b.lines.map linC)) (hrt : Ro w 0 w.heap.size ta t.length tc 1 (ints t)) (hb : isBk b = true) (htr : truOk b.lines t = true) : Calls Tryz.prog 49 #[bkV b a c, .slice ta t.length tc] w (RetV w (.tuple #[.bool (rigB b t), .bool true])) := by
  have hbb := isBk_b hb
  have hlen := (truOk_iff.1 htr).1
  have hpl := paysL_len hlen
  refine calls_T0 (av := [_, _]) Tryz.func49 rfl rfl rfl ?_
  refine t_seq ?_
  refine t_reg ?_
  refine to_box rfl rfl (fun b2 => ?_)
  refine to_as rfl rfl ?_
  refine to_as rfl rfl ?_
  refine to_nil ?_
  refine tn_code ?_
  refine t_seq ?_
  refine t_reg ?_
  first | refine to_lda rfl rfl rfl ?_ | refine to_ldea rfl (by assumption) rfl rfl ?_
  refine to_mv rfl rfl ?_
  refine to_callR rfl rfl (fun w s => c_pays_t (rdw s) (rdw s) hb htr) rfl (fun v12 lo12 w12 hlo12 hR12 => ?_)
  obtain ⟨pa12, pc12, rfl, hro12⟩ := hR12
  refine to_mv rfl rfl ?_
  refine to_ex rfl rfl rfl ?_
  refine to_ex rfl rfl rfl ?_
  refine to_as rfl rfl ?_
  refine to_as rfl rfl ?_
  refine to_nil ?_
  refine tn_code ?_
  refine t_seq ?_
  refine t_seq ?_
  refine t_reg ?_
  refine to_mv rfl rfl ?_
  refine to_neq rfl rfl rfl ?_
  refine to_fix (s := 16) (b' := false) rfl (rfl) ?_
  refine to_mv rfl rfl ?_
  refine to_gt rfl rfl ?_
  refine to_mv rfl rfl ?_
  refine to_gt rfl rfl ?_
  refine to_lenS rfl rfl ?_
  refine to_gt rfl rfl ?_
  first | refine to_fa rfl rfl rfl (by simp only [Nat.reduceAdd]; rfl) rfl ?_ | refine to_fae rfl rfl rfl (by simp only [Nat.reduceAdd]; rfl) rfl ?_
  refine to_gt rfl rfl ?_
  first | refine to_lds rfl rfl rfl ?_ | refine to_ldes rfl (by assumption) rfl rfl ?_
  refine to_gt rfl rfl ?_
  refine to_lenS rfl rfl ?_
  refine to_gt rfl rfl ?_
  refine to_neq rfl rfl rfl ?_
  refine to_fix (s := 23) (b' := false) rfl (by simp [hpl]) ?_
  refine to_pkF rfl rfl rfl ?_
  refine to_nil ?_
  refine tn_code ?_
  refine t_ifF rfl ?_
  refine t_skip ?_
  refine tn_code ?_
  refine t_seq ?_
  refine t_seq ?_
  refine t_reg ?_
  refine to_as rfl rfl ?_
  refine to_nil ?_
  refine tn_code ?_
  refine t_blk ?_
  refine t_loop2 (ι := Nat) (fun k => k ≤ (paysL b t).length ∧ ∀ j, j < k → ∀ l x, b.lines[j]? = some l → (paysL b t)[j]? = some x → x = monN l.paid) (fun k => [(2, (.pointer (some ⟨b2, 0, none⟩))), (6, .slice pa12 (paysL b t).length pc12), (8, (.int .i64 (k : Int)))]) (fun k => [.snap lo12 w12.heap.size w12, .own b2 (isC (bkC b a c) 40), .snap 0 w.heap.size w]) (fun k => (paysL b t).length - k) (0) [.snap lo12 w12.heap.size w12, .own b2 (isC (bkC b a c) 40), .snap 0 w.heap.size w] (rfl) (⟨Nat.zero_le _, fun j hj => absurd hj (Nat.not_lt_zero _)⟩) (⟨rfl, rfl, rfl, trivial⟩) ?_
  rintro k ⟨hk, hall⟩
  show T _ _ _ ⟨_, [(2, (.pointer (some ⟨b2, 0, none⟩))), (6, .slice pa12 (paysL b t).length pc12), (8, (.int .i64 (k : Int)))], _⟩ [.snap lo12 w12.heap.size w12, .own b2 (isC (bkC b a c) 40), .snap 0 w.heap.size w]
  refine t_seq ?_
  refine t_seq ?_
  refine t_reg ?_
  refine to_mv rfl rfl ?_
  refine to_mv rfl rfl ?_
  refine to_lenS rfl rfl ?_
  refine to_lss rfl rfl rfl ?_
  refine to_nil ?_
  refine tn_code ?_
  refine t_if rfl (fun h1 => ?_) (fun h1 => ?_)
  · try simp only [decide_eq_true_eq, decide_eq_false_iff_not, Bool.not_eq_true', Bool.not_eq_false', Int.not_lt, Int.not_le, ne_eq, Decidable.not_not] at h1
    try have h1b := inB_iff.1 h1
    obtain ⟨y, hy⟩ := some_get (xs := paysL b t) (k := k) (by omega)
    obtain ⟨l, hl⟩ := some_get (xs := b.lines) (k := k) (by omega)
    have hx := map_get (f := intC) hy
    have hx2 := map_get (f := linC) hl
    have hm := (isLin_b (isBk_l hb (List.mem_of_getElem? hl))).2.2.2.2.2.2
    refine t_skip ?_
    refine tn_code ?_
    refine t_seq ?_
    refine t_blk ?_
    refine t_seq ?_
    refine t_regD rfl (by kernel_rfl) (by kernel_rfl) ?_
    refine to_mv rfl rfl ?_
    refine to_mv rfl rfl ?_
    first | refine to_ix rfl rfl rfl (by first | omega | decide) (by first | omega | decide) rfl ?_ | refine to_ixi rfl rfl rfl (by omega) (by omega) (by omega) rfl ?_
    first | refine to_lds rfl rfl rfl ?_ | refine to_ldes rfl (by assumption) rfl rfl ?_
    first | refine to_fa rfl rfl rfl (by simp only [Nat.reduceAdd]; rfl) rfl ?_ | refine to_fae rfl rfl rfl (by simp only [Nat.reduceAdd]; rfl) rfl ?_
    first | refine to_lds rfl rfl rfl ?_ | refine to_ldes rfl (by assumption) rfl rfl ?_
    refine to_mv rfl rfl ?_
    first | refine to_ix rfl rfl rfl (by first | omega | decide) (by first | omega | decide) rfl ?_ | refine to_ixi rfl rfl rfl (by omega) (by omega) (by omega) rfl ?_
    first | refine to_fa rfl rfl rfl (by simp only [Nat.reduceAdd]; rfl) rfl ?_ | refine to_fae rfl rfl rfl (by simp only [Nat.reduceAdd]; rfl) rfl ?_
    first | refine to_lda rfl rfl rfl ?_ | refine to_ldea rfl (by assumption) rfl rfl ?_
    refine to_call0 rfl rfl (fun w s => ref_Farthings _ w (by assumption)) rfl ?_
    refine to_neq rfl rfl rfl ?_
    refine to_nil ?_
    refine tn_code ?_
    refine t_if rfl (fun h2 => ?_) (fun h2 => ?_)
    · try simp only [decide_eq_true_eq, decide_eq_false_iff_not, Bool.not_eq_true', Bool.not_eq_false', Int.not_lt, Int.not_le, ne_eq, Decidable.not_not] at h2
      try have h2b := inB_iff.1 h2
      have hrg := rigB_f hl hy (by omega)
      refine t_seq ?_
      refine t_reg ?_
      refine to_as rfl rfl ?_
      refine to_as rfl rfl ?_
      refine to_nil ?_
      refine tn_code ?_
      refine t_ret2 rfl rfl (res_tmp rfl) (res_tmp rfl) (fun w' s => ?_)
      rw [hrg]
    · try simp only [decide_eq_true_eq, decide_eq_false_iff_not, Bool.not_eq_true', Bool.not_eq_false', Int.not_lt, Int.not_le, ne_eq, Decidable.not_not] at h2
      try have h2b := inB_iff.1 h2
      refine t_skip ?_
      refine tn_blk ?_
      refine tn_code ?_
      refine t_reg ?_
      refine to_mv rfl rfl ?_
      refine to_add rfl rfl (by omega) rfl ?_
      refine to_as rfl rfl ?_
      refine to_nil ?_
      exact tn_loop2 (k + 1) [.snap lo12 w12.heap.size w12, .own b2 (isC (bkC b a c) 40), .snap 0 w.heap.size w] (rfl) (⟨by omega, all_succ hall (fun l' x' h1 h2 => by rw [hl] at h1; rw [hy] at h2; cases h1; cases h2; omega)⟩) (by omega) (⟨rfl, rfl, rfl, trivial⟩)
  · try simp only [decide_eq_true_eq, decide_eq_false_iff_not, Bool.not_eq_true', Bool.not_eq_false', Int.not_lt, Int.not_le, ne_eq, Decidable.not_not] at h1
    try have h1b := inB_iff.1 h1
    have hk2 : k = (paysL b t).length := by omega
    have hrg := rigB_t (b := b) (t := t) (fun j hj => hall j (by omega))
    refine t_exit ?_
    refine tx_code ?_
    refine tx_inv ?_
    refine tx_blk ?_
    refine tn_code ?_
    refine t_seq ?_
    refine t_reg ?_
    refine to_as rfl rfl ?_
    refine to_as rfl rfl ?_
    refine to_nil ?_
    refine tn_code ?_
    refine t_ret2 rfl rfl (res_tmp rfl) (res_tmp rfl) (fun w' s => ?_)
    rw [hrg]

end Go.Proofs


namespace Go.Proofs
open Go Go.Sx Go.RowKit

def RBkM (b : Bk) : Nat → World → Value → Prop := fun lo w1 v => ∃ a1 c1, v = bkV b a1 c1 ∧ Ro w1 lo w1.heap.size a1 b.lines.length c1 10 (b.lines.map linC)
theorem scal_lin (ls : List Lin) : ∀ y ∈ ls.map linC, scals y = true := by
  intro y hy
  obtain ⟨l, _, rfl⟩ := List.mem_map.1 hy
  simp [scals, scal, linC]

set_option maxRecDepth 20000 in
theorem ref_Until (b : Bk) (a : Option Addr) (c : Nat) (k : Nat) (w : World) (hr : Ro w 0 w.heap.size a b.lines.length c 10 (b.lines.map linC)) (hb : isBk b = true) (hk : k < b.lines.length) : Calls Tryz.prog 50 #[bkV b a c, (.int .i64 (k : Int))] w (Ret w (RBkM (untL b k))) := by
  have hbb := isBk_b hb
  have hrle := hr.le
  have hul := untL_len hk
  refine calls_T (av := [_, _]) Tryz.func50 rfl rfl rfl ?_
  refine t_seq ?_
  refine t_reg ?_
  refine to_box rfl rfl (fun b2 => ?_)
  refine to_alloc rfl (fun b4 => ?_)
  refine to_nil ?_
  refine tn_code ?_
  refine t_seq ?_
  refine t_nilrow 60 10 ?_
  refine t_reg ?_
  first | refine to_fa rfl rfl rfl (by simp only [Nat.reduceAdd]; rfl) rfl ?_ | refine to_fae rfl rfl rfl (by simp only [Nat.reduceAdd]; rfl) rfl ?_
  first | refine to_lds rfl rfl rfl ?_ | refine to_ldes rfl (by assumption) rfl rfl ?_
  refine to_mv rfl rfl ?_
  refine to_add rfl rfl (by omega) rfl ?_
  refine to_slH rfl rfl (Nat.le_trans (Nat.succ_le_of_lt hk) hrle) rfl ?_
  refine to_app (hq := ⟨fun w' s => by have := ro_take (rdw s (a := a) (n := b.lines.length) (xs := b.lines.map linC)) (k := k + 1) (by omega); rw [← List.map_take] at this; exact this⟩) rfl rfl rfl (scal_lin _) (by decide) (show (0 + (k + 1)) * 80 ≤ 1099511627776 from by omega) (by decide) rfl (fun a10 c10 => ?_)
  first | refine to_fa rfl rfl rfl (by simp only [Nat.reduceAdd]; rfl) rfl ?_ | refine to_fae rfl rfl rfl (by simp only [Nat.reduceAdd]; rfl) rfl ?_
  first | refine to_st rfl rfl rfl rfl ?_ | refine to_ste rfl rfl (by assumption) rfl rfl ?_
  refine to_nil ?_
  refine tn_code ?_
  refine t_seq ?_
  refine t_reg ?_
  first | refine to_lda rfl rfl rfl ?_ | refine to_ldea rfl (by assumption) rfl rfl ?_
  first | refine to_st rfl rfl rfl rfl ?_ | refine to_ste rfl rfl (by assumption) rfl rfl ?_
  refine to_nil ?_
  refine tn_code ?_
  refine t_ret1 rfl rfl (res_cellA rfl rfl) (fun w' s => ?_)
  refine ⟨a10, c10, by rw [bkV, bkC, hul]; simp [untL], ?_⟩
  rw [hul]
  have := ro_row s (a := a10)
  simpa [untL, List.map_take] using this

end Go.Proofs


namespace Go.Proofs
open Go Go.Sx Go.RowKit

section
variable {x : Cx} {d : Bool} {ops : Array Oper} {rest : List Oper} {ks : List KI} {n : Nat} {m : List (Nat × Value)} {ds : List Deferred} {H H2 : List Seg}
variable {ty : TypeId} {pos : String} {aft : Array Edge} {dd : Nat}
/-- The address of an element, where only the slice is known. -/
theorem to_ixS {t e b1 b2 : TypeId} {zz : List ZV} {ei : TI} {y i : Operand} {ad : Addr} {l c0 sz k : Nat} (hy : ev m y = some (.slice (some ad) l c0)) (hi : ev m i = some (.int .i64 (Int.ofNat k)))
    [ht : Ty x.P t ⟨.slice e, b1, b2, zz⟩] [he : Ty x.P e ei] (hsz : ei.size = sz) (hk : k < l) (hd : Nat.blt dd n = true)
    (h : TO x d ops rest ks ⟨n, (dd, .pointer (some (ead (some ad) sz k 0))) :: m, ds⟩ H) :
    TO x d ops (⟨some dd, .indexAddr t y i, ty, pos, aft, none⟩ :: rest) ks ⟨n, m, ds⟩ H :=
  to_pure _ (fun _ h => by cases h) (fun a' w e' s => by
    have hk' : (0 : Int) ≤ (k : Int) ∧ (k : Int) < (l : Int) := ⟨Int.natCast_nonneg k, Int.ofNat_lt.2 hk⟩
    simp only [execOp]; rw [e'.ev hy, e'.ev hi]
    simp only [Instr.indexAt, asIntOf, Sem.run_bind, run_ok, Result.andThen, run_underlying ht.slice, if_pos hk', he.sizeOf, hsz, ead_some, Int.ofNat_eq_natCast, Int.toNat_natCast, Nat.add_zero]) hd h
end

set_option maxRecDepth 20000 in
theorem law_exact (b : Bk) (a : Option Addr) (c : Nat) (k : Nat) (l : Lin) (lo hi : Int) (w : World) (hr : Ro w 0 w.heap.size a b.lines.length c 10 (b.lines.map linC)) (hb : isBk b = true) (hl : b.lines[k]? = some l) : Calls Tryz.prog 51 #[bkV b a c, (.int .i64 (k : Int)), (.int .i64 lo), (.int .i64 hi)] w (Ret w (RBkM (exB b k l lo hi))) := by
  have hbb := isBk_b hb
  have hk := (List.getElem?_eq_some_iff.1 hl).1
  have hx := map_get (f := linC) hl
  refine calls_T (av := [_, _, _, _]) Tryz.func51 rfl rfl rfl ?_
  refine t_seq ?_
  refine t_reg ?_
  refine to_box rfl rfl (fun b4 => ?_)
  refine to_alloc rfl (fun b8 => ?_)
  refine to_nil ?_
  refine tn_code ?_
  refine t_seq ?_
  refine t_nilrow 60 10 ?_
  refine t_reg ?_
  first | refine to_fa rfl rfl rfl (by simp only [Nat.reduceAdd]; rfl) rfl ?_ | refine to_fae rfl rfl rfl (by simp only [Nat.reduceAdd]; rfl) rfl ?_
  first | refine to_lds rfl rfl rfl ?_ | refine to_ldes rfl (by assumption) rfl rfl ?_
  refine to_app rfl rfl rfl (scal_lin _) (by decide) (show (0 + b.lines.length) * 80 ≤ 1099511627776 from by omega) (by decide) rfl (fun a11 c11 => ?_)
  first | refine to_fa rfl rfl rfl (by simp only [Nat.reduceAdd]; rfl) rfl ?_ | refine to_fae rfl rfl rfl (by simp only [Nat.reduceAdd]; rfl) rfl ?_
  first | refine to_st rfl rfl rfl rfl ?_ | refine to_ste rfl rfl (by assumption) rfl rfl ?_
  refine to_nil ?_
  refine tn_code ?_
  refine t_seq ?_
  refine t_rowg (a := a11) (by omega) (fun g hg => ?_)
  subst hg
  refine t_regM [8] [.own b4 (isC [.int .i64 b.hands, .int .i64 b.unit, .int .i64 b.sheet, .int .i64 b.error, .int .i64 b.morning, .int .i64 b.post, .slice (some ⟨g, 0, none⟩) (0 + b.lines.length) c11] 40), .snap 0 w.heap.size w] rfl (by kernel_rfl) (by kernel_rfl) ?_
  refine tm_q ?e1 rfl ?q1 ?r1
  case q1 =>
    first | refine to_fa rfl rfl rfl (by simp only [Nat.reduceAdd]; rfl) rfl ?_ | refine to_fae rfl rfl rfl (by simp only [Nat.reduceAdd]; rfl) rfl ?_
    exact tmq_end
  refine tm_q ?e2 rfl ?q2 ?r2
  case q2 =>
    first | refine to_lds rfl rfl rfl ?_ | refine to_ldes rfl (by assumption) rfl rfl ?_
    exact tmq_end
  refine tm_q ?e3 rfl ?q3 ?r3
  case q3 =>
    refine to_mv rfl rfl ?_
    exact tmq_end
  refine tm_q ?e4 rfl ?q4 ?r4
  case q4 =>
    refine to_mv rfl rfl ?_
    exact tmq_end
  refine tm_q ?e5 rfl ?q5 ?r5
  case q5 =>
    refine to_mv rfl rfl ?_
    exact tmq_end
  refine tm_q ?e6 rfl ?q6 ?r6
  case q6 =>
    refine to_call0 rfl rfl (fun w s => law_span _ _ w) rfl ?_
    exact tmq_end
  refine tm_q ?e7 rfl ?q7 ?r7
  case q7 =>
    refine to_ixS rfl rfl rfl (show k < 0 + b.lines.length from by omega) rfl ?_
    exact tmq_end
  refine tm_q ?e8 rfl ?q8 ?r8
  case q8 =>
    first | refine to_fa rfl rfl rfl (by simp only [Nat.reduceAdd]; rfl) rfl ?_ | refine to_fae rfl rfl rfl (by simp only [Nat.reduceAdd]; rfl) rfl ?_
    exact tmq_end
  refine tm_s rfl ?_ (fun _ h => by cases h) rfl
  first | refine to_st rfl rfl rfl rfl ?_ | refine to_ste rfl rfl (by assumption) rfl rfl ?_
  refine tm_se rfl ?_
  refine tm_nil ?_
  refine tn_code ?_
  refine t_seq ?_
  refine t_reg ?_
  first | refine to_lda rfl rfl rfl ?_ | refine to_ldea rfl (by assumption) rfl rfl ?_
  first | refine to_st rfl rfl rfl rfl ?_ | refine to_ste rfl rfl (by assumption) rfl rfl ?_
  refine to_nil ?_
  refine tn_code ?_
  refine t_ret1 rfl rfl (res_cellA rfl rfl) (fun w' s => ?_)
  refine ⟨some ⟨g, 0, none⟩, c11, by simp [bkV, bkC, exB], ?_⟩
  have h9 := ro_row s (a := some ⟨g, 0, none⟩)
  simp only [exB, List.map_set, List.length_set]
  simp only [Nat.zero_add, List.nil_append] at h9
  exact h9

end Go.Proofs


namespace Go.Proofs
open Go Go.Sx Go.RowKit

end Go.Proofs


namespace Go.Proofs
open Go Go.Sx Go.RowKit

theorem law_agr {b : Bk} {a : Option Addr} {c : Nat} {t : List Int} {ta : Option Addr} {tc : Nat} {w : World} {v : Bool} (hr : Ro w 0 w.heap.size a b.lines.length c 10 (b.lines.map linC)) (hrt : Ro w 0 w.heap.size ta t.length tc 1 (ints t)) (hb : isBk b = true) (htr : truOk b.lines t = true) (hv : rigB b t = v) : Calls Tryz.prog 49 #[bkV b a c, .slice ta t.length tc] w (RetV w (.tuple #[.bool v, .bool true])) := by
  rw [← hv]; exact law_agrees b a c t ta tc w hr hrt hb htr

end Go.Proofs


namespace Go.Proofs
open Go Go.Sx Go.RowKit

end Go.Proofs


namespace Go.Proofs
open Go Go.Sx Go.RowKit

end Go.Proofs


namespace Go.Proofs
open Go Go.Sx Go.RowKit

/-! # All truths, laid line by line -/

abbrev RowP := Option Addr × Nat × List Int
abbrev contP (P : List RowP) : List (List Int) := P.map fun p => p.2.2
abbrev rowsP (P : List RowP) : List (List Value) := P.map fun p => [Value.slice p.1 p.2.2.length p.2.1]
def RLL (xss : List (List Int)) : Nat → World → Value → Prop := fun lo w1 v => ∃ (P : List RowP) (a1 : Option Addr) (c1 : Nat), v = .slice a1 P.length c1 ∧ Ro w1 lo w1.heap.size a1 P.length c1 1 (rowsP P) ∧ contP P = xss ∧ ∀ p ∈ P, Ro w1 lo w1.heap.size p.1 p.2.2.length p.2.1 1 (ints p.2.2)
def cntL (l : Lin) : Nat := (l.hi - l.lo + 1).toNat
def extF (l : Lin) (t : List Int) : List (List Int) := (rngN l.lo (cntL l)).map fun n => t ++ [n]
def allK (b : Bk) : Nat → List (List Int)
  | 0 => [[]]
  | i + 1 => match b.lines[i]? with
    | some l => (allK b i).flatMap (extF l)
    | none => allK b i
theorem allK_succ {b : Bk} {i : Nat} {l : Lin} (h : b.lines[i]? = some l) : allK b (i + 1) = (allK b i).flatMap (extF l) := by simp only [allK, h]
theorem rngN_snoc : ∀ (lo : Int) (k : Nat), rngN lo (k + 1) = rngN lo k ++ [lo + k]
  | lo, 0 => by simp [rngN]
  | lo, k + 1 => by
    have ih := rngN_snoc (lo + 1) k
    rw [rngN, ih, rngN]
    simp; omega
theorem rngN_len : ∀ (lo : Int) (k : Nat), (rngN lo k).length = k
  | _, 0 => rfl
  | lo, k + 1 => by simp [rngN, rngN_len (lo + 1) k]
theorem ext_all (l : Lin) (ls : List Lin) (L : List (List Int)) : (L.flatMap (extF l)).flatMap (extL ls) = L.flatMap (extL (l :: ls)) := by
  rw [List.flatMap_assoc]
  congr 1
  funext t
  simp only [extF, extL, cntL, List.flatMap_map]
theorem allK_drop (b : Bk) : ∀ (d i : Nat), i + d = b.lines.length → (allK b i).flatMap (extL (b.lines.drop i)) = (allK b b.lines.length)
  | 0, i, h => by
    have hi : i = b.lines.length := by omega
    subst hi
    rw [List.drop_length]
    simp [extL]
  | d + 1, i, h => by
    obtain ⟨l, hl⟩ := some_get (xs := b.lines) (k := i) (by omega)
    have hd : b.lines.drop i = l :: b.lines.drop (i + 1) := by
      obtain ⟨h1, h2⟩ := List.getElem?_eq_some_iff.1 hl
      rw [List.drop_eq_getElem_cons h1, h2]
    rw [hd, ← ext_all, ← allK_succ hl]
    exact allK_drop b d (i + 1) (by omega)
theorem allK_all (b : Bk) : allK b b.lines.length = truL b := by
  have := allK_drop b b.lines.length 0 (by omega)
  rw [← this]
  simp [allK, truL]
theorem allK_each {b : Bk} : ∀ {i : Nat}, i ≤ b.lines.length → ∀ t ∈ allK b i, t.length = i
  | 0, _, t, h => by simp only [allK, List.mem_singleton] at h; subst h; rfl
  | i + 1, hi, t, h => by
    obtain ⟨l, hl⟩ := some_get (xs := b.lines) (k := i) (by omega)
    rw [allK_succ hl, List.mem_flatMap] at h
    obtain ⟨u, hu, h2⟩ := h
    simp only [extF, List.mem_map] at h2
    obtain ⟨n, _, rfl⟩ := h2
    rw [List.length_append, allK_each (by omega) u hu]; rfl
theorem cnt_b {h : Int} {l : Lin} (hl : isLin h l = true) : 1 ≤ cntL l ∧ cntL l ≤ 4 := by
  have := isLin_b hl
  simp only [cntL]; omega
theorem allK_pow {b : Bk} (hb : isBk b = true) : ∀ i, i ≤ b.lines.length → (allK b i).length ≤ 4 ^ i
  | 0, _ => by simp [allK]
  | i + 1, hi => by
    obtain ⟨l, hl⟩ := some_get (xs := b.lines) (k := i) (by omega)
    have hc := cnt_b (isBk_l hb (List.mem_of_getElem? hl))
    have ih := allK_pow hb i (by omega)
    have h1 : ∀ L : List (List Int), (L.flatMap (extF l)).length ≤ 4 * L.length := by
      intro L
      induction L with
      | nil => simp
      | cons t L ihL =>
        rw [List.flatMap_cons, List.length_append]
        have : (extF l t).length = cntL l := by simp [extF, rngN_len]
        simp only [List.length_cons]; omega
    rw [allK_succ hl, Nat.pow_succ]
    have := h1 (allK b i)
    omega
theorem allK_le {b : Bk} (hb : isBk b = true) : (allK b b.lines.length).length ≤ 1024 := by
  have hbb := isBk_b hb
  exact Nat.le_trans (allK_pow hb _ (Nat.le_refl _)) (Nat.pow_le_pow_right (n := 4) (by decide) (show b.lines.length ≤ 5 by omega))
theorem tru_len (b : Bk) : ∀ t ∈ truL b, t.length = b.lines.length := fun t ht => (truOk_iff.1 (mem_truL.1 ht)).1
theorem rowsP_snoc (P : List RowP) (p : RowP) : rowsP (P ++ [p]) = rowsP P ++ [[Value.slice p.1 p.2.2.length p.2.1]] := by simp
theorem contP_snoc (P : List RowP) (p : RowP) : contP (P ++ [p]) = contP P ++ [p.2.2] := by simp
theorem flat_take {α β : Type} {f : α → List β} {xs : List α} {k : Nat} {x : α} (h : xs[k]? = some x) : (xs.take (k + 1)).flatMap f = (xs.take k).flatMap f ++ f x := by
  rw [take_snoc h]; simp
theorem ext_snoc (l : Lin) (t : List Int) (j : Nat) (L : List (List Int)) : L ++ (rngN l.lo (j + 1)).map (fun n => t ++ [n]) = (L ++ (rngN l.lo j).map (fun n => t ++ [n])) ++ [t ++ [l.lo + j]] := by
  rw [rngN_snoc]; simp
/-- All rows lie in the list. -/
def InA (P : List RowP) (A : List Seg) : Prop := ∀ p ∈ P, Seg.row p.1 p.2.2.length p.2.1 3 1 (ints p.2.2) ∈ A
theorem InA.cons {P : List RowP} {A : List Seg} (h : InA P A) (s : Seg) : InA P (s :: A) := fun p hp => List.mem_cons_of_mem _ (h p hp)
theorem InA.snoc {P : List RowP} {A : List Seg} (h : InA P A) (p : RowP) : InA (P ++ [p]) (Seg.row p.1 p.2.2.length p.2.1 3 1 (ints p.2.2) :: A) := by
  intro q hq
  rcases List.mem_append.1 hq with hq | hq
  · exact List.mem_cons_of_mem _ (h q hq)
  · simp only [List.mem_singleton] at hq; subst hq; exact List.mem_cons_self ..
theorem scal_ints (xs : List Int) : ∀ y ∈ ints xs, scals y = true := by
  intro y hy
  obtain ⟨l, _, rfl⟩ := List.mem_map.1 hy
  simp [scals, scal]
end Go.Proofs


namespace Go.Proofs
open Go Go.Sx Go.RowKit

set_option maxRecDepth 20000 in
theorem ref_All (b : Bk) (a : Option Addr) (c : Nat) (w : World) (hr : Ro w 0 w.heap.size a b.lines.length c 10 (b.lines.map linC)) (hb : isBk b = true) : Calls Tryz.prog 78 #[bkV b a c] w (Ret w (RLL (truL b))) := by
  have hbb := isBk_b hb
  refine calls_T (av := [_]) Tryz.func78 rfl rfl rfl ?_
  refine t_seq ?_
  refine t_reg ?_
  refine to_box rfl rfl (fun b1 => ?_)
  refine to_as rfl rfl ?_
  refine to_nil ?_
  refine tn_code ?_
  refine t_seq ?_
  refine t_reg ?_
  refine to_bsl rfl rfl rfl rfl (fun a8 => ?_)
  refine to_as rfl rfl ?_
  refine to_nil ?_
  refine tn_code ?_
  refine t_seq ?_
  refine t_seq ?_
  refine t_reg ?_
  refine to_as rfl rfl ?_
  refine to_nil ?_
  refine tn_code ?_
  refine t_blk ?_
  refine t_nilrow 3 1 ?_
  refine t_loop2 (ι := Nat × Option Addr × Nat × List RowP × List Seg) (fun ((i, a', c', P, A) : Nat × Option Addr × Nat × List RowP × List Seg) => i ≤ b.lines.length ∧ contP P = allK b i ∧ P.length ≤ 4 ^ i ∧ InA P A) (fun ((i, a', c', P, A) : Nat × Option Addr × Nat × List RowP × List Seg) => [(1, (.pointer (some ⟨b1, 0, none⟩))), (3, .slice a' P.length c'), (4, (.int .i64 (i : Int)))]) (fun ((i, a', c', P, A) : Nat × Option Addr × Nat × List RowP × List Seg) => (.row a' P.length c' 36 1 (rowsP P) :: .own b1 (isC (bkC b a c) 40) :: .snap 0 w.heap.size w :: A)) (fun ((i, a', c', P, A) : Nat × Option Addr × Nat × List RowP × List Seg) => b.lines.length - i) ((0, a8, 1, [((none : Option Addr), 0, [])], [Seg.row none 0 0 3 1 []])) [.row a8 1 1 36 1 [[.slice none 0 0]], .own b1 (isC (bkC b a c) 40), .snap 0 w.heap.size w, .row none 0 0 3 1 []] (rfl) (⟨Nat.zero_le _, rfl, by simp, fun p hp => by simp only [List.mem_singleton] at hp; subst hp; exact List.mem_cons_self ..⟩) (⟨rfl, rfl, rfl, trivial⟩) ?_
  rintro ⟨i, a', c', P, A⟩ ⟨hi, hPc, hPl, hPA⟩
  try dsimp only at hk
  show T _ _ _ ⟨_, [(1, (.pointer (some ⟨b1, 0, none⟩))), (3, .slice a' P.length c'), (4, (.int .i64 (i : Int)))], _⟩ (.row a' P.length c' 36 1 (rowsP P) :: .own b1 (isC (bkC b a c) 40) :: .snap 0 w.heap.size w :: A)
  refine t_seq ?_
  refine t_seq ?_
  refine t_reg ?_
  refine to_mv rfl rfl ?_
  first | refine to_fa rfl rfl rfl (by simp only [Nat.reduceAdd]; rfl) rfl ?_ | refine to_fae rfl rfl rfl (by simp only [Nat.reduceAdd]; rfl) rfl ?_
  first | refine to_lds rfl rfl rfl ?_ | refine to_ldes rfl (by assumption) rfl rfl ?_
  refine to_lenS rfl rfl ?_
  refine to_lss rfl rfl rfl ?_
  refine to_nil ?_
  refine tn_code ?_
  refine t_if rfl (fun h1 => ?_) (fun h1 => ?_)
  · try simp only [decide_eq_true_eq, decide_eq_false_iff_not, Bool.not_eq_true', Bool.not_eq_false', Int.not_lt, Int.not_le, ne_eq, Decidable.not_not] at h1
    try have h1b := inB_iff.1 h1
    obtain ⟨l, hl⟩ := some_get (xs := b.lines) (k := i) (by omega)
    have hx := map_get (f := linC) hl
    have hlb := isLin_b (isBk_l hb (List.mem_of_getElem? hl))
    have hcb := cnt_b (isBk_l hb (List.mem_of_getElem? hl))
    have hPm : P.length ≤ 256 := Nat.le_trans hPl (Nat.pow_le_pow_right (n := 4) (by decide) (show i ≤ 4 by omega))
    refine t_skip ?_
    refine tn_code ?_
    refine t_seq ?_
    refine t_blk ?_
    refine t_seq ?_
    refine t_reg ?_
    refine to_as rfl rfl ?_
    refine to_nil ?_
    refine tn_code ?_
    refine t_seq ?_
    refine t_seq ?_
    refine t_reg ?_
    refine to_as rfl rfl ?_
    refine to_nil ?_
    refine tn_code ?_
    refine t_blk ?_
    refine t_nilrow 36 1 ?_
    refine t_loop2 (ι := Nat × Option Addr × Nat × List RowP × List Seg) (fun ((k, a5, c5, Q, A) : Nat × Option Addr × Nat × List RowP × List Seg) => k ≤ P.length ∧ contP Q = ((allK b i).take k).flatMap (extF l) ∧ Q.length ≤ 4 * k ∧ InA P A ∧ InA Q A) (fun ((k, a5, c5, Q, A) : Nat × Option Addr × Nat × List RowP × List Seg) => [(1, (.pointer (some ⟨b1, 0, none⟩))), (3, .slice a' P.length c'), (4, (.int .i64 (i : Int))), (5, .slice a5 Q.length c5), (6, (.int .i64 (k : Int)))]) (fun ((k, a5, c5, Q, A) : Nat × Option Addr × Nat × List RowP × List Seg) => (.row a5 Q.length c5 36 1 (rowsP Q) :: .row a' P.length c' 36 1 (rowsP P) :: .own b1 (isC (bkC b a c) 40) :: .snap 0 w.heap.size w :: A)) (fun ((k, a5, c5, Q, A) : Nat × Option Addr × Nat × List RowP × List Seg) => P.length - k) ((0, none, 0, [], A)) (.row none 0 0 36 1 [] :: .row a' P.length c' 36 1 (rowsP P) :: .own b1 (isC (bkC b a c) 40) :: .snap 0 w.heap.size w :: A) (rfl) (⟨Nat.zero_le _, rfl, Nat.zero_le _, hPA, fun p hp => by cases hp⟩) (⟨rfl, rfl, rfl, rfl, rfl, trivial⟩) ?_
    rintro ⟨k, a5, c5, Q, A⟩ ⟨hk, hQc, hQl, hPA, hQA⟩
    try dsimp only at hk
    show T _ _ _ ⟨_, [(1, (.pointer (some ⟨b1, 0, none⟩))), (3, .slice a' P.length c'), (4, (.int .i64 (i : Int))), (5, .slice a5 Q.length c5), (6, (.int .i64 (k : Int)))], _⟩ (.row a5 Q.length c5 36 1 (rowsP Q) :: .row a' P.length c' 36 1 (rowsP P) :: .own b1 (isC (bkC b a c) 40) :: .snap 0 w.heap.size w :: A)
    refine t_seq ?_
    refine t_seq ?_
    refine t_reg ?_
    refine to_mv rfl rfl ?_
    refine to_mv rfl rfl ?_
    refine to_lenS rfl rfl ?_
    refine to_lss rfl rfl rfl ?_
    refine to_nil ?_
    refine tn_code ?_
    refine t_if rfl (fun h2 => ?_) (fun h2 => ?_)
    · try simp only [decide_eq_true_eq, decide_eq_false_iff_not, Bool.not_eq_true', Bool.not_eq_false', Int.not_lt, Int.not_le, ne_eq, Decidable.not_not] at h2
      try have h2b := inB_iff.1 h2
      obtain ⟨p, hp⟩ := some_get (xs := P) (k := k) (by omega)
      have hpx := map_get (f := fun p : RowP => [Value.slice p.1 p.2.2.length p.2.1]) hp
      have hpa := hPA p (List.mem_of_getElem? hp)
      have hpc : (allK b i)[k]? = some p.2.2 := by rw [← hPc]; exact map_get hp
      have hce : cntL l = (l.hi - l.lo + 1).toNat := rfl
      refine t_skip ?_
      refine tn_code ?_
      refine t_seq ?_
      refine t_blk ?_
      refine t_seq ?_
      refine t_reg ?_
      first | refine to_fa rfl rfl rfl (by simp only [Nat.reduceAdd]; rfl) rfl ?_ | refine to_fae rfl rfl rfl (by simp only [Nat.reduceAdd]; rfl) rfl ?_
      first | refine to_lds rfl rfl rfl ?_ | refine to_ldes rfl (by assumption) rfl rfl ?_
      refine to_mv rfl rfl ?_
      first | refine to_ix rfl rfl rfl (by first | omega | decide) (by first | omega | decide) rfl ?_ | refine to_ixi rfl rfl rfl (by omega) (by omega) (by omega) rfl ?_
      first | refine to_fa rfl rfl rfl (by simp only [Nat.reduceAdd]; rfl) rfl ?_ | refine to_fae rfl rfl rfl (by simp only [Nat.reduceAdd]; rfl) rfl ?_
      first | refine to_fa rfl rfl rfl (by simp only [Nat.reduceAdd]; rfl) rfl ?_ | refine to_fae rfl rfl rfl (by simp only [Nat.reduceAdd]; rfl) rfl ?_
      first | refine to_lds rfl rfl rfl ?_ | refine to_ldes rfl (by assumption) rfl rfl ?_
      refine to_as rfl rfl ?_
      refine to_nil ?_
      refine tn_code ?_
      refine t_blk ?_
      refine t_loop2 (ι := Nat × Option Addr × Nat × List RowP × List Seg) (fun ((j, a5, c5, Q, A) : Nat × Option Addr × Nat × List RowP × List Seg) => j ≤ cntL l ∧ contP Q = ((allK b i).take k).flatMap (extF l) ++ (rngN l.lo j).map (fun n => p.2.2 ++ [n]) ∧ Q.length ≤ 4 * k + j ∧ InA P A ∧ InA Q A) (fun ((j, a5, c5, Q, A) : Nat × Option Addr × Nat × List RowP × List Seg) => [(1, (.pointer (some ⟨b1, 0, none⟩))), (3, .slice a' P.length c'), (4, (.int .i64 (i : Int))), (5, .slice a5 Q.length c5), (6, (.int .i64 (k : Int))), (7, (.int .i64 (l.lo + (j : Int))))]) (fun ((j, a5, c5, Q, A) : Nat × Option Addr × Nat × List RowP × List Seg) => (.row a5 Q.length c5 36 1 (rowsP Q) :: .row a' P.length c' 36 1 (rowsP P) :: .own b1 (isC (bkC b a c) 40) :: .snap 0 w.heap.size w :: A)) (fun ((j, a5, c5, Q, A) : Nat × Option Addr × Nat × List RowP × List Seg) => cntL l - j) ((0, a5, c5, Q, A)) (.row a5 Q.length c5 36 1 (rowsP Q) :: .row a' P.length c' 36 1 (rowsP P) :: .own b1 (isC (bkC b a c) 40) :: .snap 0 w.heap.size w :: A) (rfl) (⟨Nat.zero_le _, by rw [hQc]; simp [rngN], by omega, hPA, hQA⟩) (⟨rfl, rfl, rfl, rfl, rfl, congrArg (fun z => some (Value.int .i64 z)) (by omega), trivial⟩) ?_
      rintro ⟨j, a5, c5, Q, A⟩ ⟨hj, hQc, hQl, hPA, hQA⟩
      try dsimp only at hk
      show T _ _ _ ⟨_, [(1, (.pointer (some ⟨b1, 0, none⟩))), (3, .slice a' P.length c'), (4, (.int .i64 (i : Int))), (5, .slice a5 Q.length c5), (6, (.int .i64 (k : Int))), (7, (.int .i64 (l.lo + (j : Int))))], _⟩ (.row a5 Q.length c5 36 1 (rowsP Q) :: .row a' P.length c' 36 1 (rowsP P) :: .own b1 (isC (bkC b a c) 40) :: .snap 0 w.heap.size w :: A)
      refine t_seq ?_
      refine t_seq ?_
      refine t_reg ?_
      refine to_mv rfl rfl ?_
      first | refine to_fa rfl rfl rfl (by simp only [Nat.reduceAdd]; rfl) rfl ?_ | refine to_fae rfl rfl rfl (by simp only [Nat.reduceAdd]; rfl) rfl ?_
      first | refine to_lds rfl rfl rfl ?_ | refine to_ldes rfl (by assumption) rfl rfl ?_
      refine to_mv rfl rfl ?_
      first | refine to_ix rfl rfl rfl (by first | omega | decide) (by first | omega | decide) rfl ?_ | refine to_ixi rfl rfl rfl (by omega) (by omega) (by omega) rfl ?_
      first | refine to_fa rfl rfl rfl (by simp only [Nat.reduceAdd]; rfl) rfl ?_ | refine to_fae rfl rfl rfl (by simp only [Nat.reduceAdd]; rfl) rfl ?_
      first | refine to_fa rfl rfl rfl (by simp only [Nat.reduceAdd]; rfl) rfl ?_ | refine to_fae rfl rfl rfl (by simp only [Nat.reduceAdd]; rfl) rfl ?_
      first | refine to_lds rfl rfl rfl ?_ | refine to_ldes rfl (by assumption) rfl rfl ?_
      refine to_leq rfl rfl rfl ?_
      refine to_nil ?_
      refine tn_code ?_
      refine t_if rfl (fun h3 => ?_) (fun h3 => ?_)
      · try simp only [decide_eq_true_eq, decide_eq_false_iff_not, Bool.not_eq_true', Bool.not_eq_false', Int.not_lt, Int.not_le, ne_eq, Decidable.not_not] at h3
        try have h3b := inB_iff.1 h3
        haveI : RowIn p.1 A p.2.2.length p.2.1 3 1 (ints p.2.2) := ⟨hPA p (List.mem_of_getElem? hp)⟩
        have hpl5 : p.2.2.length = i := allK_each (by omega) _ (List.mem_of_getElem? hpc)
        refine t_skip ?_
        refine tn_code ?_
        refine t_seq ?_
        refine t_blk ?_
        refine t_nilrow 3 1 ?_
        refine t_reg ?_
        refine to_mv rfl rfl ?_
        refine to_mv rfl rfl ?_
        refine to_mv rfl rfl ?_
        first | refine to_ix rfl rfl rfl (by first | omega | decide) (by first | omega | decide) rfl ?_ | refine to_ixi rfl rfl rfl (by omega) (by omega) (by omega) rfl ?_
        first | refine to_lds rfl rfl rfl ?_ | refine to_ldes rfl (by assumption) rfl rfl ?_
        refine to_app rfl rfl rfl (scal_ints _) (by decide) (by omega) (by decide) rfl (fun a45 c45 => ?_)
        refine to_mv rfl rfl ?_
        refine to_bsl rfl rfl rfl rfl (fun a47 => ?_)
        refine to_app rfl rfl rfl (by simp [scals, scal]) (by decide) (by omega) (by decide) rfl (fun a48 c48 => ?_)
        refine to_bsl rfl rfl rfl rfl (fun a49 => ?_)
        refine to_app rfl rfl rfl (by simp [scals, scal]) (by decide) (by omega) (by decide) rfl (fun a50 c50 => ?_)
        refine to_as rfl rfl ?_
        refine to_nil ?_
        refine tn_blk ?_
        refine tn_code ?_
        refine t_reg ?_
        refine to_mv rfl rfl ?_
        refine to_add rfl rfl (by omega) rfl ?_
        refine to_as rfl rfl ?_
        refine to_nil ?_
        exact tn_loop2 ((j + 1, a50, c50, Q ++ [(a48, c48, p.2.2 ++ [l.lo + (j : Int)])], Seg.row a48 (p.2.2 ++ [l.lo + (j : Int)]).length c48 3 1 (ints (p.2.2 ++ [l.lo + (j : Int)])) :: A)) (.row a50 (Q.length + 1) c50 36 1 (rowsP Q ++ [[.slice a48 (0 + p.2.2.length + 1) c48]]) :: .row a' P.length c' 36 1 (rowsP P) :: .own b1 (isC (bkC b a c) 40) :: .snap 0 w.heap.size w :: .row a48 (0 + p.2.2.length + 1) c48 3 1 ([] ++ ints p.2.2 ++ [[.int .i64 (l.lo + (j : Int))]]) :: A) (by simp) (⟨by omega, by rw [contP_snoc, ext_snoc, hQc], by simp; omega, hPA.cons _, hQA.snoc (a48, c48, p.2.2 ++ [l.lo + (j : Int)])⟩) (by dsimp only; omega) (⟨rfl, rfl, rfl, congrArg some (by simp), rfl, congrArg (fun z => some (Value.int .i64 z)) (by omega), trivial⟩)
      · try simp only [decide_eq_true_eq, decide_eq_false_iff_not, Bool.not_eq_true', Bool.not_eq_false', Int.not_lt, Int.not_le, ne_eq, Decidable.not_not] at h3
        try have h3b := inB_iff.1 h3
        have hj2 : j = cntL l := by omega
        subst hj2
        have hQe : contP Q = ((allK b i).take (k + 1)).flatMap (extF l) := by rw [flat_take hpc, hQc]; rfl
        refine t_exit ?_
        refine tx_code ?_
        refine tx_inv ?_
        refine tx_blk ?_
        refine tn_blk ?_
        refine tn_code ?_
        refine t_reg ?_
        refine to_mv rfl rfl ?_
        refine to_add rfl rfl (by omega) rfl ?_
        refine to_as rfl rfl ?_
        refine to_nil ?_
        exact tn_loop2 ((k + 1, a5, c5, Q, A)) (.row a5 Q.length c5 36 1 (rowsP Q) :: .row a' P.length c' 36 1 (rowsP P) :: .own b1 (isC (bkC b a c) 40) :: .snap 0 w.heap.size w :: A) (rfl) (⟨by omega, hQe, by omega, hPA, hQA⟩) (by dsimp only; omega) (⟨rfl, rfl, rfl, rfl, rfl, trivial⟩)
    · try simp only [decide_eq_true_eq, decide_eq_false_iff_not, Bool.not_eq_true', Bool.not_eq_false', Int.not_lt, Int.not_le, ne_eq, Decidable.not_not] at h2
      try have h2b := inB_iff.1 h2
      have hk2 : k = P.length := by omega
      subst hk2
      have hQe : contP Q = allK b (i + 1) := by rw [allK_succ hl, hQc, List.take_of_length_le (by rw [← hPc]; simp)]
      refine t_exit ?_
      refine tx_code ?_
      refine tx_inv ?_
      refine tx_blk ?_
      refine tn_code ?_
      refine t_reg ?_
      refine to_mv rfl rfl ?_
      refine to_as rfl rfl ?_
      refine to_nil ?_
      refine tn_blk ?_
      refine tn_code ?_
      refine t_reg ?_
      refine to_mv rfl rfl ?_
      refine to_add rfl rfl (by omega) rfl ?_
      refine to_as rfl rfl ?_
      refine to_nil ?_
      exact tn_loop2 ((i + 1, a5, c5, Q, A)) (.row a5 Q.length c5 36 1 (rowsP Q) :: .own b1 (isC (bkC b a c) 40) :: .snap 0 w.heap.size w :: A) (rfl) (⟨by omega, hQe, by rw [Nat.pow_succ]; omega, hQA⟩) (by dsimp only; omega) (⟨rfl, rfl, rfl, trivial⟩)
  · try simp only [decide_eq_true_eq, decide_eq_false_iff_not, Bool.not_eq_true', Bool.not_eq_false', Int.not_lt, Int.not_le, ne_eq, Decidable.not_not] at h1
    try have h1b := inB_iff.1 h1
    have hi2 : i = b.lines.length := by omega
    subst hi2
    refine t_exit ?_
    refine tx_code ?_
    refine tx_inv ?_
    refine tx_blk ?_
    refine tn_code ?_
    refine t_seq ?_
    refine t_reg ?_
    refine to_mv rfl rfl ?_
    refine to_as rfl rfl ?_
    refine to_nil ?_
    refine tn_code ?_
    refine t_ret1 rfl rfl (res_tmp rfl) (fun w' s => ?_)
    refine ⟨P, a', c', rfl, ro_row s, by rw [hPc, allK_all], fun p hp => ?_⟩
    obtain ⟨s1, t1, e9⟩ := List.append_of_mem (hPA p hp)
    subst e9
    haveI : RowAt p.1 (s1 ++ Seg.row p.1 p.2.2.length p.2.1 3 1 (ints p.2.2) :: t1) p.2.2.length p.2.1 3 1 (ints p.2.2) (s1 ++ t1) := ⟨List.perm_middle⟩
    exact ro_row s (a := p.1)

end Go.Proofs


namespace Go.Proofs
open Go Go.Sx Go.RowKit

/-! # Plain laws of the truths that agree -/

abbrev rigL (b : Bk) : List (List Int) := (truL b).filter (rigB b)
theorem rigL_head (b : Bk) : (rigL b).head? = firL b := List.head?_filter
theorem rigL_some {b : Bk} {t : List Int} (h : firL b = some t) : (rigL b)[0]? = some t := by
  rw [← List.head?_eq_getElem?, rigL_head, h]
theorem rigL_none {b : Bk} (h : firL b = none) : rigL b = [] := by
  rw [← rigL_head] at h
  exact List.head?_eq_none_iff.1 h
theorem rigL_len {b : Bk} : decide (((rigL b).length : Int) = 0) = !(firL b).isSome := by
  cases h : firL b with
  | none => rw [rigL_none h]; simp
  | some t =>
    have h1 := (List.getElem?_eq_some_iff.1 (rigL_some h)).1
    rw [decide_eq_false (by omega)]; rfl
theorem rigL_zero {b : Bk} (h : (rigL b).length = 0) : (firL b).isSome = false := by
  cases hq : firL b with
  | none => rfl
  | some t => have := (List.getElem?_eq_some_iff.1 (rigL_some hq)).1; omega
theorem rigL_nz {b : Bk} (h : (rigL b).length ≠ 0) : (firL b).isSome = true := by
  cases hq : firL b with
  | none => rw [rigL_none hq] at h; exact absurd rfl h
  | some t => rfl
theorem rigL_is {b : Bk} {n : Nat} (h : n = (rigL b).length) : decide ((n : Int) > 0) = (firL b).isSome := by
  by_cases hz : (rigL b).length = 0
  · rw [rigL_zero hz]; exact decide_eq_false (by omega)
  · rw [rigL_nz hz]; exact decide_eq_true (by omega)
theorem spF_filter {of : List Int → Int} {is : List Int → Bool} : ∀ (L : List (List Int)) (st : Option (Int × Int)), L.foldl (stepE of is) st = (L.filter is).foldl (stepE of (fun _ => true)) st
  | [], st => rfl
  | t :: L, st => by
    by_cases h : is t = true
    · rw [List.filter_cons_of_pos h, List.foldl_cons, List.foldl_cons, ← spF_filter L]
      congr 1
      cases st <;> simp [stepE, h]
    · have hf : is t = false := by simpa using h
      rw [List.filter_cons_of_neg h, List.foldl_cons, spF_filter L]
      congr 1
      cases st <;> simp [stepE, hf]
/-- What the first of a list span. -/
def stT (of : List Int → Int) (L : List (List Int)) (k : Nat) : Option (Int × Int) := spF of (fun _ => true) (L.take k)
theorem stT_succ {of : List Int → Int} {L : List (List Int)} {k : Nat} {t : List Int} (h : L[k]? = some t) : stT of L (k + 1) = stepE of (fun _ => true) (stT of L k) t := by
  simp only [stT, spF]
  rw [take_snoc h, List.foldl_append]; rfl
theorem stT_some {of : List Int → Int} {L : List (List Int)} {k : Nat} (h : k < L.length) : ∃ s, stT of L (k + 1) = some s := by
  obtain ⟨t, ht⟩ := some_get h
  rw [stT_succ ht]
  cases stT of L k with
  | none => exact ⟨_, rfl⟩
  | some s => exact ⟨_, rfl⟩
theorem stT_zero (of : List Int → Int) (L : List (List Int)) : stT of L 0 = none := by simp [stT, spF]
theorem stT_full (of : List Int → Int) (L : List (List Int)) : stT of L L.length = spF of (fun _ => true) L := by simp [stT]
/-- The ends that stand in the cells. -/
def enT (of : List Int → Int) (L : List (List Int)) (k : Nat) : Int × Int := (stT of L k).getD (0, 0)
theorem enT_one {of : List Int → Int} {L : List (List Int)} {t : List Int} (h : L[0]? = some t) : enT of L 1 = (min (of t) (of t), max (of t) (of t)) := by
  rw [enT, stT_succ h, stT_zero]; rfl
theorem enT_succ {of : List Int → Int} {L : List (List Int)} {k : Nat} {t : List Int} (h : L[k]? = some t) (hk : 0 < k) : enT of L (k + 1) = (min (enT of L k).1 (of t), max (enT of L k).2 (of t)) := by
  obtain ⟨s, hs⟩ := stT_some (of := of) (L := L) (k := k - 1) (by have := (List.getElem?_eq_some_iff.1 h).1; omega)
  rw [show k - 1 + 1 = k from by omega] at hs
  rw [enT, enT, stT_succ h, hs]; rfl
theorem enT_ends (of : List Int → Int) (L : List (List Int)) : enT of L L.length = (endsV (spF of (fun _ => true) L)).1 := by
  rw [enT, stT_full]
  cases spF of (fun _ => true) L <;> rfl
/-- The cells of Total: both values of the first truth, ere any has come. -/
def enZ (of : List Int → Int) (L : List (List Int)) (v : Int) : Nat → Int × Int
  | 0 => (v, v)
  | k + 1 => enT of L (k + 1)
theorem enZ_succ {of : List Int → Int} {L : List (List Int)} {k : Nat} {t t0 : List Int} (h : L[k]? = some t) (h0 : L[0]? = some t0) : (min (enZ of L (of t0) k).1 (of t), max (enZ of L (of t0) k).2 (of t)) = enZ of L (of t0) (k + 1) := by
  cases k with
  | zero => rw [h0] at h; cases h; simp only [enZ]; rw [enT_one h0]
  | succ k => simp only [enZ]; rw [enT_succ h (by omega)]
theorem errors_rig {b : Bk} (hb : isBk b = true) {k : Nat} (hk : k < b.lines.length) : payErrors b (k : Int) = (enT (fun t => t.getD k 0) (rigL b) (rigL b).length, if (firL b).isSome then 0 else 5) := by
  have hin : inB (k : Int) 0 (b.lines.length - 1) = true := inB_iff.2 (by omega)
  have h1 : spF (fun t => t.getD k 0) (rigB b) (truL b) = spF (fun t => t.getD k 0) (fun _ => true) (rigL b) := spF_filter _ _
  simp only [payErrors, hb, hin, Bool.and_self, if_true, Int.toNat_natCast, h1, enT_ends]
  cases h : firL b with
  | none => rw [rigL_none h]; rfl
  | some t =>
    have h2 := (List.getElem?_eq_some_iff.1 (rigL_some h)).1
    obtain ⟨s, hs⟩ := stT_some (of := fun t => t.getD k 0) (L := rigL b) (k := (rigL b).length - 1) (by omega)
    rw [show (rigL b).length - 1 + 1 = (rigL b).length from by omega, stT_full] at hs
    rw [hs]; rfl
theorem tru_pos {b : Bk} (hb : isBk b = true) : 0 < (truL b).length := by
  have := end_mem hb true
  cases h : truL b with
  | nil => rw [h] at this; cases this
  | cons t L => simp
end Go.Proofs


namespace Go.Proofs
open Go Go.Sx Go.RowKit

set_option maxRecDepth 20000 in
theorem ref_To (b : Bk) (a : Option Addr) (c : Nat) (t : List Int) (ta : Option Addr) (tc : Nat) (h : Int) (w : World) (hr : Ro w 0 w.heap.size a b.lines.length c 10 (b.lines.map linC)) (hrt : Ro w 0 w.heap.size ta t.length tc 1 (ints t)) (hb : isBk b = true) (htr : truOk b.lines t = true) : Calls Tryz.prog 79 #[bkV b a c, .slice ta t.length tc, (.int .i64 h)] w (RetV w (.int .i64 (toL b t h))) := by
  have hbb := isBk_b hb
  have hlen := (truOk_iff.1 htr).1
  have hpl := paysL_len hlen
  refine calls_T0 (av := [_, _, _]) Tryz.func79 rfl rfl rfl ?_
  refine t_seq ?_
  refine t_reg ?_
  refine to_box rfl rfl (fun b3 => ?_)
  refine to_as rfl rfl ?_
  refine to_nil ?_
  refine tn_code ?_
  refine t_seq ?_
  refine t_reg ?_
  first | refine to_lda rfl rfl rfl ?_ | refine to_ldea rfl (by assumption) rfl rfl ?_
  refine to_mv rfl rfl ?_
  refine to_callR rfl rfl (fun w s => ref_Pays b a c t ta tc w (rdw s) (rdw s) hb htr) rfl (fun v12 lo12 w12 hlo12 hR12 => ?_)
  obtain ⟨pa12, pc12, rfl, hro12⟩ := hR12
  refine to_as rfl rfl ?_
  refine to_nil ?_
  refine tn_code ?_
  refine t_seq ?_
  refine t_reg ?_
  refine to_as rfl rfl ?_
  refine to_nil ?_
  refine tn_code ?_
  refine t_seq ?_
  refine t_seq ?_
  refine t_reg ?_
  refine to_as rfl rfl ?_
  refine to_nil ?_
  refine tn_code ?_
  refine t_blk ?_
  refine t_loop2 (ι := Nat) (fun k => k ≤ b.lines.length) (fun k => [(2, (.int .i64 h)), (3, (.pointer (some ⟨b3, 0, none⟩))), (7, .slice pa12 (paysL b t).length pc12), (8, (.int .i64 (toK b t h k))), (9, (.int .i64 (k : Int)))]) (fun k => [.snap lo12 w12.heap.size w12, .own b3 (isC (bkC b a c) 40), .snap 0 w.heap.size w]) (fun k => b.lines.length - k) (0) [.snap lo12 w12.heap.size w12, .own b3 (isC (bkC b a c) 40), .snap 0 w.heap.size w] (rfl) (Nat.zero_le _) (⟨rfl, rfl, rfl, rfl, rfl, trivial⟩) ?_
  rintro k hk
  show T _ _ _ ⟨_, [(2, (.int .i64 h)), (3, (.pointer (some ⟨b3, 0, none⟩))), (7, .slice pa12 (paysL b t).length pc12), (8, (.int .i64 (toK b t h k))), (9, (.int .i64 (k : Int)))], _⟩ [.snap lo12 w12.heap.size w12, .own b3 (isC (bkC b a c) 40), .snap 0 w.heap.size w]
  refine t_seq ?_
  refine t_seq ?_
  refine t_reg ?_
  refine to_mv rfl rfl ?_
  refine to_mv rfl rfl ?_
  refine to_lenS rfl rfl ?_
  refine to_lss rfl rfl rfl ?_
  refine to_nil ?_
  refine tn_code ?_
  refine t_if rfl (fun h1 => ?_) (fun h1 => ?_)
  · try simp only [decide_eq_true_eq, decide_eq_false_iff_not, Bool.not_eq_true', Bool.not_eq_false', Int.not_lt, Int.not_le, ne_eq, Decidable.not_not] at h1
    try have h1b := inB_iff.1 h1
    obtain ⟨l, hl⟩ := some_get (xs := b.lines) (k := k) (by omega)
    obtain ⟨y, hy⟩ := some_get (xs := paysL b t) (k := k) (by omega)
    have hz2 := map_get (f := intC) hy
    have hz3 := map_get (f := linC) hl
    have hyb := paysL_xb hb htr y (List.mem_of_getElem? hy)
    have htb := toK_b (h := h) hb htr k
    refine t_skip ?_
    refine tn_code ?_
    refine t_seq ?_
    refine t_blk ?_
    refine t_seq ?_
    refine t_reg ?_
    first | refine to_fa rfl rfl rfl (by simp only [Nat.reduceAdd]; rfl) rfl ?_ | refine to_fae rfl rfl rfl (by simp only [Nat.reduceAdd]; rfl) rfl ?_
    first | refine to_lds rfl rfl rfl ?_ | refine to_ldes rfl (by assumption) rfl rfl ?_
    refine to_mv rfl rfl ?_
    first | refine to_ix rfl rfl rfl (by first | omega | decide) (by first | omega | decide) rfl ?_ | refine to_ixi rfl rfl rfl (by omega) (by omega) (by omega) rfl ?_
    first | refine to_fa rfl rfl rfl (by simp only [Nat.reduceAdd]; rfl) rfl ?_ | refine to_fae rfl rfl rfl (by simp only [Nat.reduceAdd]; rfl) rfl ?_
    first | refine to_lds rfl rfl rfl ?_ | refine to_ldes rfl (by assumption) rfl rfl ?_
    refine to_mv rfl rfl ?_
    refine to_eql rfl rfl rfl ?_
    refine to_nil ?_
    refine tn_code ?_
    refine t_if rfl (fun h2 => ?_) (fun h2 => ?_)
    · try simp only [decide_eq_true_eq, decide_eq_false_iff_not, Bool.not_eq_true', Bool.not_eq_false', Int.not_lt, Int.not_le, ne_eq, Decidable.not_not] at h2
      try have h2b := inB_iff.1 h2
      refine t_reg ?_
      refine to_mv rfl rfl ?_
      refine to_mv rfl rfl ?_
      refine to_mv rfl rfl ?_
      first | refine to_ix rfl rfl rfl (by first | omega | decide) (by first | omega | decide) rfl ?_ | refine to_ixi rfl rfl rfl (by omega) (by omega) (by omega) rfl ?_
      first | refine to_lds rfl rfl rfl ?_ | refine to_ldes rfl (by assumption) rfl rfl ?_
      refine to_add rfl rfl (by omega) rfl ?_
      refine to_as rfl rfl ?_
      refine to_nil ?_
      refine tn_blk ?_
      refine tn_code ?_
      refine t_reg ?_
      refine to_mv rfl rfl ?_
      refine to_add rfl rfl (by omega) rfl ?_
      refine to_as rfl rfl ?_
      refine to_nil ?_
      exact tn_loop2 (k + 1) [.snap lo12 w12.heap.size w12, .own b3 (isC (bkC b a c) 40), .snap 0 w.heap.size w] (rfl) (by omega) (by omega) (⟨rfl, rfl, rfl, congrArg (fun z => some (Value.int .i64 z)) ((toK_succ hl hy).trans (if_pos h2)).symm, rfl, trivial⟩)
    · try simp only [decide_eq_true_eq, decide_eq_false_iff_not, Bool.not_eq_true', Bool.not_eq_false', Int.not_lt, Int.not_le, ne_eq, Decidable.not_not] at h2
      try have h2b := inB_iff.1 h2
      refine t_skip ?_
      refine tn_blk ?_
      refine tn_code ?_
      refine t_reg ?_
      refine to_mv rfl rfl ?_
      refine to_add rfl rfl (by omega) rfl ?_
      refine to_as rfl rfl ?_
      refine to_nil ?_
      exact tn_loop2 (k + 1) [.snap lo12 w12.heap.size w12, .own b3 (isC (bkC b a c) 40), .snap 0 w.heap.size w] (rfl) (by omega) (by omega) (⟨rfl, rfl, rfl, congrArg (fun z => some (Value.int .i64 z)) ((toK_succ hl hy).trans (if_neg h2)).symm, rfl, trivial⟩)
  · try simp only [decide_eq_true_eq, decide_eq_false_iff_not, Bool.not_eq_true', Bool.not_eq_false', Int.not_lt, Int.not_le, ne_eq, Decidable.not_not] at h1
    try have h1b := inB_iff.1 h1
    have hk2 : k = b.lines.length := by omega
    subst hk2
    refine t_exit ?_
    refine tx_code ?_
    refine tx_inv ?_
    refine tx_blk ?_
    refine tn_code ?_
    refine t_seq ?_
    refine t_reg ?_
    refine to_mv rfl rfl ?_
    refine to_as rfl rfl ?_
    refine to_nil ?_
    refine tn_code ?_
    refine t_ret1 rfl rfl (res_tmp rfl) (fun w' s => ?_)
    rfl

set_option maxRecDepth 20000 in
theorem ref_Right (b : Bk) (a : Option Addr) (c : Nat) (t : List Int) (ta : Option Addr) (tc : Nat) (w : World) (hr : Ro w 0 w.heap.size a b.lines.length c 10 (b.lines.map linC)) (hrt : Ro w 0 w.heap.size ta t.length tc 1 (ints t)) (hb : isBk b = true) (htr : truOk b.lines t = true) : Calls Tryz.prog 81 #[bkV b a c, .slice ta t.length tc] w (RetV w (.bool (rigB b t))) := by
  have hbb := isBk_b hb
  have hlen := (truOk_iff.1 htr).1
  have hpl := paysL_len hlen
  refine calls_T0 (av := [_, _]) Tryz.func81 rfl rfl rfl ?_
  refine t_seq ?_
  refine t_reg ?_
  refine to_box rfl rfl (fun b2 => ?_)
  refine to_as rfl rfl ?_
  refine to_nil ?_
  refine tn_code ?_
  refine t_seq ?_
  refine t_reg ?_
  first | refine to_lda rfl rfl rfl ?_ | refine to_ldea rfl (by assumption) rfl rfl ?_
  refine to_mv rfl rfl ?_
  refine to_callR rfl rfl (fun w s => ref_Pays b a c t ta tc w (rdw s) (rdw s) hb htr) rfl (fun v9 lo9 w9 hlo9 hR9 => ?_)
  obtain ⟨pa9, pc9, rfl, hro9⟩ := hR9
  refine to_as rfl rfl ?_
  refine to_nil ?_
  refine tn_code ?_
  refine t_seq ?_
  refine t_seq ?_
  refine t_reg ?_
  refine to_as rfl rfl ?_
  refine to_nil ?_
  refine tn_code ?_
  refine t_blk ?_
  refine t_loop2 (ι := Nat) (fun k => k ≤ (paysL b t).length ∧ ∀ j, j < k → ∀ l x, b.lines[j]? = some l → (paysL b t)[j]? = some x → x = monN l.paid) (fun k => [(2, (.pointer (some ⟨b2, 0, none⟩))), (5, .slice pa9 (paysL b t).length pc9), (6, (.int .i64 (k : Int)))]) (fun k => [.snap lo9 w9.heap.size w9, .own b2 (isC (bkC b a c) 40), .snap 0 w.heap.size w]) (fun k => (paysL b t).length - k) (0) [.snap lo9 w9.heap.size w9, .own b2 (isC (bkC b a c) 40), .snap 0 w.heap.size w] (rfl) (⟨Nat.zero_le _, fun j hj => absurd hj (Nat.not_lt_zero _)⟩) (⟨rfl, rfl, rfl, trivial⟩) ?_
  rintro k ⟨hk, hall⟩
  show T _ _ _ ⟨_, [(2, (.pointer (some ⟨b2, 0, none⟩))), (5, .slice pa9 (paysL b t).length pc9), (6, (.int .i64 (k : Int)))], _⟩ [.snap lo9 w9.heap.size w9, .own b2 (isC (bkC b a c) 40), .snap 0 w.heap.size w]
  refine t_seq ?_
  refine t_seq ?_
  refine t_reg ?_
  refine to_mv rfl rfl ?_
  refine to_mv rfl rfl ?_
  refine to_lenS rfl rfl ?_
  refine to_lss rfl rfl rfl ?_
  refine to_nil ?_
  refine tn_code ?_
  refine t_if rfl (fun h1 => ?_) (fun h1 => ?_)
  · try simp only [decide_eq_true_eq, decide_eq_false_iff_not, Bool.not_eq_true', Bool.not_eq_false', Int.not_lt, Int.not_le, ne_eq, Decidable.not_not] at h1
    try have h1b := inB_iff.1 h1
    obtain ⟨y, hy⟩ := some_get (xs := paysL b t) (k := k) (by omega)
    obtain ⟨l, hl⟩ := some_get (xs := b.lines) (k := k) (by omega)
    have hx := map_get (f := intC) hy
    have hx2 := map_get (f := linC) hl
    have hm := (isLin_b (isBk_l hb (List.mem_of_getElem? hl))).2.2.2.2.2.2
    refine t_skip ?_
    refine tn_code ?_
    refine t_seq ?_
    refine t_blk ?_
    refine t_seq ?_
    refine t_regD rfl (by kernel_rfl) (by kernel_rfl) ?_
    refine to_mv rfl rfl ?_
    refine to_mv rfl rfl ?_
    first | refine to_ix rfl rfl rfl (by first | omega | decide) (by first | omega | decide) rfl ?_ | refine to_ixi rfl rfl rfl (by omega) (by omega) (by omega) rfl ?_
    first | refine to_lds rfl rfl rfl ?_ | refine to_ldes rfl (by assumption) rfl rfl ?_
    first | refine to_fa rfl rfl rfl (by simp only [Nat.reduceAdd]; rfl) rfl ?_ | refine to_fae rfl rfl rfl (by simp only [Nat.reduceAdd]; rfl) rfl ?_
    first | refine to_lds rfl rfl rfl ?_ | refine to_ldes rfl (by assumption) rfl rfl ?_
    refine to_mv rfl rfl ?_
    first | refine to_ix rfl rfl rfl (by first | omega | decide) (by first | omega | decide) rfl ?_ | refine to_ixi rfl rfl rfl (by omega) (by omega) (by omega) rfl ?_
    first | refine to_fa rfl rfl rfl (by simp only [Nat.reduceAdd]; rfl) rfl ?_ | refine to_fae rfl rfl rfl (by simp only [Nat.reduceAdd]; rfl) rfl ?_
    first | refine to_lda rfl rfl rfl ?_ | refine to_ldea rfl (by assumption) rfl rfl ?_
    refine to_call0 rfl rfl (fun w s => ref_Farthings _ w (by assumption)) rfl ?_
    refine to_neq rfl rfl rfl ?_
    refine to_nil ?_
    refine tn_code ?_
    refine t_if rfl (fun h2 => ?_) (fun h2 => ?_)
    · try simp only [decide_eq_true_eq, decide_eq_false_iff_not, Bool.not_eq_true', Bool.not_eq_false', Int.not_lt, Int.not_le, ne_eq, Decidable.not_not] at h2
      try have h2b := inB_iff.1 h2
      have hrg := rigB_f hl hy (by omega)
      refine t_seq ?_
      refine t_reg ?_
      refine to_as rfl rfl ?_
      refine to_nil ?_
      refine tn_code ?_
      refine t_ret1 rfl rfl (res_tmp rfl) (fun w' s => ?_)
      rw [hrg]
    · try simp only [decide_eq_true_eq, decide_eq_false_iff_not, Bool.not_eq_true', Bool.not_eq_false', Int.not_lt, Int.not_le, ne_eq, Decidable.not_not] at h2
      try have h2b := inB_iff.1 h2
      refine t_skip ?_
      refine tn_blk ?_
      refine tn_code ?_
      refine t_reg ?_
      refine to_mv rfl rfl ?_
      refine to_add rfl rfl (by omega) rfl ?_
      refine to_as rfl rfl ?_
      refine to_nil ?_
      exact tn_loop2 (k + 1) [.snap lo9 w9.heap.size w9, .own b2 (isC (bkC b a c) 40), .snap 0 w.heap.size w] (rfl) (⟨by omega, all_succ hall (fun l' x' h1 h2 => by rw [hl] at h1; rw [hy] at h2; cases h1; cases h2; omega)⟩) (by omega) (⟨rfl, rfl, rfl, trivial⟩)
  · try simp only [decide_eq_true_eq, decide_eq_false_iff_not, Bool.not_eq_true', Bool.not_eq_false', Int.not_lt, Int.not_le, ne_eq, Decidable.not_not] at h1
    try have h1b := inB_iff.1 h1
    have hk2 : k = (paysL b t).length := by omega
    have hrg := rigB_t (b := b) (t := t) (fun j hj => hall j (by omega))
    refine t_exit ?_
    refine tx_code ?_
    refine tx_inv ?_
    refine tx_blk ?_
    refine tn_code ?_
    refine t_seq ?_
    refine t_reg ?_
    refine to_as rfl rfl ?_
    refine to_nil ?_
    refine tn_code ?_
    refine t_ret1 rfl rfl (res_tmp rfl) (fun w' s => ?_)
    rw [hrg]

set_option maxRecDepth 20000 in
theorem ref_Truths (b : Bk) (a : Option Addr) (c : Nat) (w : World) (hr : Ro w 0 w.heap.size a b.lines.length c 10 (b.lines.map linC)) (hb : isBk b = true) : Calls Tryz.prog 46 #[bkV b a c] w (Ret w (RLL (rigL b))) := by
  have hbb := isBk_b hb
  have htl : (truL b).length ≤ 1024 := by rw [← allK_all]; exact allK_le hb
  refine calls_T (av := [_]) Tryz.func46 rfl rfl rfl ?_
  refine t_seq ?_
  refine t_reg ?_
  refine to_box rfl rfl (fun b1 => ?_)
  refine to_as rfl rfl ?_
  refine to_nil ?_
  refine tn_code ?_
  refine t_seq ?_
  refine t_reg ?_
  first | refine to_lda rfl rfl rfl ?_ | refine to_ldea rfl (by assumption) rfl rfl ?_
  refine to_callR rfl rfl (fun w s => ref_All b a c w (rdw s) hb) rfl (fun v7 lo7 w7 hlo7 hR7 => ?_)
  obtain ⟨P7, pa7, pc7, rfl, hro7, hPc7, hPr7⟩ := hR7
  refine to_as rfl rfl ?_
  refine to_nil ?_
  refine tn_code ?_
  refine t_seq ?_
  refine t_reg ?_
  refine to_as rfl rfl ?_
  refine to_nil ?_
  refine tn_code ?_
  refine t_seq ?_
  refine t_seq ?_
  have hP7 : P7.length = (truL b).length := by rw [← hPc7]; simp
  refine t_reg ?_
  refine to_as rfl rfl ?_
  refine to_nil ?_
  refine tn_code ?_
  refine t_blk ?_
  refine t_nilrow 36 1 ?_
  refine t_loop2 (ι := Nat × Option Addr × Nat × List RowP) (fun ((k, a', c', Q) : Nat × Option Addr × Nat × List RowP) => k ≤ P7.length ∧ contP Q = ((truL b).take k).filter (rigB b) ∧ Q.length ≤ k ∧ ∀ p ∈ Q, p ∈ P7) (fun ((k, a', c', Q) : Nat × Option Addr × Nat × List RowP) => [(1, (.pointer (some ⟨b1, 0, none⟩))), (3, .slice pa7 P7.length pc7), (4, .slice a' Q.length c'), (5, (.int .i64 (k : Int)))]) (fun ((k, a', c', Q) : Nat × Option Addr × Nat × List RowP) => [.row a' Q.length c' 36 1 (rowsP Q), .snap lo7 w7.heap.size w7, .own b1 (isC (bkC b a c) 40), .snap 0 w.heap.size w]) (fun ((k, a', c', Q) : Nat × Option Addr × Nat × List RowP) => P7.length - k) ((0, none, 0, [])) [.row none 0 0 36 1 [], .snap lo7 w7.heap.size w7, .own b1 (isC (bkC b a c) 40), .snap 0 w.heap.size w] (rfl) (⟨Nat.zero_le _, rfl, Nat.zero_le _, fun p hp => by cases hp⟩) (⟨rfl, rfl, rfl, rfl, trivial⟩) ?_
  rintro ⟨k, a', c', Q⟩ ⟨hk, hQc, hQl, hQP⟩
  try dsimp only at hk
  show T _ _ _ ⟨_, [(1, (.pointer (some ⟨b1, 0, none⟩))), (3, .slice pa7 P7.length pc7), (4, .slice a' Q.length c'), (5, (.int .i64 (k : Int)))], _⟩ [.row a' Q.length c' 36 1 (rowsP Q), .snap lo7 w7.heap.size w7, .own b1 (isC (bkC b a c) 40), .snap 0 w.heap.size w]
  refine t_seq ?_
  refine t_seq ?_
  refine t_reg ?_
  refine to_mv rfl rfl ?_
  refine to_mv rfl rfl ?_
  refine to_lenS rfl rfl ?_
  refine to_lss rfl rfl rfl ?_
  refine to_nil ?_
  refine tn_code ?_
  refine t_if rfl (fun h1 => ?_) (fun h1 => ?_)
  · try simp only [decide_eq_true_eq, decide_eq_false_iff_not, Bool.not_eq_true', Bool.not_eq_false', Int.not_lt, Int.not_le, ne_eq, Decidable.not_not] at h1
    try have h1b := inB_iff.1 h1
    obtain ⟨p, hp⟩ := some_get (xs := P7) (k := k) (by omega)
    have hpx := map_get (f := fun p : RowP => [Value.slice p.1 p.2.2.length p.2.1]) hp
    haveI := hPr7 p (List.mem_of_getElem? hp)
    have hpc : (truL b)[k]? = some p.2.2 := by rw [← hPc7]; exact map_get hp
    have htr := mem_truL.1 (List.mem_of_getElem? hpc)
    refine t_skip ?_
    refine tn_code ?_
    refine t_seq ?_
    refine t_blk ?_
    refine t_seq ?_
    refine t_regD rfl (by kernel_rfl) (by kernel_rfl) ?_
    first | refine to_lda rfl rfl rfl ?_ | refine to_ldea rfl (by assumption) rfl rfl ?_
    refine to_mv rfl rfl ?_
    refine to_mv rfl rfl ?_
    first | refine to_ix rfl rfl rfl (by first | omega | decide) (by first | omega | decide) rfl ?_ | refine to_ixi rfl rfl rfl (by omega) (by omega) (by omega) rfl ?_
    first | refine to_lds rfl rfl rfl ?_ | refine to_ldes rfl (by assumption) rfl rfl ?_
    refine to_call0 rfl rfl (fun w s => ref_Right b a c _ _ _ w (rdw s) (rdw s) hb (by assumption)) rfl ?_
    refine to_nil ?_
    refine tn_code ?_
    refine t_if rfl (fun h2 => ?_) (fun h2 => ?_)
    · try simp only [decide_eq_true_eq, decide_eq_false_iff_not, Bool.not_eq_true', Bool.not_eq_false', Int.not_lt, Int.not_le, ne_eq, Decidable.not_not] at h2
      try have h2b := inB_iff.1 h2
      have hrg := h2
      refine t_reg ?_
      refine to_mv rfl rfl ?_
      refine to_mv rfl rfl ?_
      refine to_mv rfl rfl ?_
      first | refine to_ix rfl rfl rfl (by first | omega | decide) (by first | omega | decide) rfl ?_ | refine to_ixi rfl rfl rfl (by omega) (by omega) (by omega) rfl ?_
      first | refine to_lds rfl rfl rfl ?_ | refine to_ldes rfl (by assumption) rfl rfl ?_
      refine to_bsl rfl rfl rfl rfl (fun a25 => ?_)
      refine to_app rfl rfl rfl (by simp [scals, scal]) (by decide) (by omega) (by decide) rfl (fun a26 c26 => ?_)
      refine to_as rfl rfl ?_
      refine to_nil ?_
      refine tn_blk ?_
      refine tn_code ?_
      refine t_reg ?_
      refine to_mv rfl rfl ?_
      refine to_add rfl rfl (by omega) rfl ?_
      refine to_as rfl rfl ?_
      refine to_nil ?_
      exact tn_loop2 ((k + 1, a26, c26, Q ++ [p])) [.row a26 (Q.length + 1) c26 36 1 (rowsP Q ++ [[.slice p.1 p.2.2.length p.2.1]]), .snap lo7 w7.heap.size w7, .own b1 (isC (bkC b a c) 40), .snap 0 w.heap.size w] (by simp) (⟨by omega, by rw [contP_snoc, take_snoc hpc, List.filter_append, hQc]; simp [hrg], by simp; omega, fun q hq => by rcases List.mem_append.1 hq with hq | hq; exact hQP q hq; simp only [List.mem_singleton] at hq; subst hq; exact List.mem_of_getElem? hp⟩) (by dsimp only; omega) (⟨rfl, rfl, congrArg some (by simp), rfl, trivial⟩)
    · try simp only [decide_eq_true_eq, decide_eq_false_iff_not, Bool.not_eq_true', Bool.not_eq_false', Int.not_lt, Int.not_le, ne_eq, Decidable.not_not] at h2
      try have h2b := inB_iff.1 h2
      have hrg := h2
      refine t_skip ?_
      refine tn_blk ?_
      refine tn_code ?_
      refine t_reg ?_
      refine to_mv rfl rfl ?_
      refine to_add rfl rfl (by omega) rfl ?_
      refine to_as rfl rfl ?_
      refine to_nil ?_
      exact tn_loop2 ((k + 1, a', c', Q)) [.row a' Q.length c' 36 1 (rowsP Q), .snap lo7 w7.heap.size w7, .own b1 (isC (bkC b a c) 40), .snap 0 w.heap.size w] (rfl) (⟨by omega, by rw [take_snoc hpc, List.filter_append, hQc]; simp [hrg], by omega, hQP⟩) (by dsimp only; omega) (⟨rfl, rfl, rfl, rfl, trivial⟩)
  · try simp only [decide_eq_true_eq, decide_eq_false_iff_not, Bool.not_eq_true', Bool.not_eq_false', Int.not_lt, Int.not_le, ne_eq, Decidable.not_not] at h1
    try have h1b := inB_iff.1 h1
    have hk2 : k = P7.length := by omega
    subst hk2
    refine t_exit ?_
    refine tx_code ?_
    refine tx_inv ?_
    refine tx_blk ?_
    refine tn_code ?_
    refine t_seq ?_
    refine t_reg ?_
    refine to_mv rfl rfl ?_
    refine to_as rfl rfl ?_
    refine to_nil ?_
    refine tn_code ?_
    refine t_ret1 rfl rfl (res_tmp rfl) (fun w' s => ?_)
    refine ⟨Q, a', c', rfl, ro_row s, by rw [hQc, hP7, List.take_length], fun p hp => ?_⟩
    haveI := hPr7 p (hQP p hp)
    exact ro_snap s hlo7

end Go.Proofs


namespace Go.Proofs
open Go Go.Sx Go.RowKit

set_option maxRecDepth 20000 in
theorem ref_First (b : Bk) (a : Option Addr) (c : Nat) (w : World) (hr : Ro w 0 w.heap.size a b.lines.length c 10 (b.lines.map linC)) (hb : isBk b = true) : Calls Tryz.prog 47 #[bkV b a c] w (RetV w (.tuple #[.int .i64 (payFirst b).1, .bool (decide ((payFirst b).2 = 0))])) := by
  have hbb := isBk_b hb
  refine calls_T0 (av := [_]) Tryz.func47 rfl rfl rfl ?_
  refine t_seq ?_
  refine t_reg ?_
  refine to_box rfl rfl (fun b1 => ?_)
  refine to_as rfl rfl ?_
  refine to_as rfl rfl ?_
  refine to_nil ?_
  refine tn_code ?_
  refine t_seq ?_
  refine t_seq ?_
  refine t_reg ?_
  refine to_as rfl rfl ?_
  refine to_nil ?_
  refine tn_code ?_
  refine t_blk ?_
  refine t_loop2 (ι := Nat) (fun k => k ≤ b.lines.length ∧ ∀ j, j < k → (firL (untL b j)).isSome = true) (fun k => [(1, (.pointer (some ⟨b1, 0, none⟩))), (4, (.int .i64 (k : Int)))]) (fun k => [.own b1 (isC (bkC b a c) 40), .snap 0 w.heap.size w]) (fun k => b.lines.length - k) (0) [.own b1 (isC (bkC b a c) 40), .snap 0 w.heap.size w] (rfl) (⟨Nat.zero_le _, fun j hj => absurd hj (Nat.not_lt_zero _)⟩) (⟨rfl, rfl, trivial⟩) ?_
  rintro k ⟨hk, hall⟩
  show T _ _ _ ⟨_, [(1, (.pointer (some ⟨b1, 0, none⟩))), (4, (.int .i64 (k : Int)))], _⟩ [.own b1 (isC (bkC b a c) 40), .snap 0 w.heap.size w]
  refine t_seq ?_
  refine t_seq ?_
  refine t_reg ?_
  first | refine to_lda rfl rfl rfl ?_ | refine to_ldea rfl (by assumption) rfl rfl ?_
  refine to_mv rfl rfl ?_
  refine to_call0 rfl rfl (fun w s => ref_Row b a c _ w (by omega)) rfl ?_
  refine to_nil ?_
  refine tn_code ?_
  refine t_if rfl (fun h1 => ?_) (fun h1 => ?_)
  · try simp only [decide_eq_true_eq, decide_eq_false_iff_not, Bool.not_eq_true', Bool.not_eq_false', Int.not_lt, Int.not_le, ne_eq, Decidable.not_not] at h1
    try have h1b := inB_iff.1 h1
    have hkl : k < b.lines.length := by have h9 := inB_iff.1 h1; omega
    refine t_skip ?_
    refine tn_code ?_
    refine t_seq ?_
    refine t_blk ?_
    refine t_seq ?_
    refine t_reg ?_
    first | refine to_lda rfl rfl rfl ?_ | refine to_ldea rfl (by assumption) rfl rfl ?_
    refine to_mv rfl rfl ?_
    refine to_callR rfl rfl (fun w s => ref_Until b a c k w (rdw s) hb hkl) rfl (fun v12 lo12 w12 hlo12 hR12 => ?_)
    obtain ⟨pa12, pc12, rfl, hro12⟩ := hR12
    refine to_callR rfl rfl (fun w s => ref_Truths (untL b k) pa12 pc12 w (rdw s) (untL_ok hb hkl)) rfl (fun v13 lo13 w13 hlo13 hR13 => ?_)
    obtain ⟨P13, pa13, pc13, rfl, hro13, hPc13, hPr13⟩ := hR13
    refine to_lenS rfl rfl ?_
    refine to_eql rfl rfl rfl ?_
    refine to_nil ?_
    refine tn_code ?_
    refine t_if rfl (fun h2 => ?_) (fun h2 => ?_)
    · try simp only [decide_eq_true_eq, decide_eq_false_iff_not, Bool.not_eq_true', Bool.not_eq_false', Int.not_lt, Int.not_le, ne_eq, Decidable.not_not] at h2
      try have h2b := inB_iff.1 h2
      have hsm := rigL_zero (b := untL b k) (by rw [← hPc13]; simp; have := h2; simpa using this)
      refine t_seq ?_
      refine t_reg ?_
      refine to_mv rfl rfl ?_
      refine to_as rfl rfl ?_
      refine to_as rfl rfl ?_
      refine to_nil ?_
      refine tn_code ?_
      refine t_ret2 rfl rfl (res_tmp rfl) (res_tmp rfl) (fun w' s => ?_)
      first | (rw [payFirst_some hb hkl hall hsm]; rfl) | (rw [payFirst_none hb hall]; rfl)
    · try simp only [decide_eq_true_eq, decide_eq_false_iff_not, Bool.not_eq_true', Bool.not_eq_false', Int.not_lt, Int.not_le, ne_eq, Decidable.not_not] at h2
      try have h2b := inB_iff.1 h2
      have hsm := rigL_nz (b := untL b k) (by rw [← hPc13]; have := h2; simp; intro h9; simp [h9] at this)
      refine t_skip ?_
      refine tn_blk ?_
      refine tn_code ?_
      refine t_reg ?_
      refine to_mv rfl rfl ?_
      refine to_add rfl rfl (by omega) rfl ?_
      refine to_as rfl rfl ?_
      refine to_nil ?_
      exact tn_loop2 (k + 1) [.own b1 (isC (bkC b a c) 40), .snap 0 w.heap.size w] (rfl) (⟨by omega, all_succ hall hsm⟩) (by omega) (⟨rfl, rfl, trivial⟩)
  · try simp only [decide_eq_true_eq, decide_eq_false_iff_not, Bool.not_eq_true', Bool.not_eq_false', Int.not_lt, Int.not_le, ne_eq, Decidable.not_not] at h1
    try have h1b := inB_iff.1 h1
    have hk2 : k = b.lines.length := by
      by_cases h9 : k < b.lines.length
      · exfalso
        have h8 : inB (k : Int) 0 (b.lines.length - 1) = true := inB_iff.2 (by omega)
        have h7 := h1
        rw [h8] at h7; cases h7
      · omega
    subst hk2
    refine t_exit ?_
    refine tx_code ?_
    refine tx_inv ?_
    refine tx_blk ?_
    refine tn_code ?_
    refine t_seq ?_
    refine t_reg ?_
    refine to_as rfl rfl ?_
    refine to_as rfl rfl ?_
    refine to_nil ?_
    refine tn_code ?_
    refine t_ret2 rfl rfl (res_tmp rfl) (res_tmp rfl) (fun w' s => ?_)
    first | (rw [payFirst_some hb hkl hall hsm]; rfl) | (rw [payFirst_none hb hall]; rfl)

set_option maxRecDepth 20000 in
theorem ref_Errors (b : Bk) (a : Option Addr) (c : Nat) (k0 : Nat) (w : World) (hr : Ro w 0 w.heap.size a b.lines.length c 10 (b.lines.map linC)) (hb : isBk b = true) (hk0 : k0 < b.lines.length) : Calls Tryz.prog 52 #[bkV b a c, (.int .i64 (k0 : Int))] w (RetV w (.tuple #[spanV (payErrors b (k0 : Int)).1, .bool (firL b).isSome])) := by
  have hbb := isBk_b hb
  have htl : (truL b).length ≤ 1024 := by rw [← allK_all]; exact allK_le hb
  refine calls_T0 (av := [_, _]) Tryz.func52 rfl rfl rfl ?_
  refine t_seq ?_
  refine t_reg ?_
  refine to_box rfl rfl (fun b2 => ?_)
  refine to_alloc rfl (fun b4 => ?_)
  refine to_as rfl rfl ?_
  refine to_nil ?_
  refine tn_code ?_
  refine t_seq ?_
  refine t_reg ?_
  first | refine to_lda rfl rfl rfl ?_ | refine to_ldea rfl (by assumption) rfl rfl ?_
  refine to_callR rfl rfl (fun w s => ref_Truths b a c w (rdw s) hb) rfl (fun v11 lo11 w11 hlo11 hR11 => ?_)
  obtain ⟨P11, pa11, pc11, rfl, hro11, hPc11, hPr11⟩ := hR11
  refine to_as rfl rfl ?_
  refine to_nil ?_
  refine tn_code ?_
  refine t_seq ?_
  refine t_reg ?_
  refine to_alloc rfl (fun b7 => ?_)
  refine to_nil ?_
  refine tn_code ?_
  refine t_seq ?_
  refine t_seq ?_
  have hP11 : P11.length = (rigL b).length := by rw [← hPc11]; simp
  have hrl : (rigL b).length ≤ (truL b).length := List.length_filter_le _ _
  refine t_reg ?_
  refine to_as rfl rfl ?_
  refine to_nil ?_
  refine tn_code ?_
  refine t_blk ?_
  refine t_loop2 (ι := Nat) (fun k => k ≤ P11.length) (fun k => [(1, (.int .i64 (k0 : Int))), (2, (.pointer (some ⟨b2, 0, none⟩))), (4, (.pointer (some ⟨b4, 0, none⟩))), (6, .slice pa11 P11.length pc11), (7, (.pointer (some ⟨b7, 0, none⟩))), (8, (.int .i64 (k : Int)))]) (fun k => [.own b7 (isC (spanC (enT (fun t => t.getD k0 0) (rigL b) k)) 55), .snap lo11 w11.heap.size w11, .own b4 (isC [.int .i64 0, .int .i64 0] 55), .own b2 (isC (bkC b a c) 40), .snap 0 w.heap.size w]) (fun k => P11.length - k) (0) [.own b7 (isC [.int .i64 0, .int .i64 0] 55), .snap lo11 w11.heap.size w11, .own b4 (isC [.int .i64 0, .int .i64 0] 55), .own b2 (isC (bkC b a c) 40), .snap 0 w.heap.size w] (by simp [enT, stT_zero]) (Nat.zero_le _) (⟨rfl, rfl, rfl, rfl, rfl, rfl, trivial⟩) ?_
  rintro k hk
  show T _ _ _ ⟨_, [(1, (.int .i64 (k0 : Int))), (2, (.pointer (some ⟨b2, 0, none⟩))), (4, (.pointer (some ⟨b4, 0, none⟩))), (6, .slice pa11 P11.length pc11), (7, (.pointer (some ⟨b7, 0, none⟩))), (8, (.int .i64 (k : Int)))], _⟩ [.own b7 (isC (spanC (enT (fun t => t.getD k0 0) (rigL b) k)) 55), .snap lo11 w11.heap.size w11, .own b4 (isC [.int .i64 0, .int .i64 0] 55), .own b2 (isC (bkC b a c) 40), .snap 0 w.heap.size w]
  refine t_seq ?_
  refine t_seq ?_
  refine t_reg ?_
  refine to_mv rfl rfl ?_
  refine to_mv rfl rfl ?_
  refine to_lenS rfl rfl ?_
  refine to_lss rfl rfl rfl ?_
  refine to_nil ?_
  refine tn_code ?_
  refine t_if rfl (fun h1 => ?_) (fun h1 => ?_)
  · try simp only [decide_eq_true_eq, decide_eq_false_iff_not, Bool.not_eq_true', Bool.not_eq_false', Int.not_lt, Int.not_le, ne_eq, Decidable.not_not] at h1
    try have h1b := inB_iff.1 h1
    obtain ⟨p, hp⟩ := some_get (xs := P11) (k := k) (by omega)
    have hpx := map_get (f := fun p : RowP => [Value.slice p.1 p.2.2.length p.2.1]) hp
    haveI := hPr11 p (List.mem_of_getElem? hp)
    have hpc : (rigL b)[k]? = some p.2.2 := by rw [← hPc11]; exact map_get hp
    have htr := mem_truL.1 ((List.mem_filter.1 (List.mem_of_getElem? hpc)).1)
    have he0 : p.2.2[k0]? = some (p.2.2.getD k0 0) := by
      obtain ⟨e, he⟩ := some_get (xs := p.2.2) (k := k0) (by rw [(truOk_iff.1 htr).1]; exact hk0)
      rw [List.getD, he]; rfl
    have hxe := map_get (f := intC) he0
    have hlt0 := (List.getElem?_eq_some_iff.1 he0).1
    refine t_skip ?_
    refine tn_code ?_
    refine t_seq ?_
    refine t_blk ?_
    refine t_seq ?_
    refine t_reg ?_
    refine to_mv rfl rfl ?_
    refine to_mv rfl rfl ?_
    first | refine to_ix rfl rfl rfl (by first | omega | decide) (by first | omega | decide) rfl ?_ | refine to_ixi rfl rfl rfl (by omega) (by omega) (by omega) rfl ?_
    first | refine to_lds rfl rfl rfl ?_ | refine to_ldes rfl (by assumption) rfl rfl ?_
    refine to_mv rfl rfl ?_
    first | refine to_ix rfl rfl rfl (by first | omega | decide) (by first | omega | decide) rfl ?_ | refine to_ixi rfl rfl rfl (by omega) (by omega) (by omega) rfl ?_
    first | refine to_lds rfl rfl rfl ?_ | refine to_ldes rfl (by assumption) rfl rfl ?_
    refine to_as rfl rfl ?_
    refine to_nil ?_
    refine tn_code ?_
    refine t_seq ?_
    refine t_seq ?_
    refine t_reg ?_
    refine to_mv rfl rfl ?_
    refine to_eql rfl rfl rfl ?_
    refine to_nil ?_
    refine tn_code ?_
    refine t_if rfl (fun h2 => ?_) (fun h2 => ?_)
    · try simp only [decide_eq_true_eq, decide_eq_false_iff_not, Bool.not_eq_true', Bool.not_eq_false', Int.not_lt, Int.not_le, ne_eq, Decidable.not_not] at h2
      try have h2b := inB_iff.1 h2
      refine t_reg ?_
      refine to_mv rfl rfl ?_
      refine to_mv rfl rfl ?_
      refine to_bs rfl rfl ?_
      first | refine to_st rfl rfl rfl rfl ?_ | refine to_ste rfl rfl (by assumption) rfl rfl ?_
      refine to_nil ?_
      refine tn_code ?_
      refine t_reg ?_
      first | refine to_fa rfl rfl rfl (by simp only [Nat.reduceAdd]; rfl) rfl ?_ | refine to_fae rfl rfl rfl (by simp only [Nat.reduceAdd]; rfl) rfl ?_
      first | refine to_lds rfl rfl rfl ?_ | refine to_ldes rfl (by assumption) rfl rfl ?_
      refine to_mv rfl rfl ?_
      refine to_min rfl rfl rfl ?_
      first | refine to_fa rfl rfl rfl (by simp only [Nat.reduceAdd]; rfl) rfl ?_ | refine to_fae rfl rfl rfl (by simp only [Nat.reduceAdd]; rfl) rfl ?_
      first | refine to_lds rfl rfl rfl ?_ | refine to_ldes rfl (by assumption) rfl rfl ?_
      refine to_mv rfl rfl ?_
      refine to_max rfl rfl rfl ?_
      refine to_bs rfl rfl ?_
      first | refine to_st rfl rfl rfl rfl ?_ | refine to_ste rfl rfl (by assumption) rfl rfl ?_
      refine to_nil ?_
      refine tn_blk ?_
      refine tn_code ?_
      refine t_reg ?_
      refine to_mv rfl rfl ?_
      refine to_add rfl rfl (by omega) rfl ?_
      refine to_as rfl rfl ?_
      refine to_nil ?_
      exact tn_loop2 (k + 1) [.own b7 (isC [.int .i64 (min (p.2.2.getD k0 0) (p.2.2.getD k0 0)), .int .i64 (max (p.2.2.getD k0 0) (p.2.2.getD k0 0))] 55), .snap lo11 w11.heap.size w11, .own b4 (isC [.int .i64 0, .int .i64 0] 55), .own b2 (isC (bkC b a c) 40), .snap 0 w.heap.size w] (by have hz0 : k = 0 := (by omega); subst hz0; rw [enT_one hpc]) (by omega) (by omega) (⟨rfl, rfl, rfl, rfl, rfl, rfl, trivial⟩)
    · try simp only [decide_eq_true_eq, decide_eq_false_iff_not, Bool.not_eq_true', Bool.not_eq_false', Int.not_lt, Int.not_le, ne_eq, Decidable.not_not] at h2
      try have h2b := inB_iff.1 h2
      refine t_skip ?_
      refine tn_code ?_
      refine t_reg ?_
      first | refine to_fa rfl rfl rfl (by simp only [Nat.reduceAdd]; rfl) rfl ?_ | refine to_fae rfl rfl rfl (by simp only [Nat.reduceAdd]; rfl) rfl ?_
      first | refine to_lds rfl rfl rfl ?_ | refine to_ldes rfl (by assumption) rfl rfl ?_
      refine to_mv rfl rfl ?_
      refine to_min rfl rfl rfl ?_
      first | refine to_fa rfl rfl rfl (by simp only [Nat.reduceAdd]; rfl) rfl ?_ | refine to_fae rfl rfl rfl (by simp only [Nat.reduceAdd]; rfl) rfl ?_
      first | refine to_lds rfl rfl rfl ?_ | refine to_ldes rfl (by assumption) rfl rfl ?_
      refine to_mv rfl rfl ?_
      refine to_max rfl rfl rfl ?_
      refine to_bs rfl rfl ?_
      first | refine to_st rfl rfl rfl rfl ?_ | refine to_ste rfl rfl (by assumption) rfl rfl ?_
      refine to_nil ?_
      refine tn_blk ?_
      refine tn_code ?_
      refine t_reg ?_
      refine to_mv rfl rfl ?_
      refine to_add rfl rfl (by omega) rfl ?_
      refine to_as rfl rfl ?_
      refine to_nil ?_
      exact tn_loop2 (k + 1) [.own b7 (isC [.int .i64 (min (enT (fun t => t.getD k0 0) (rigL b) k).1 (p.2.2.getD k0 0)), .int .i64 (max (enT (fun t => t.getD k0 0) (rigL b) k).2 (p.2.2.getD k0 0))] 55), .snap lo11 w11.heap.size w11, .own b4 (isC [.int .i64 0, .int .i64 0] 55), .own b2 (isC (bkC b a c) 40), .snap 0 w.heap.size w] (by rw [enT_succ hpc (by omega)]) (by omega) (by omega) (⟨rfl, rfl, rfl, rfl, rfl, rfl, trivial⟩)
  · try simp only [decide_eq_true_eq, decide_eq_false_iff_not, Bool.not_eq_true', Bool.not_eq_false', Int.not_lt, Int.not_le, ne_eq, Decidable.not_not] at h1
    try have h1b := inB_iff.1 h1
    have hk2 : k = P11.length := by omega
    subst hk2
    refine t_exit ?_
    refine tx_code ?_
    refine tx_inv ?_
    refine tx_blk ?_
    refine tn_code ?_
    refine t_seq ?_
    refine t_reg ?_
    first | refine to_lda rfl rfl rfl ?_ | refine to_ldea rfl (by assumption) rfl rfl ?_
    refine to_mv rfl rfl ?_
    refine to_lenS rfl rfl ?_
    refine to_gtr rfl rfl rfl ?_
    first | refine to_st rfl rfl rfl rfl ?_ | refine to_ste rfl rfl (by assumption) rfl rfl ?_
    refine to_as rfl rfl ?_
    refine to_nil ?_
    refine tn_code ?_
    refine t_ret2 rfl rfl (res_cellA rfl rfl) (res_tmp rfl) (fun w' s => ?_)
    rw [errors_rig hb hk0, ← hP11, rigL_is hP11]

end Go.Proofs


namespace Go.Proofs
open Go Go.Sx Go.RowKit

theorem err_at {b : Bk} {a : Option Addr} {c : Nat} {k0 : Nat} {sq : Int × Int} {e : Int} {v : Bool} {w : World} (hr : Ro w 0 w.heap.size a b.lines.length c 10 (b.lines.map linC)) (hb : isBk b = true) (hk0 : k0 < b.lines.length) (h : payErrors b (k0 : Int) = (sq, e)) (hv : (firL b).isSome = v) : Calls Tryz.prog 52 #[bkV b a c, .int .i64 (k0 : Int)] w (RetV w (.tuple #[spanV sq, .bool v])) := by
  have := ref_Errors b a c k0 w hr hb hk0
  rw [h, hv] at this; exact this
theorem fst_at {b : Bk} {a : Option Addr} {c : Nat} {n e : Int} {v : Bool} {w : World} (hr : Ro w 0 w.heap.size a b.lines.length c 10 (b.lines.map linC)) (hb : isBk b = true) (h : payFirst b = (n, e)) (hv : v = decide (e = 0)) : Calls Tryz.prog 47 #[bkV b a c] w (RetV w (.tuple #[.int .i64 n, .bool v])) := by
  have := ref_First b a c w hr hb
  rw [h] at this; rw [hv]; exact this
theorem c_agr_2 {b : Bk} {a : Option Addr} {c : Nat} {w : World} (hr : Ro w 0 w.heap.size a b.lines.length c 10 (b.lines.map linC)) (hb : isBk b = false) : Calls Tryz.prog 44 #[bkV b a c] w (Ret w (RSlE [] 2)) := by
  have := pay_Agrees b a c w hr
  rw [payAgrees_f hb] at this; exact this
theorem err_2 {b : Bk} {k : Int} (hf : (isBk b && inB k 0 (b.lines.length - 1)) = false) : payErrors b k = ((0, 0), 2) := by simp only [payErrors, hf, Bool.false_eq_true, if_false]
theorem fst_2 {b : Bk} (hb : isBk b = false) : payFirst b = (0, 2) := by simp [payFirst, hb]

end Go.Proofs


namespace Go.Proofs
open Go Go.Sx Go.RowKit

/-! # Plain laws of the bounds -/

abbrev atL (b : Bk) (j : Nat) : List Int → Int := fun t => (paysL b t).getD j 0
def boC (b : Bk) (i : Nat) : List (Int × Int) := if i = 0 then [] else (List.range b.lines.length).map fun j => enT (atL b j) (truL b) i
def biC (b : Bk) (i k : Nat) : List (Int × Int) := if i = 0 then (List.range k).map fun j => enT (atL b j) (truL b) 1 else (List.range b.lines.length).map fun j => if j < k then enT (atL b j) (truL b) (i + 1) else enT (atL b j) (truL b) i
theorem bi_start (b : Bk) (i : Nat) : biC b i 0 = boC b i := by
  simp only [biC, boC]
  split
  · rfl
  · simp
theorem bi_end (b : Bk) (i : Nat) : biC b i b.lines.length = boC b (i + 1) := by
  simp only [biC, boC]
  rw [if_neg (by omega : ¬ i + 1 = 0)]
  split
  · rename_i h; subst h; rfl
  · refine List.map_congr_left (fun j hj => ?_)
    rw [if_pos (List.mem_range.1 hj)]
theorem bi_len0 (b : Bk) (k : Nat) : (biC b 0 k).length = k := by simp [biC]
theorem bi_len {b : Bk} {i k : Nat} (h : i ≠ 0) : (biC b i k).length = b.lines.length := by simp [biC, h]
theorem bi_at {b : Bk} {i k : Nat} (h : i ≠ 0) (hk : k < b.lines.length) : (biC b i k)[k]? = some (enT (atL b k) (truL b) i) := by
  simp [biC, h, hk]
theorem span_set {xs : List (Int × Int)} {k : Nat} {s : Int × Int} : (spans xs).set k (spanC s) = spans (xs.set k s) := by simp [List.map_set]
theorem bi_set0 {b : Bk} {k : Nat} {t : List Int} {y : Int} (h : (truL b)[0]? = some t) (hy : (paysL b t)[k]? = some y) : (spans (biC b 0 k) ++ [spanC (y, y)]).set k [.int .i64 (min y y), .int .i64 (max y y)] = spans (biC b 0 (k + 1)) := by
  have e : enT (atL b k) (truL b) 1 = (min y y, max y y) := by
    rw [enT_one h]; simp only [atL, List.getD, hy, Option.getD_some]
  have h1 : (spans (biC b 0 k) ++ [spanC (y, y)]).set k [.int .i64 (min y y), .int .i64 (max y y)] = spans (biC b 0 k) ++ [spanC (min y y, max y y)] := by
    rw [List.set_append_right _ _ (by simp [bi_len0])]
    simp [bi_len0]
  rw [h1, ← e]
  simp only [biC, if_true, List.range_succ, List.map_append, List.map_cons, List.map_nil]
theorem bi_setS {b : Bk} {i k : Nat} {t : List Int} {y : Int} (h0 : i ≠ 0) (h : (truL b)[i]? = some t) (hy : (paysL b t)[k]? = some y) (hk : k < b.lines.length) :
    (spans (biC b i k)).set k [.int .i64 (min (enT (atL b k) (truL b) i).1 y), .int .i64 (max (enT (atL b k) (truL b) i).2 y)] = spans (biC b i (k + 1)) := by
  have e : enT (atL b k) (truL b) (i + 1) = (min (enT (atL b k) (truL b) i).1 y, max (enT (atL b k) (truL b) i).2 y) := by
    rw [enT_succ h (by omega)]; simp only [atL, List.getD, hy, Option.getD_some]
  have h1 := span_set (xs := biC b i k) (k := k) (s := (min (enT (atL b k) (truL b) i).1 y, max (enT (atL b k) (truL b) i).2 y))
  refine h1.trans ?_
  rw [← e]
  congr 1
  simp only [biC, if_neg h0]
  apply List.ext_getElem
  · simp
  · intro j h2 h3
    simp only [List.length_set, List.length_map, List.length_range] at h2
    rw [List.getElem_set]
    simp only [List.getElem_map, List.getElem_range]
    by_cases hjk : k = j
    · subst hjk; rw [if_pos rfl, if_pos (by omega)]
    · rw [if_neg hjk]
      by_cases hlt : j < k
      · rw [if_pos hlt, if_pos (by omega)]
      · rw [if_neg hlt, if_neg (by omega)]
theorem bo_full {b : Bk} (hb : isBk b = true) : boC b (truL b).length = (List.range b.lines.length).map (payAt b) := by
  have := tru_pos hb
  simp only [boC]
  rw [if_neg (by omega)]
  refine List.map_congr_left (fun j _ => ?_)
  rw [enT_ends]; rfl
theorem enT_b {of : List Int → Int} {L : List (List Int)} {lo hi : Int} (h0 : lo ≤ 0 ∧ 0 ≤ hi) (h : ∀ t ∈ L, lo ≤ of t ∧ of t ≤ hi) : ∀ k, k ≤ L.length → (lo ≤ (enT of L k).1 ∧ (enT of L k).1 ≤ hi) ∧ (lo ≤ (enT of L k).2 ∧ (enT of L k).2 ≤ hi)
  | 0, _ => by simp only [enT, stT_zero, Option.getD_none]; omega
  | k + 1, hk => by
    obtain ⟨t, ht⟩ := some_get (xs := L) (k := k) (by omega)
    have h1 := h t (List.mem_of_getElem? ht)
    have ih := enT_b h0 h k (by omega)
    by_cases hz : k = 0
    · subst hz
      rw [enT_one ht]; simp only; omega
    · rw [enT_succ ht (by omega)]; simp only; omega
theorem enZ_full {of : List Int → Int} {L : List (List Int)} {v : Int} (h : 0 < L.length) : enZ of L v L.length = (endsV (spF of (fun _ => true) L)).1 := by
  rw [← enT_ends]
  cases hq : L.length with
  | zero => omega
  | succ n => rfl
end Go.Proofs


namespace Go.Proofs
open Go Go.Sx Go.RowKit

set_option maxRecDepth 20000 in
theorem ref_Total (b : Bk) (a : Option Addr) (c : Nat) (h : Int) (w : World) (hr : Ro w 0 w.heap.size a b.lines.length c 10 (b.lines.map linC)) (hb : isBk b = true) : Calls Tryz.prog 41 #[bkV b a c, (.int .i64 h)] w (RetV w (spanV (endsV (spF (fun t => toL b t h) (fun _ => true) (truL b))).1)) := by
  have hbb := isBk_b hb
  have htl : (truL b).length ≤ 1024 := by rw [← allK_all]; exact allK_le hb
  have htp := tru_pos hb
  refine calls_T0 (av := [_, _]) Tryz.func41 rfl rfl rfl ?_
  refine t_seq ?_
  refine t_reg ?_
  refine to_box rfl rfl (fun b2 => ?_)
  refine to_alloc rfl (fun b4 => ?_)
  refine to_nil ?_
  refine tn_code ?_
  refine t_seq ?_
  refine t_reg ?_
  first | refine to_lda rfl rfl rfl ?_ | refine to_ldea rfl (by assumption) rfl rfl ?_
  refine to_callR rfl rfl (fun w s => ref_All b a c w (rdw s) hb) rfl (fun v10 lo10 w10 hlo10 hR10 => ?_)
  obtain ⟨P10, pa10, pc10, rfl, hro10, hPc10, hPr10⟩ := hR10
  refine to_as rfl rfl ?_
  refine to_nil ?_
  refine tn_code ?_
  refine t_seq ?_
  have hP10 : P10.length = (truL b).length := by rw [← hPc10]; simp
  obtain ⟨p0, hp0⟩ := some_get (xs := P10) (k := 0) (by omega)
  have hp0x := map_get (f := fun p : RowP => [Value.slice p.1 p.2.2.length p.2.1]) hp0
  haveI := hPr10 p0 (List.mem_of_getElem? hp0)
  have hp0c : (truL b)[0]? = some p0.2.2 := by rw [← hPc10]; exact map_get hp0
  have htr0 := mem_truL.1 (List.mem_of_getElem? hp0c)
  refine t_regM [13, 14] [.snap lo10 w10.heap.size w10, .own b2 (isC (bkC b a c) 40), .snap 0 w.heap.size w] rfl (by kernel_rfl) (by kernel_rfl) ?_
  refine tm_q ?e1 rfl ?q1 ?r1
  case q1 =>
    first | refine to_lda rfl rfl rfl ?_ | refine to_ldea rfl (by assumption) rfl rfl ?_
    exact tmq_end
  refine tm_q ?e2 rfl ?q2 ?r2
  case q2 =>
    refine to_mv rfl rfl ?_
    exact tmq_end
  refine tm_q ?e3 rfl ?q3 ?r3
  case q3 =>
    first | refine to_ix rfl rfl rfl (by first | omega | decide) (by first | omega | decide) rfl ?_ | refine to_ixi rfl rfl rfl (by omega) (by omega) (by omega) rfl ?_
    exact tmq_end
  refine tm_q ?e4 rfl ?q4 ?r4
  case q4 =>
    first | refine to_lds rfl rfl rfl ?_ | refine to_ldes rfl (by assumption) rfl rfl ?_
    exact tmq_end
  refine tm_q ?e5 rfl ?q5 ?r5
  case q5 =>
    refine to_mv rfl rfl ?_
    exact tmq_end
  refine tm_q ?e6 rfl ?q6 ?r6
  case q6 =>
    refine to_call0 rfl rfl (fun w s => ref_To b a c p0.2.2 p0.1 p0.2.1 h w (rdw s) (rdw s) hb htr0) rfl ?_
    exact tmq_end
  refine tm_q ?e7 rfl ?q7 ?r7
  case q7 =>
    first | refine to_lda rfl rfl rfl ?_ | refine to_ldea rfl (by assumption) rfl rfl ?_
    exact tmq_end
  refine tm_q ?e8 rfl ?q8 ?r8
  case q8 =>
    refine to_mv rfl rfl ?_
    exact tmq_end
  refine tm_q ?e9 rfl ?q9 ?r9
  case q9 =>
    first | refine to_ix rfl rfl rfl (by first | omega | decide) (by first | omega | decide) rfl ?_ | refine to_ixi rfl rfl rfl (by omega) (by omega) (by omega) rfl ?_
    exact tmq_end
  refine tm_q ?e10 rfl ?q10 ?r10
  case q10 =>
    first | refine to_lds rfl rfl rfl ?_ | refine to_ldes rfl (by assumption) rfl rfl ?_
    exact tmq_end
  refine tm_q ?e11 rfl ?q11 ?r11
  case q11 =>
    refine to_mv rfl rfl ?_
    exact tmq_end
  refine tm_q ?e12 rfl ?q12 ?r12
  case q12 =>
    refine to_call0 rfl rfl (fun w s => ref_To b a c p0.2.2 p0.1 p0.2.1 h w (rdw s) (rdw s) hb htr0) rfl ?_
    exact tmq_end
  refine tm_q ?e13 rfl ?q13 ?r13
  case q13 =>
    refine to_bs rfl rfl ?_
    exact tmq_end
  refine tm_s rfl ?_ (fun _ h => by cases h) rfl
  refine to_alloc rfl (fun b6 => ?_)
  refine tm_se rfl ?_
  refine tm_s rfl ?_ (fun _ h => by cases h) rfl
  first | refine to_st rfl rfl rfl rfl ?_ | refine to_ste rfl rfl (by assumption) rfl rfl ?_
  refine tm_se rfl ?_
  refine tm_nil ?_
  refine tn_code ?_
  refine t_seq ?_
  refine t_seq ?_
  refine t_reg ?_
  refine to_as rfl rfl ?_
  refine to_nil ?_
  refine tn_code ?_
  refine t_blk ?_
  refine t_loop2 (ι := Nat) (fun k => k ≤ P10.length) (fun k => [(1, (.int .i64 h)), (2, (.pointer (some ⟨b2, 0, none⟩))), (4, (.pointer (some ⟨b4, 0, none⟩))), (5, .slice pa10 P10.length pc10), (6, (.pointer (some ⟨b6, 0, none⟩))), (7, (.int .i64 (k : Int)))]) (fun k => [.own b6 (isC (spanC (enZ (fun t => toL b t h) (truL b) (toL b p0.2.2 h) k)) 55), .snap lo10 w10.heap.size w10, .own b4 (isC [.int .i64 0, .int .i64 0] 55), .own b2 (isC (bkC b a c) 40), .snap 0 w.heap.size w]) (fun k => P10.length - k) (0) [.own b6 (isC [.int .i64 (toL b p0.2.2 h), .int .i64 (toL b p0.2.2 h)] 55), .snap lo10 w10.heap.size w10, .own b4 (isC [.int .i64 0, .int .i64 0] 55), .own b2 (isC (bkC b a c) 40), .snap 0 w.heap.size w] (rfl) (Nat.zero_le _) (⟨rfl, rfl, rfl, rfl, rfl, rfl, trivial⟩) ?_
  rintro k hk
  show T _ _ _ ⟨_, [(1, (.int .i64 h)), (2, (.pointer (some ⟨b2, 0, none⟩))), (4, (.pointer (some ⟨b4, 0, none⟩))), (5, .slice pa10 P10.length pc10), (6, (.pointer (some ⟨b6, 0, none⟩))), (7, (.int .i64 (k : Int)))], _⟩ [.own b6 (isC (spanC (enZ (fun t => toL b t h) (truL b) (toL b p0.2.2 h) k)) 55), .snap lo10 w10.heap.size w10, .own b4 (isC [.int .i64 0, .int .i64 0] 55), .own b2 (isC (bkC b a c) 40), .snap 0 w.heap.size w]
  refine t_seq ?_
  refine t_seq ?_
  refine t_reg ?_
  refine to_mv rfl rfl ?_
  refine to_mv rfl rfl ?_
  refine to_lenS rfl rfl ?_
  refine to_lss rfl rfl rfl ?_
  refine to_nil ?_
  refine tn_code ?_
  refine t_if rfl (fun h1 => ?_) (fun h1 => ?_)
  · try simp only [decide_eq_true_eq, decide_eq_false_iff_not, Bool.not_eq_true', Bool.not_eq_false', Int.not_lt, Int.not_le, ne_eq, Decidable.not_not] at h1
    try have h1b := inB_iff.1 h1
    obtain ⟨p, hp⟩ := some_get (xs := P10) (k := k) (by omega)
    have hpx := map_get (f := fun p : RowP => [Value.slice p.1 p.2.2.length p.2.1]) hp
    haveI := hPr10 p (List.mem_of_getElem? hp)
    have hpc : (truL b)[k]? = some p.2.2 := by rw [← hPc10]; exact map_get hp
    have htr := mem_truL.1 (List.mem_of_getElem? hpc)
    refine t_skip ?_
    refine tn_code ?_
    refine t_seq ?_
    refine t_blk ?_
    refine t_seq ?_
    refine t_regD rfl (by kernel_rfl) (by kernel_rfl) ?_
    first | refine to_lda rfl rfl rfl ?_ | refine to_ldea rfl (by assumption) rfl rfl ?_
    refine to_mv rfl rfl ?_
    refine to_mv rfl rfl ?_
    first | refine to_ix rfl rfl rfl (by first | omega | decide) (by first | omega | decide) rfl ?_ | refine to_ixi rfl rfl rfl (by omega) (by omega) (by omega) rfl ?_
    first | refine to_lds rfl rfl rfl ?_ | refine to_ldes rfl (by assumption) rfl rfl ?_
    refine to_mv rfl rfl ?_
    refine to_call0 rfl rfl (fun w s => ref_To b a c p.2.2 p.1 p.2.1 h w (rdw s) (rdw s) hb htr) rfl ?_
    refine to_as rfl rfl ?_
    refine to_nil ?_
    refine tn_code ?_
    refine t_reg ?_
    first | refine to_fa rfl rfl rfl (by simp only [Nat.reduceAdd]; rfl) rfl ?_ | refine to_fae rfl rfl rfl (by simp only [Nat.reduceAdd]; rfl) rfl ?_
    first | refine to_lds rfl rfl rfl ?_ | refine to_ldes rfl (by assumption) rfl rfl ?_
    refine to_mv rfl rfl ?_
    refine to_min rfl rfl rfl ?_
    first | refine to_fa rfl rfl rfl (by simp only [Nat.reduceAdd]; rfl) rfl ?_ | refine to_fae rfl rfl rfl (by simp only [Nat.reduceAdd]; rfl) rfl ?_
    first | refine to_lds rfl rfl rfl ?_ | refine to_ldes rfl (by assumption) rfl rfl ?_
    refine to_mv rfl rfl ?_
    refine to_max rfl rfl rfl ?_
    refine to_bs rfl rfl ?_
    first | refine to_st rfl rfl rfl rfl ?_ | refine to_ste rfl rfl (by assumption) rfl rfl ?_
    refine to_nil ?_
    refine tn_blk ?_
    refine tn_code ?_
    refine t_reg ?_
    refine to_mv rfl rfl ?_
    refine to_add rfl rfl (by omega) rfl ?_
    refine to_as rfl rfl ?_
    refine to_nil ?_
    exact tn_loop2 (k + 1) [.own b6 (isC [.int .i64 (min (enZ (fun t => toL b t h) (truL b) (toL b p0.2.2 h) k).1 (toL b p.2.2 h)), Value.int .i64 (max (enZ (fun t => toL b t h) (truL b) (toL b p0.2.2 h) k).2 (toL b p.2.2 h))] 55), .snap lo10 w10.heap.size w10, .own b4 (isC [.int .i64 0, .int .i64 0] 55), .own b2 (isC (bkC b a c) 40), .snap 0 w.heap.size w] (by rw [← enZ_succ (of := (fun t => toL b t h)) hpc hp0c]) (by omega) (by omega) (⟨rfl, rfl, rfl, rfl, rfl, rfl, trivial⟩)
  · try simp only [decide_eq_true_eq, decide_eq_false_iff_not, Bool.not_eq_true', Bool.not_eq_false', Int.not_lt, Int.not_le, ne_eq, Decidable.not_not] at h1
    try have h1b := inB_iff.1 h1
    have hk2 : k = P10.length := by omega
    subst hk2
    refine t_exit ?_
    refine tx_code ?_
    refine tx_inv ?_
    refine tx_blk ?_
    refine tn_code ?_
    refine t_seq ?_
    refine t_reg ?_
    first | refine to_lda rfl rfl rfl ?_ | refine to_ldea rfl (by assumption) rfl rfl ?_
    first | refine to_st rfl rfl rfl rfl ?_ | refine to_ste rfl rfl (by assumption) rfl rfl ?_
    refine to_nil ?_
    refine tn_code ?_
    refine t_ret1 rfl rfl (res_cellA rfl rfl) (fun w' s => ?_)
    rw [hP10, enZ_full htp]

def RSps (xs : List (Int × Int)) : Nat → World → Value → Prop := fun lo w1 v => ∃ a1 c1, v = .slice a1 xs.length c1 ∧ Ro w1 lo w1.heap.size a1 xs.length c1 2 (spans xs)

set_option maxRecDepth 20000 in
theorem ref_Bounds (b : Bk) (a : Option Addr) (c : Nat) (w : World) (hr : Ro w 0 w.heap.size a b.lines.length c 10 (b.lines.map linC)) (hb : isBk b = true) : Calls Tryz.prog 40 #[bkV b a c] w (Ret w (RSps (bdL b b.lines.length))) := by
  have hbb := isBk_b hb
  have htl : (truL b).length ≤ 1024 := by rw [← allK_all]; exact allK_le hb
  have htp := tru_pos hb
  refine calls_T (av := [_]) Tryz.func40 rfl rfl rfl ?_
  refine t_seq ?_
  refine t_reg ?_
  refine to_box rfl rfl (fun b1 => ?_)
  refine to_as rfl rfl ?_
  refine to_nil ?_
  refine tn_code ?_
  refine t_seq ?_
  refine t_reg ?_
  first | refine to_lda rfl rfl rfl ?_ | refine to_ldea rfl (by assumption) rfl rfl ?_
  refine to_callR rfl rfl (fun w s => ref_All b a c w (rdw s) hb) rfl (fun v9 lo9 w9 hlo9 hR9 => ?_)
  obtain ⟨P9, pa9, pc9, rfl, hro9, hPc9, hPr9⟩ := hR9
  refine to_as rfl rfl ?_
  refine to_nil ?_
  refine tn_code ?_
  refine t_seq ?_
  refine t_reg ?_
  refine to_as rfl rfl ?_
  refine to_nil ?_
  refine tn_code ?_
  refine t_seq ?_
  refine t_seq ?_
  have hP9 : P9.length = (truL b).length := by rw [← hPc9]; simp
  refine t_reg ?_
  refine to_as rfl rfl ?_
  refine to_nil ?_
  refine tn_code ?_
  refine t_blk ?_
  refine t_nilrow 55 2 ?_
  refine t_loop2 (ι := Nat × Option Addr × Nat × List (Int × Int)) (fun ((i, a', c', O) : Nat × Option Addr × Nat × List (Int × Int)) => i ≤ P9.length ∧ O = boC b i) (fun ((i, a', c', O) : Nat × Option Addr × Nat × List (Int × Int)) => [(1, (.pointer (some ⟨b1, 0, none⟩))), (3, .slice pa9 P9.length pc9), (4, .slice a' O.length c'), (5, (.int .i64 (i : Int)))]) (fun ((i, a', c', O) : Nat × Option Addr × Nat × List (Int × Int)) => [.row a' O.length c' 55 2 (spans O), .snap lo9 w9.heap.size w9, .own b1 (isC (bkC b a c) 40), .snap 0 w.heap.size w]) (fun ((i, a', c', O) : Nat × Option Addr × Nat × List (Int × Int)) => P9.length - i) ((0, none, 0, [])) [.row none 0 0 55 2 [], .snap lo9 w9.heap.size w9, .own b1 (isC (bkC b a c) 40), .snap 0 w.heap.size w] (rfl) (⟨Nat.zero_le _, rfl⟩) (⟨rfl, rfl, rfl, rfl, trivial⟩) ?_
  rintro ⟨i, a', c', O⟩ ⟨hi, hO⟩
  try dsimp only at hk
  show T _ _ _ ⟨_, [(1, (.pointer (some ⟨b1, 0, none⟩))), (3, .slice pa9 P9.length pc9), (4, .slice a' O.length c'), (5, (.int .i64 (i : Int)))], _⟩ [.row a' O.length c' 55 2 (spans O), .snap lo9 w9.heap.size w9, .own b1 (isC (bkC b a c) 40), .snap 0 w.heap.size w]
  refine t_seq ?_
  refine t_seq ?_
  refine t_reg ?_
  refine to_mv rfl rfl ?_
  refine to_mv rfl rfl ?_
  refine to_lenS rfl rfl ?_
  refine to_lss rfl rfl rfl ?_
  refine to_nil ?_
  refine tn_code ?_
  refine t_if rfl (fun h1 => ?_) (fun h1 => ?_)
  · try simp only [decide_eq_true_eq, decide_eq_false_iff_not, Bool.not_eq_true', Bool.not_eq_false', Int.not_lt, Int.not_le, ne_eq, Decidable.not_not] at h1
    try have h1b := inB_iff.1 h1
    obtain ⟨p, hp⟩ := some_get (xs := P9) (k := i) (by omega)
    have hpx := map_get (f := fun p : RowP => [Value.slice p.1 p.2.2.length p.2.1]) hp
    haveI := hPr9 p (List.mem_of_getElem? hp)
    have hpc : (truL b)[i]? = some p.2.2 := by rw [← hPc9]; exact map_get hp
    have htr := mem_truL.1 (List.mem_of_getElem? hpc)
    have hpl := paysL_len (truOk_iff.1 htr).1
    refine t_skip ?_
    refine tn_code ?_
    refine t_seq ?_
    refine t_blk ?_
    refine t_seq ?_
    refine t_regM [5] [.snap lo9 w9.heap.size w9, .own b1 (isC (bkC b a c) 40), .snap 0 w.heap.size w] rfl (by kernel_rfl) (by kernel_rfl) ?_
    refine tm_q ?e1 rfl ?q1 ?r1
    case q1 =>
      first | refine to_lda rfl rfl rfl ?_ | refine to_ldea rfl (by assumption) rfl rfl ?_
      exact tmq_end
    refine tm_q ?e2 rfl ?q2 ?r2
    case q2 =>
      refine to_mv rfl rfl ?_
      exact tmq_end
    refine tm_q ?e3 rfl ?q3 ?r3
    case q3 =>
      refine to_mv rfl rfl ?_
      exact tmq_end
    refine tm_q ?e4 rfl ?q4 ?r4
    case q4 =>
      first | refine to_ix rfl rfl rfl (by first | omega | decide) (by first | omega | decide) rfl ?_ | refine to_ixi rfl rfl rfl (by omega) (by omega) (by omega) rfl ?_
      exact tmq_end
    refine tm_q ?e5 rfl ?q5 ?r5
    case q5 =>
      first | refine to_lds rfl rfl rfl ?_ | refine to_ldes rfl (by assumption) rfl rfl ?_
      exact tmq_end
    refine tm_s rfl ?_ (fun _ h => by cases h) rfl
    refine to_callR rfl rfl (fun w s => ref_Pays b a c p.2.2 p.1 p.2.1 w (rdw s) (rdw s) hb htr) rfl (fun v21 lo21 w21 hlo21 hR21 => ?_)
    obtain ⟨pa21, pc21, rfl, hro21⟩ := hR21
    refine tm_se rfl ?_
    refine tm_q ?e6 rfl ?q6 ?r6
    case q6 =>
      refine to_as rfl rfl ?_
      exact tmq_end
    refine tm_nil ?_
    refine tn_code ?_
    refine t_seq ?_
    refine t_reg ?_
    refine to_as rfl rfl ?_
    refine to_nil ?_
    refine tn_code ?_
    refine t_blk ?_
    refine t_loop2 (ι := Nat × Option Addr × Nat × List (Int × Int)) (fun ((k, a4, c4, O) : Nat × Option Addr × Nat × List (Int × Int)) => k ≤ b.lines.length ∧ O = biC b i k) (fun ((k, a4, c4, O) : Nat × Option Addr × Nat × List (Int × Int)) => [(1, (.pointer (some ⟨b1, 0, none⟩))), (3, .slice pa9 P9.length pc9), (4, .slice a4 O.length c4), (5, (.int .i64 (i : Int))), (6, .slice pa21 (paysL b p.2.2).length pc21), (7, (.int .i64 (k : Int)))]) (fun ((k, a4, c4, O) : Nat × Option Addr × Nat × List (Int × Int)) => [.row a4 O.length c4 55 2 (spans O), .snap lo21 w21.heap.size w21, .snap lo9 w9.heap.size w9, .own b1 (isC (bkC b a c) 40), .snap 0 w.heap.size w]) (fun ((k, a4, c4, O) : Nat × Option Addr × Nat × List (Int × Int)) => b.lines.length - k) ((0, a', c', O)) [.row a' O.length c' 55 2 (spans O), .snap lo21 w21.heap.size w21, .snap lo9 w9.heap.size w9, .own b1 (isC (bkC b a c) 40), .snap 0 w.heap.size w] (rfl) (⟨Nat.zero_le _, by rw [bi_start]; exact hO⟩) (⟨rfl, rfl, rfl, rfl, rfl, rfl, trivial⟩) ?_
    rintro ⟨k, a4, c4, O⟩ ⟨hk, hO4⟩
    try dsimp only at hk
    show T _ _ _ ⟨_, [(1, (.pointer (some ⟨b1, 0, none⟩))), (3, .slice pa9 P9.length pc9), (4, .slice a4 O.length c4), (5, (.int .i64 (i : Int))), (6, .slice pa21 (paysL b p.2.2).length pc21), (7, (.int .i64 (k : Int)))], _⟩ [.row a4 O.length c4 55 2 (spans O), .snap lo21 w21.heap.size w21, .snap lo9 w9.heap.size w9, .own b1 (isC (bkC b a c) 40), .snap 0 w.heap.size w]
    refine t_seq ?_
    refine t_seq ?_
    refine t_reg ?_
    refine to_mv rfl rfl ?_
    refine to_mv rfl rfl ?_
    refine to_lenS rfl rfl ?_
    refine to_lss rfl rfl rfl ?_
    refine to_nil ?_
    refine tn_code ?_
    refine t_if rfl (fun h2 => ?_) (fun h2 => ?_)
    · try simp only [decide_eq_true_eq, decide_eq_false_iff_not, Bool.not_eq_true', Bool.not_eq_false', Int.not_lt, Int.not_le, ne_eq, Decidable.not_not] at h2
      try have h2b := inB_iff.1 h2
      have hkl : k < b.lines.length := by omega
      obtain ⟨y, hy⟩ := some_get (xs := paysL b p.2.2) (k := k) (by omega)
      have hyx := map_get (f := intC) hy
      have hyb := paysL_xb hb htr y (List.mem_of_getElem? hy)
      refine t_skip ?_
      refine tn_code ?_
      refine t_seq ?_
      refine t_blk ?_
      refine t_seq ?_
      refine t_seq ?_
      refine t_reg ?_
      refine to_mv rfl rfl ?_
      refine to_eql rfl rfl rfl ?_
      refine to_nil ?_
      refine tn_code ?_
      refine t_if rfl (fun h3 => ?_) (fun h3 => ?_)
      · try simp only [decide_eq_true_eq, decide_eq_false_iff_not, Bool.not_eq_true', Bool.not_eq_false', Int.not_lt, Int.not_le, ne_eq, Decidable.not_not] at h3
        try have h3b := inB_iff.1 h3
        have hi0 : i = 0 := by have h9 : (i : Int) = 0 := h3; omega
        have hOl : O.length = k := by rw [hO4, hi0, bi_len0]
        have hpc0 : (truL b)[0]? = some p.2.2 := by rw [← hi0]; exact hpc
        have hxk : (spans O ++ [[Value.int .i64 y, Value.int .i64 y]])[k]? = some [Value.int .i64 y, Value.int .i64 y] := by rw [List.getElem?_append_right (by simp [hOl])]; simp [hOl]
        refine t_regM [10, 11] [.snap lo21 w21.heap.size w21] rfl (by kernel_rfl) (by kernel_rfl) ?_
        refine tm_q ?e7 rfl ?q7 ?r7
        case q7 =>
          refine to_mv rfl rfl ?_
          exact tmq_end
        refine tm_q ?e8 rfl ?q8 ?r8
        case q8 =>
          refine to_mv rfl rfl ?_
          exact tmq_end
        refine tm_q ?e9 rfl ?q9 ?r9
        case q9 =>
          refine to_mv rfl rfl ?_
          exact tmq_end
        refine tm_q ?e10 rfl ?q10 ?r10
        case q10 =>
          first | refine to_ix rfl rfl rfl (by first | omega | decide) (by first | omega | decide) rfl ?_ | refine to_ixi rfl rfl rfl (by omega) (by omega) (by omega) rfl ?_
          exact tmq_end
        refine tm_q ?e11 rfl ?q11 ?r11
        case q11 =>
          first | refine to_lds rfl rfl rfl ?_ | refine to_ldes rfl (by assumption) rfl rfl ?_
          exact tmq_end
        refine tm_q ?e12 rfl ?q12 ?r12
        case q12 =>
          refine to_mv rfl rfl ?_
          exact tmq_end
        refine tm_q ?e13 rfl ?q13 ?r13
        case q13 =>
          refine to_mv rfl rfl ?_
          exact tmq_end
        refine tm_q ?e14 rfl ?q14 ?r14
        case q14 =>
          first | refine to_ix rfl rfl rfl (by first | omega | decide) (by first | omega | decide) rfl ?_ | refine to_ixi rfl rfl rfl (by omega) (by omega) (by omega) rfl ?_
          exact tmq_end
        refine tm_q ?e15 rfl ?q15 ?r15
        case q15 =>
          first | refine to_lds rfl rfl rfl ?_ | refine to_ldes rfl (by assumption) rfl rfl ?_
          exact tmq_end
        refine tm_q ?e16 rfl ?q16 ?r16
        case q16 =>
          refine to_bs rfl rfl ?_
          exact tmq_end
        refine tm_s rfl ?_ (fun _ h => by cases h) rfl
        refine to_bsl rfl rfl rfl rfl (fun a40 => ?_)
        refine tm_se rfl ?_
        refine tm_s rfl ?_ (fun _ h => by cases h) rfl
        refine to_app rfl rfl rfl (by simp [scals, scal]) (by decide) (by omega) (by decide) rfl (fun a41 c41 => ?_)
        refine tm_se rfl ?_
        refine tm_q ?e17 rfl ?q17 ?r17
        case q17 =>
          refine to_as rfl rfl ?_
          exact tmq_end
        refine tm_nil ?_
        refine tn_code ?_
        refine t_regM [24] [.row a41 (O.length + 1) c41 55 2 (spans O ++ [[Value.int .i64 y, Value.int .i64 y]]), .snap lo21 w21.heap.size w21] rfl (by kernel_rfl) (by kernel_rfl) ?_
        refine tm_q ?e18 rfl ?q18 ?r18
        case q18 =>
          refine to_mv rfl rfl ?_
          exact tmq_end
        refine tm_q ?e19 rfl ?q19 ?r19
        case q19 =>
          refine to_mv rfl rfl ?_
          exact tmq_end
        refine tm_q ?e20 rfl ?q20 ?r20
        case q20 =>
          refine to_mv rfl rfl ?_
          exact tmq_end
        refine tm_q ?e21 rfl ?q21 ?r21
        case q21 =>
          refine to_mv rfl rfl ?_
          exact tmq_end
        refine tm_q ?e22 rfl ?q22 ?r22
        case q22 =>
          first | refine to_ix rfl rfl rfl (by first | omega | decide) (by first | omega | decide) rfl ?_ | refine to_ixi rfl rfl rfl (by omega) (by omega) (by omega) rfl ?_
          exact tmq_end
        refine tm_q ?e23 rfl ?q23 ?r23
        case q23 =>
          first | refine to_fa rfl rfl rfl (by simp only [Nat.reduceAdd]; rfl) rfl ?_ | refine to_fae rfl rfl rfl (by simp only [Nat.reduceAdd]; rfl) rfl ?_
          exact tmq_end
        refine tm_q ?e24 rfl ?q24 ?r24
        case q24 =>
          first | refine to_lds rfl rfl rfl ?_ | refine to_ldes rfl (by assumption) rfl rfl ?_
          exact tmq_end
        refine tm_q ?e25 rfl ?q25 ?r25
        case q25 =>
          refine to_mv rfl rfl ?_
          exact tmq_end
        refine tm_q ?e26 rfl ?q26 ?r26
        case q26 =>
          refine to_mv rfl rfl ?_
          exact tmq_end
        refine tm_q ?e27 rfl ?q27 ?r27
        case q27 =>
          first | refine to_ix rfl rfl rfl (by first | omega | decide) (by first | omega | decide) rfl ?_ | refine to_ixi rfl rfl rfl (by omega) (by omega) (by omega) rfl ?_
          exact tmq_end
        refine tm_q ?e28 rfl ?q28 ?r28
        case q28 =>
          first | refine to_lds rfl rfl rfl ?_ | refine to_ldes rfl (by assumption) rfl rfl ?_
          exact tmq_end
        refine tm_q ?e29 rfl ?q29 ?r29
        case q29 =>
          refine to_min rfl rfl rfl ?_
          exact tmq_end
        refine tm_q ?e30 rfl ?q30 ?r30
        case q30 =>
          refine to_mv rfl rfl ?_
          exact tmq_end
        refine tm_q ?e31 rfl ?q31 ?r31
        case q31 =>
          refine to_mv rfl rfl ?_
          exact tmq_end
        refine tm_q ?e32 rfl ?q32 ?r32
        case q32 =>
          first | refine to_ix rfl rfl rfl (by first | omega | decide) (by first | omega | decide) rfl ?_ | refine to_ixi rfl rfl rfl (by omega) (by omega) (by omega) rfl ?_
          exact tmq_end
        refine tm_q ?e33 rfl ?q33 ?r33
        case q33 =>
          first | refine to_fa rfl rfl rfl (by simp only [Nat.reduceAdd]; rfl) rfl ?_ | refine to_fae rfl rfl rfl (by simp only [Nat.reduceAdd]; rfl) rfl ?_
          exact tmq_end
        refine tm_q ?e34 rfl ?q34 ?r34
        case q34 =>
          first | refine to_lds rfl rfl rfl ?_ | refine to_ldes rfl (by assumption) rfl rfl ?_
          exact tmq_end
        refine tm_q ?e35 rfl ?q35 ?r35
        case q35 =>
          refine to_mv rfl rfl ?_
          exact tmq_end
        refine tm_q ?e36 rfl ?q36 ?r36
        case q36 =>
          refine to_mv rfl rfl ?_
          exact tmq_end
        refine tm_q ?e37 rfl ?q37 ?r37
        case q37 =>
          first | refine to_ix rfl rfl rfl (by first | omega | decide) (by first | omega | decide) rfl ?_ | refine to_ixi rfl rfl rfl (by omega) (by omega) (by omega) rfl ?_
          exact tmq_end
        refine tm_q ?e38 rfl ?q38 ?r38
        case q38 =>
          first | refine to_lds rfl rfl rfl ?_ | refine to_ldes rfl (by assumption) rfl rfl ?_
          exact tmq_end
        refine tm_q ?e39 rfl ?q39 ?r39
        case q39 =>
          refine to_max rfl rfl rfl ?_
          exact tmq_end
        refine tm_q ?e40 rfl ?q40 ?r40
        case q40 =>
          refine to_bs rfl rfl ?_
          exact tmq_end
        refine tm_q ?e41 rfl ?q41 ?r41
        case q41 =>
          first | refine to_ix rfl rfl rfl (by first | omega | decide) (by first | omega | decide) rfl ?_ | refine to_ixi rfl rfl rfl (by omega) (by omega) (by omega) rfl ?_
          exact tmq_end
        refine tm_s rfl ?_ (fun _ h => by cases h) rfl
        first | refine to_st rfl rfl rfl rfl ?_ | refine to_ste rfl rfl (by assumption) rfl rfl ?_
        refine tm_sl (by kernel_rfl) rfl rfl ?_
        refine tn_blk ?_
        refine tn_code ?_
        refine t_reg ?_
        refine to_mv rfl rfl ?_
        refine to_add rfl rfl (by omega) rfl ?_
        refine to_as rfl rfl ?_
        refine to_nil ?_
        exact tn_loop2 ((k + 1, a41, c41, biC b 0 (k + 1))) [.row a41 (O.length + 1) c41 55 2 ((spans O ++ [[Value.int .i64 y, Value.int .i64 y]]).set k [Value.int .i64 (min y y), Value.int .i64 (max y y)]), .snap lo21 w21.heap.size w21, .snap lo9 w9.heap.size w9, .own b1 (isC (bkC b a c) 40), .snap 0 w.heap.size w] (by dsimp only; rw [hO4, hi0, bi_set0 hpc0 hy, bi_len0, bi_len0]) (⟨by omega, by rw [hi0]⟩) (by dsimp only; omega) (⟨rfl, rfl, congrArg some (by rw [hO4, hi0, bi_len0, bi_len0]), rfl, rfl, rfl, trivial⟩)
      · try simp only [decide_eq_true_eq, decide_eq_false_iff_not, Bool.not_eq_true', Bool.not_eq_false', Int.not_lt, Int.not_le, ne_eq, Decidable.not_not] at h3
        try have h3b := inB_iff.1 h3
        have hi0 : i ≠ 0 := by have h9 := h3; simp at h9; omega
        have hOl : O.length = b.lines.length := by rw [hO4, bi_len hi0]
        have hxk : (spans O)[k]? = some (spanC (enT (atL b k) (truL b) i)) := by rw [hO4]; exact map_get (bi_at hi0 hkl)
        refine t_skip ?_
        refine tn_code ?_
        refine t_regM [24] [.row a4 O.length c4 55 2 (spans O), .snap lo21 w21.heap.size w21] rfl (by kernel_rfl) (by kernel_rfl) ?_
        refine tm_q ?e42 rfl ?q42 ?r42
        case q42 =>
          refine to_mv rfl rfl ?_
          exact tmq_end
        refine tm_q ?e43 rfl ?q43 ?r43
        case q43 =>
          refine to_mv rfl rfl ?_
          exact tmq_end
        refine tm_q ?e44 rfl ?q44 ?r44
        case q44 =>
          refine to_mv rfl rfl ?_
          exact tmq_end
        refine tm_q ?e45 rfl ?q45 ?r45
        case q45 =>
          refine to_mv rfl rfl ?_
          exact tmq_end
        refine tm_q ?e46 rfl ?q46 ?r46
        case q46 =>
          first | refine to_ix rfl rfl rfl (by first | omega | decide) (by first | omega | decide) rfl ?_ | refine to_ixi rfl rfl rfl (by omega) (by omega) (by omega) rfl ?_
          exact tmq_end
        refine tm_q ?e47 rfl ?q47 ?r47
        case q47 =>
          first | refine to_fa rfl rfl rfl (by simp only [Nat.reduceAdd]; rfl) rfl ?_ | refine to_fae rfl rfl rfl (by simp only [Nat.reduceAdd]; rfl) rfl ?_
          exact tmq_end
        refine tm_q ?e48 rfl ?q48 ?r48
        case q48 =>
          first | refine to_lds rfl rfl rfl ?_ | refine to_ldes rfl (by assumption) rfl rfl ?_
          exact tmq_end
        refine tm_q ?e49 rfl ?q49 ?r49
        case q49 =>
          refine to_mv rfl rfl ?_
          exact tmq_end
        refine tm_q ?e50 rfl ?q50 ?r50
        case q50 =>
          refine to_mv rfl rfl ?_
          exact tmq_end
        refine tm_q ?e51 rfl ?q51 ?r51
        case q51 =>
          first | refine to_ix rfl rfl rfl (by first | omega | decide) (by first | omega | decide) rfl ?_ | refine to_ixi rfl rfl rfl (by omega) (by omega) (by omega) rfl ?_
          exact tmq_end
        refine tm_q ?e52 rfl ?q52 ?r52
        case q52 =>
          first | refine to_lds rfl rfl rfl ?_ | refine to_ldes rfl (by assumption) rfl rfl ?_
          exact tmq_end
        refine tm_q ?e53 rfl ?q53 ?r53
        case q53 =>
          refine to_min rfl rfl rfl ?_
          exact tmq_end
        refine tm_q ?e54 rfl ?q54 ?r54
        case q54 =>
          refine to_mv rfl rfl ?_
          exact tmq_end
        refine tm_q ?e55 rfl ?q55 ?r55
        case q55 =>
          refine to_mv rfl rfl ?_
          exact tmq_end
        refine tm_q ?e56 rfl ?q56 ?r56
        case q56 =>
          first | refine to_ix rfl rfl rfl (by first | omega | decide) (by first | omega | decide) rfl ?_ | refine to_ixi rfl rfl rfl (by omega) (by omega) (by omega) rfl ?_
          exact tmq_end
        refine tm_q ?e57 rfl ?q57 ?r57
        case q57 =>
          first | refine to_fa rfl rfl rfl (by simp only [Nat.reduceAdd]; rfl) rfl ?_ | refine to_fae rfl rfl rfl (by simp only [Nat.reduceAdd]; rfl) rfl ?_
          exact tmq_end
        refine tm_q ?e58 rfl ?q58 ?r58
        case q58 =>
          first | refine to_lds rfl rfl rfl ?_ | refine to_ldes rfl (by assumption) rfl rfl ?_
          exact tmq_end
        refine tm_q ?e59 rfl ?q59 ?r59
        case q59 =>
          refine to_mv rfl rfl ?_
          exact tmq_end
        refine tm_q ?e60 rfl ?q60 ?r60
        case q60 =>
          refine to_mv rfl rfl ?_
          exact tmq_end
        refine tm_q ?e61 rfl ?q61 ?r61
        case q61 =>
          first | refine to_ix rfl rfl rfl (by first | omega | decide) (by first | omega | decide) rfl ?_ | refine to_ixi rfl rfl rfl (by omega) (by omega) (by omega) rfl ?_
          exact tmq_end
        refine tm_q ?e62 rfl ?q62 ?r62
        case q62 =>
          first | refine to_lds rfl rfl rfl ?_ | refine to_ldes rfl (by assumption) rfl rfl ?_
          exact tmq_end
        refine tm_q ?e63 rfl ?q63 ?r63
        case q63 =>
          refine to_max rfl rfl rfl ?_
          exact tmq_end
        refine tm_q ?e64 rfl ?q64 ?r64
        case q64 =>
          refine to_bs rfl rfl ?_
          exact tmq_end
        refine tm_q ?e65 rfl ?q65 ?r65
        case q65 =>
          first | refine to_ix rfl rfl rfl (by first | omega | decide) (by first | omega | decide) rfl ?_ | refine to_ixi rfl rfl rfl (by omega) (by omega) (by omega) rfl ?_
          exact tmq_end
        refine tm_s rfl ?_ (fun _ h => by cases h) rfl
        first | refine to_st rfl rfl rfl rfl ?_ | refine to_ste rfl rfl (by assumption) rfl rfl ?_
        refine tm_sl (by kernel_rfl) rfl rfl ?_
        refine tn_blk ?_
        refine tn_code ?_
        refine t_reg ?_
        refine to_mv rfl rfl ?_
        refine to_add rfl rfl (by omega) rfl ?_
        refine to_as rfl rfl ?_
        refine to_nil ?_
        exact tn_loop2 ((k + 1, a4, c4, biC b i (k + 1))) [.row a4 O.length c4 55 2 ((spans O).set k [Value.int .i64 (min (enT (atL b k) (truL b) i).1 y), Value.int .i64 (max (enT (atL b k) (truL b) i).2 y)]), .snap lo21 w21.heap.size w21, .snap lo9 w9.heap.size w9, .own b1 (isC (bkC b a c) 40), .snap 0 w.heap.size w] (by dsimp only; rw [hO4, bi_setS hi0 hpc hy hkl, bi_len hi0, bi_len hi0]) (⟨by omega, rfl⟩) (by dsimp only; omega) (⟨rfl, rfl, congrArg some (by rw [hO4, bi_len hi0, bi_len hi0]), rfl, rfl, rfl, trivial⟩)
    · try simp only [decide_eq_true_eq, decide_eq_false_iff_not, Bool.not_eq_true', Bool.not_eq_false', Int.not_lt, Int.not_le, ne_eq, Decidable.not_not] at h2
      try have h2b := inB_iff.1 h2
      have hk2 : k = b.lines.length := by omega
      subst hk2
      refine t_exit ?_
      refine tx_code ?_
      refine tx_inv ?_
      refine tx_blk ?_
      refine tn_blk ?_
      refine tn_code ?_
      refine t_reg ?_
      refine to_mv rfl rfl ?_
      refine to_add rfl rfl (by omega) rfl ?_
      refine to_as rfl rfl ?_
      refine to_nil ?_
      exact tn_loop2 ((i + 1, a4, c4, O)) [.row a4 O.length c4 55 2 (spans O), .snap lo9 w9.heap.size w9, .own b1 (isC (bkC b a c) 40), .snap 0 w.heap.size w] (rfl) (⟨by omega, by rw [hO4, bi_end]⟩) (by dsimp only; omega) (⟨rfl, rfl, rfl, rfl, trivial⟩)
  · try simp only [decide_eq_true_eq, decide_eq_false_iff_not, Bool.not_eq_true', Bool.not_eq_false', Int.not_lt, Int.not_le, ne_eq, Decidable.not_not] at h1
    try have h1b := inB_iff.1 h1
    have hi2 : i = P9.length := by omega
    subst hi2
    refine t_exit ?_
    refine tx_code ?_
    refine tx_inv ?_
    refine tx_blk ?_
    refine tn_code ?_
    refine t_seq ?_
    refine t_reg ?_
    refine to_mv rfl rfl ?_
    refine to_as rfl rfl ?_
    refine to_nil ?_
    refine tn_code ?_
    refine t_ret1 rfl rfl (res_tmp rfl) (fun w' s => ?_)
    have hbo : boC b P9.length = bdL b b.lines.length := by rw [hP9, bo_full hb]; rfl
    rw [← hbo, ← hO]
    exact ⟨_, _, rfl, ro_row s⟩

end Go.Proofs


namespace Go.Proofs
open Go Go.Sx Go.RowKit

theorem tot_at {b : Bk} {a : Option Addr} {c : Nat} {h : Int} {w : World} (hr : Ro w 0 w.heap.size a b.lines.length c 10 (b.lines.map linC)) (hb : isBk b = true) : Calls Tryz.prog 41 #[bkV b a c, .int .i64 h] w (RetV w (spanV (toL b (endL b true) h, toL b (endL b false) h))) := by
  have := ref_Total b a c h w hr hb
  rw [total_ends hb h] at this; exact this

set_option maxRecDepth 20000 in
theorem w_PayBounds_lo (b : Bk) (a : Option Addr) (c : Nat) (h : Int) (w : World) (hr : Ro w 0 w.heap.size a b.lines.length c 10 (b.lines.map linC)) (hsh : ¬ b.lines.length ≤ 7) (hg : Gl w) : Calls Tryz.prog 7 #[bkV b a c, (.int .i64 h)] w (RetV w (.bool true)) := by
  refine calls_T0 (av := [_, _]) Tryz.func7 rfl rfl rfl ?_
  refine t_seq ?_
  refine t_reg ?_
  refine to_box rfl rfl (fun b2 => ?_)
  refine to_as rfl rfl ?_
  refine to_nil ?_
  refine tn_code ?_
  refine t_seq ?_
  refine t_seq ?_
  refine t_reg ?_
  first | refine to_lda rfl rfl rfl ?_ | refine to_ldea rfl (by assumption) rfl rfl ?_
  refine to_call0 rfl rfl (fun w s => law_short b a c w) rfl ?_
  refine to_fix (s := 10) (b' := false) rfl (decide_eq_false hsh) ?_
  refine to_not rfl rfl ?_
  refine to_nil ?_
  refine tn_code ?_
  refine t_ifT rfl ?_
  refine t_seq ?_
  refine t_reg ?_
  refine to_call0 rfl rfl (fun w s => law_known w (gl_up hg (belowH_of s))) rfl ?_
  refine to_as rfl rfl ?_
  refine to_nil ?_
  refine tn_code ?_
  refine t_ret1 rfl rfl (res_tmp rfl) (fun w' s => ?_)
  rfl

set_option maxRecDepth 20000 in
theorem w_PayBounds_bf (b : Bk) (a : Option Addr) (c : Nat) (h : Int) (w : World) (hr : Ro w 0 w.heap.size a b.lines.length c 10 (b.lines.map linC)) (hsh : b.lines.length ≤ 7) (hb : isBk b = false) (hg : Gl w) : Calls Tryz.prog 7 #[bkV b a c, (.int .i64 h)] w (RetV w (.bool true)) := by
  have hf : (isBk b && inB h 0 (b.hands - 1)) = false := by rw [hb]; rfl
  refine calls_T0 (av := [_, _]) Tryz.func7 rfl rfl rfl ?_
  refine t_seq ?_
  refine t_reg ?_
  refine to_box rfl rfl (fun b2 => ?_)
  refine to_as rfl rfl ?_
  refine to_nil ?_
  refine tn_code ?_
  refine t_seq ?_
  refine t_seq ?_
  refine t_reg ?_
  first | refine to_lda rfl rfl rfl ?_ | refine to_ldea rfl (by assumption) rfl rfl ?_
  refine to_call0 rfl rfl (fun w s => law_short b a c w) rfl ?_
  refine to_fix (s := 10) (b' := true) rfl (decide_eq_true hsh) ?_
  refine to_not rfl rfl ?_
  refine to_nil ?_
  refine tn_code ?_
  refine t_ifF rfl ?_
  refine t_skip ?_
  refine tn_code ?_
  refine t_seq ?_
  refine t_reg ?_
  first | refine to_lda rfl rfl rfl ?_ | refine to_ldea rfl (by assumption) rfl rfl ?_
  refine to_callR rfl rfl (fun w s => c_bounds_f (rdw s) hb) rfl (fun v15 lo15 w15 hlo15 hR15 => ?_)
  obtain ⟨pa15, pc15, rfl, hro15⟩ := hR15
  refine to_mv rfl rfl ?_
  refine to_ex rfl rfl rfl ?_
  refine to_ex rfl rfl rfl ?_
  refine to_as rfl rfl ?_
  refine to_as rfl rfl ?_
  refine to_nil ?_
  refine tn_code ?_
  refine t_seq ?_
  refine t_reg ?_
  first | refine to_lda rfl rfl rfl ?_ | refine to_ldea rfl (by assumption) rfl rfl ?_
  refine to_mv rfl rfl ?_
  refine to_call0 rfl rfl (fun w s => c_total_f (rdw s) hf) rfl ?_
  refine to_mv rfl rfl ?_
  refine to_ex rfl rfl rfl ?_
  refine to_ex rfl rfl rfl ?_
  refine to_alloc rfl (fun b7 => ?_)
  first | refine to_st rfl rfl rfl rfl ?_ | refine to_ste rfl rfl (by assumption) rfl rfl ?_
  refine to_as rfl rfl ?_
  refine to_nil ?_
  refine tn_code ?_
  refine t_seq ?_
  refine t_seq ?_
  refine t_reg ?_
  first | refine to_lda rfl rfl rfl ?_ | refine to_ldea rfl (by assumption) rfl rfl ?_
  refine to_call0 rfl rfl (fun w s => ref_Book b a c w (rdw s)) rfl ?_
  refine to_fix (s := 25) (b' := false) rfl (hb) ?_
  refine to_not rfl rfl ?_
  refine to_nil ?_
  refine tn_code ?_
  refine t_ifT rfl ?_
  refine t_seq ?_
  refine t_reg ?_
  refine to_mv rfl rfl ?_
  refine to_eql rfl rfl rfl ?_
  refine to_fix (s := 28) (b' := true) rfl (rfl) ?_
  refine to_mv rfl rfl ?_
  refine to_gt rfl rfl ?_
  refine to_mv rfl rfl ?_
  refine to_gt rfl rfl ?_
  refine to_lenS rfl rfl ?_
  refine to_gt rfl rfl ?_
  refine to_eql rfl rfl rfl ?_
  refine to_fix (s := 32) (b' := true) rfl (by simp) ?_
  refine to_pkT rfl rfl rfl ?_
  refine to_mv rfl rfl ?_
  refine to_gt rfl rfl ?_
  refine to_mv rfl rfl ?_
  refine to_gt rfl rfl ?_
  refine to_eql rfl rfl rfl ?_
  refine to_fix (s := 36) (b' := true) rfl (rfl) ?_
  refine to_pkT rfl rfl rfl ?_
  refine to_mv rfl rfl ?_
  refine to_gt rfl rfl ?_
  first | refine to_lda rfl rfl rfl ?_ | refine to_ldea rfl (by assumption) rfl rfl ?_
  refine to_gt rfl rfl ?_
  refine to_bs rfl rfl ?_
  refine to_gt rfl rfl ?_
  refine to_eqs rfl rfl rfl rfl rfl rfl rfl ?_
  refine to_fix (s := 41) (b' := true) rfl (by simp [ieq, spanC]) ?_
  refine to_pkT rfl rfl rfl ?_
  refine to_mv rfl rfl ?_
  refine to_gt rfl rfl ?_
  refine to_call0 rfl rfl (fun w s => law_known w (gl_up hg (belowH_of s))) rfl ?_
  refine to_pkT rfl rfl rfl ?_
  refine to_as rfl rfl ?_
  refine to_nil ?_
  refine tn_code ?_
  refine t_ret1 rfl rfl (res_tmp rfl) (fun w' s => ?_)
  rfl

set_option maxRecDepth 20000 in
theorem w_PayBounds_hf (b : Bk) (a : Option Addr) (c : Nat) (h : Int) (w : World) (hr : Ro w 0 w.heap.size a b.lines.length c 10 (b.lines.map linC)) (hsh : b.lines.length ≤ 7) (hb : isBk b = true) (hh : inB h 0 (b.hands - 1) = false) (hg : Gl w) : Calls Tryz.prog 7 #[bkV b a c, (.int .i64 h)] w (RetV w (.bool true)) := by
  have hbb := isBk_b hb
  have hf : (isBk b && inB h 0 (b.hands - 1)) = false := by rw [hh, Bool.and_false]
  have hbl := bdL_len b b.lines.length
  refine calls_T0 (av := [_, _]) Tryz.func7 rfl rfl rfl ?_
  refine t_seq ?_
  refine t_reg ?_
  refine to_box rfl rfl (fun b2 => ?_)
  refine to_as rfl rfl ?_
  refine to_nil ?_
  refine tn_code ?_
  refine t_seq ?_
  refine t_seq ?_
  refine t_reg ?_
  first | refine to_lda rfl rfl rfl ?_ | refine to_ldea rfl (by assumption) rfl rfl ?_
  refine to_call0 rfl rfl (fun w s => law_short b a c w) rfl ?_
  refine to_fix (s := 10) (b' := true) rfl (decide_eq_true hsh) ?_
  refine to_not rfl rfl ?_
  refine to_nil ?_
  refine tn_code ?_
  refine t_ifF rfl ?_
  refine t_skip ?_
  refine tn_code ?_
  refine t_seq ?_
  refine t_reg ?_
  first | refine to_lda rfl rfl rfl ?_ | refine to_ldea rfl (by assumption) rfl rfl ?_
  refine to_callR rfl rfl (fun w s => c_bounds_t (rdw s) hb) rfl (fun v15 lo15 w15 hlo15 hR15 => ?_)
  obtain ⟨pa15, pc15, rfl, hro15⟩ := hR15
  refine to_mv rfl rfl ?_
  refine to_ex rfl rfl rfl ?_
  refine to_ex rfl rfl rfl ?_
  refine to_as rfl rfl ?_
  refine to_as rfl rfl ?_
  refine to_nil ?_
  refine tn_code ?_
  refine t_seq ?_
  refine t_reg ?_
  first | refine to_lda rfl rfl rfl ?_ | refine to_ldea rfl (by assumption) rfl rfl ?_
  refine to_mv rfl rfl ?_
  refine to_call0 rfl rfl (fun w s => c_total_f (rdw s) hf) rfl ?_
  refine to_mv rfl rfl ?_
  refine to_ex rfl rfl rfl ?_
  refine to_ex rfl rfl rfl ?_
  refine to_alloc rfl (fun b7 => ?_)
  first | refine to_st rfl rfl rfl rfl ?_ | refine to_ste rfl rfl (by assumption) rfl rfl ?_
  refine to_as rfl rfl ?_
  refine to_nil ?_
  refine tn_code ?_
  refine t_seq ?_
  refine t_seq ?_
  refine t_reg ?_
  first | refine to_lda rfl rfl rfl ?_ | refine to_ldea rfl (by assumption) rfl rfl ?_
  refine to_call0 rfl rfl (fun w s => ref_Book b a c w (rdw s)) rfl ?_
  refine to_fix (s := 25) (b' := true) rfl (hb) ?_
  refine to_not rfl rfl ?_
  refine to_nil ?_
  refine tn_code ?_
  refine t_ifF rfl ?_
  refine t_skip ?_
  refine tn_code ?_
  refine t_seq ?_
  refine t_seq ?_
  refine t_reg ?_
  refine to_mv rfl rfl ?_
  refine to_neq rfl rfl rfl ?_
  refine to_fix (s := 47) (b' := false) rfl (rfl) ?_
  refine to_mv rfl rfl ?_
  refine to_gt rfl rfl ?_
  refine to_mv rfl rfl ?_
  refine to_gt rfl rfl ?_
  first | refine to_lda rfl rfl rfl ?_ | refine to_ldea rfl (by assumption) rfl rfl ?_
  refine to_gt rfl rfl ?_
  refine to_callR rfl rfl (fun w s => ref_Bounds b a c w (rdw s) hb) rfl (fun v51 lo51 w51 hlo51 hR51 => ?_)
  obtain ⟨pa51, pc51, rfl, hro51⟩ := hR51
  refine to_gt rfl rfl ?_
  refine to_call0 rfl rfl (fun w s => ref_SameSpans (bdL b b.lines.length) (bdL b b.lines.length) _ _ _ _ w (rdw s) (rdw s) (by omega)) rfl ?_
  refine to_fix (s := 52) (b' := true) rfl (by simp) ?_
  refine to_gt rfl rfl ?_
  refine to_not rfl rfl ?_
  refine to_pkF rfl rfl rfl ?_
  refine to_nil ?_
  refine tn_code ?_
  refine t_ifF rfl ?_
  refine t_skip ?_
  refine tn_code ?_
  refine t_seq ?_
  refine t_seq ?_
  refine t_reg ?_
  first | refine to_lda rfl rfl rfl ?_ | refine to_ldea rfl (by assumption) rfl rfl ?_
  refine to_mv rfl rfl ?_
  refine to_call0 rfl rfl (fun w s => ref_Hand b a c h w (by omega)) rfl ?_
  refine to_fix (s := 57) (b' := false) rfl (hh) ?_
  refine to_not rfl rfl ?_
  refine to_nil ?_
  refine tn_code ?_
  refine t_ifT rfl ?_
  refine t_seq ?_
  refine t_reg ?_
  refine to_mv rfl rfl ?_
  refine to_eql rfl rfl rfl ?_
  refine to_fix (s := 60) (b' := true) rfl (rfl) ?_
  refine to_mv rfl rfl ?_
  refine to_gt rfl rfl ?_
  first | refine to_lda rfl rfl rfl ?_ | refine to_ldea rfl (by assumption) rfl rfl ?_
  refine to_gt rfl rfl ?_
  refine to_bs rfl rfl ?_
  refine to_gt rfl rfl ?_
  refine to_eqs rfl rfl rfl rfl rfl rfl rfl ?_
  refine to_fix (s := 64) (b' := true) rfl (by simp [ieq, spanC]) ?_
  refine to_pkT rfl rfl rfl ?_
  refine to_mv rfl rfl ?_
  refine to_gt rfl rfl ?_
  refine to_call0 rfl rfl (fun w s => law_known w (gl_up hg (belowH_of s))) rfl ?_
  refine to_pkT rfl rfl rfl ?_
  refine to_as rfl rfl ?_
  refine to_nil ?_
  refine tn_code ?_
  refine t_ret1 rfl rfl (res_tmp rfl) (fun w' s => ?_)
  rfl

set_option maxRecDepth 20000 in
theorem w_PayBounds_ok (b : Bk) (a : Option Addr) (c : Nat) (h : Int) (w : World) (hr : Ro w 0 w.heap.size a b.lines.length c 10 (b.lines.map linC)) (hsh : b.lines.length ≤ 7) (hb : isBk b = true) (hh : inB h 0 (b.hands - 1) = true) (hg : Gl w) : Calls Tryz.prog 7 #[bkV b a c, (.int .i64 h)] w (RetV w (.bool true)) := by
  have hbb := isBk_b hb
  have hbl := bdL_len b b.lines.length
  refine calls_T0 (av := [_, _]) Tryz.func7 rfl rfl rfl ?_
  refine t_seq ?_
  refine t_reg ?_
  refine to_box rfl rfl (fun b2 => ?_)
  refine to_as rfl rfl ?_
  refine to_nil ?_
  refine tn_code ?_
  refine t_seq ?_
  refine t_seq ?_
  refine t_reg ?_
  first | refine to_lda rfl rfl rfl ?_ | refine to_ldea rfl (by assumption) rfl rfl ?_
  refine to_call0 rfl rfl (fun w s => law_short b a c w) rfl ?_
  refine to_fix (s := 10) (b' := true) rfl (decide_eq_true hsh) ?_
  refine to_not rfl rfl ?_
  refine to_nil ?_
  refine tn_code ?_
  refine t_ifF rfl ?_
  refine t_skip ?_
  refine tn_code ?_
  refine t_seq ?_
  refine t_reg ?_
  first | refine to_lda rfl rfl rfl ?_ | refine to_ldea rfl (by assumption) rfl rfl ?_
  refine to_callR rfl rfl (fun w s => c_bounds_t (rdw s) hb) rfl (fun v15 lo15 w15 hlo15 hR15 => ?_)
  obtain ⟨pa15, pc15, rfl, hro15⟩ := hR15
  refine to_mv rfl rfl ?_
  refine to_ex rfl rfl rfl ?_
  refine to_ex rfl rfl rfl ?_
  refine to_as rfl rfl ?_
  refine to_as rfl rfl ?_
  refine to_nil ?_
  refine tn_code ?_
  refine t_seq ?_
  refine t_reg ?_
  first | refine to_lda rfl rfl rfl ?_ | refine to_ldea rfl (by assumption) rfl rfl ?_
  refine to_mv rfl rfl ?_
  refine to_call0 rfl rfl (fun w s => c_total_t (rdw s) hb hh) rfl ?_
  refine to_mv rfl rfl ?_
  refine to_ex rfl rfl rfl ?_
  refine to_ex rfl rfl rfl ?_
  refine to_alloc rfl (fun b7 => ?_)
  first | refine to_st rfl rfl rfl rfl ?_ | refine to_ste rfl rfl (by assumption) rfl rfl ?_
  refine to_as rfl rfl ?_
  refine to_nil ?_
  refine tn_code ?_
  refine t_seq ?_
  refine t_seq ?_
  refine t_reg ?_
  first | refine to_lda rfl rfl rfl ?_ | refine to_ldea rfl (by assumption) rfl rfl ?_
  refine to_call0 rfl rfl (fun w s => ref_Book b a c w (rdw s)) rfl ?_
  refine to_fix (s := 25) (b' := true) rfl (hb) ?_
  refine to_not rfl rfl ?_
  refine to_nil ?_
  refine tn_code ?_
  refine t_ifF rfl ?_
  refine t_skip ?_
  refine tn_code ?_
  refine t_seq ?_
  refine t_seq ?_
  refine t_reg ?_
  refine to_mv rfl rfl ?_
  refine to_neq rfl rfl rfl ?_
  refine to_fix (s := 47) (b' := false) rfl (rfl) ?_
  refine to_mv rfl rfl ?_
  refine to_gt rfl rfl ?_
  refine to_mv rfl rfl ?_
  refine to_gt rfl rfl ?_
  first | refine to_lda rfl rfl rfl ?_ | refine to_ldea rfl (by assumption) rfl rfl ?_
  refine to_gt rfl rfl ?_
  refine to_callR rfl rfl (fun w s => ref_Bounds b a c w (rdw s) hb) rfl (fun v51 lo51 w51 hlo51 hR51 => ?_)
  obtain ⟨pa51, pc51, rfl, hro51⟩ := hR51
  refine to_gt rfl rfl ?_
  refine to_call0 rfl rfl (fun w s => ref_SameSpans (bdL b b.lines.length) (bdL b b.lines.length) _ _ _ _ w (rdw s) (rdw s) (by omega)) rfl ?_
  refine to_fix (s := 52) (b' := true) rfl (by simp) ?_
  refine to_gt rfl rfl ?_
  refine to_not rfl rfl ?_
  refine to_pkF rfl rfl rfl ?_
  refine to_nil ?_
  refine tn_code ?_
  refine t_ifF rfl ?_
  refine t_skip ?_
  refine tn_code ?_
  refine t_seq ?_
  refine t_seq ?_
  refine t_reg ?_
  first | refine to_lda rfl rfl rfl ?_ | refine to_ldea rfl (by assumption) rfl rfl ?_
  refine to_mv rfl rfl ?_
  refine to_call0 rfl rfl (fun w s => ref_Hand b a c h w (by omega)) rfl ?_
  refine to_fix (s := 57) (b' := true) rfl (hh) ?_
  refine to_not rfl rfl ?_
  refine to_nil ?_
  refine tn_code ?_
  refine t_ifF rfl ?_
  refine t_skip ?_
  refine tn_code ?_
  refine t_seq ?_
  refine t_regD rfl (by kernel_rfl) (by kernel_rfl) ?_
  refine to_mv rfl rfl ?_
  refine to_eql rfl rfl rfl ?_
  refine to_fix (s := 70) (b' := true) rfl (rfl) ?_
  refine to_mv rfl rfl ?_
  refine to_gt rfl rfl ?_
  first | refine to_lda rfl rfl rfl ?_ | refine to_ldea rfl (by assumption) rfl rfl ?_
  refine to_gt rfl rfl ?_
  first | refine to_lda rfl rfl rfl ?_ | refine to_ldea rfl (by assumption) rfl rfl ?_
  refine to_gt rfl rfl ?_
  refine to_mv rfl rfl ?_
  refine to_gt rfl rfl ?_
  refine to_call0 rfl rfl (fun w s => tot_at (rdw s) hb) rfl ?_
  refine to_gt rfl rfl ?_
  refine to_eqs rfl rfl rfl rfl rfl rfl rfl ?_
  refine to_fix (s := 76) (b' := true) rfl (by simp [ieq, spanC]) ?_
  refine to_pkT rfl rfl rfl ?_
  refine to_mv rfl rfl ?_
  refine to_gt rfl rfl ?_
  refine to_call0 rfl rfl (fun w s => law_known w (gl_up hg (belowH_of s))) rfl ?_
  refine to_pkT rfl rfl rfl ?_
  refine to_as rfl rfl ?_
  refine to_nil ?_
  refine tn_code ?_
  refine t_ret1 rfl rfl (res_tmp rfl) (fun w' s => ?_)
  rfl

theorem w_PayBounds (b : Bk) (a : Option Addr) (c : Nat) (h : Int) (w : World) (hr : Ro w 0 w.heap.size a b.lines.length c 10 (b.lines.map linC)) (hg : Gl w) : Calls Tryz.prog 7 #[bkV b a c, .int .i64 h] w (RetV w (.bool true)) := by
  by_cases hsh : b.lines.length ≤ 7
  · rcases bool_tf (isBk b) with hb | hb
    · rcases bool_tf (inB h 0 (b.hands - 1)) with hh | hh
      · exact w_PayBounds_ok b a c h w hr hsh hb hh hg
      · exact w_PayBounds_hf b a c h w hr hsh hb hh hg
    · exact w_PayBounds_bf b a c h w hr hsh hb hg
  · exact w_PayBounds_lo b a c h w hr hsh hg

end Go.Proofs


namespace Go.Proofs.YtpnjgmioohofcaaGreatDoor
open Go Go.Sx Go.RowKit Go.WideShapes Go.ChangeShapes

section
variable {H : Type} {enc : TypeId × Value → H}
set_option maxRecDepth 100000 in
theorem payBounds_law (W : World) (base : Nat) (args : Array Value) (ds : List (DataW H)) (p : List MemPlace) (hval : ∀ (j : Nat) t v, Tryz.f7.params[j]? = some t → args[j]? = some v → Value.okWide Tryz.prog W .any base t v)
    (hA : DataW.TrodAll enc Tryz.prog W 0 (fun _ => true) true Tryz.f7.params.toList args.toList ds p) (hg : Gl W) : Calls Tryz.prog 7 args W (RetV W (.bool true)) := by
  obtain ⟨l⟩ := args
  rw [Tryz.params7] at hA hval
  obtain ⟨v0, l0, d0, e0, p0, q0, hl0, rfl, h0, hA0⟩ := trodAll_cons hA
  have hl0' : l = v0 :: l0 := hl0
  subst hl0'
  obtain ⟨v1, l1, d1, e1, p1, q1, hl1, rfl, h1, hA1⟩ := trodAll_cons hA0
  subst hl1
  obtain rfl := trodAll_nil hA1
  obtain ⟨b0, a0, c0, rfl, hr0⟩ := open_bk (hval 0 40 v0 rfl rfl) h0
  obtain ⟨n1, rfl, _⟩ := open_i u3 (hval 1 3 v1 rfl rfl) h1
  exact w_PayBounds b0 a0 c0 n1 W hr0 hg
end

set_option maxRecDepth 100000 in
theorem payBounds_lifted (os : Os) (started : os.Started) (H : Type) (enc : TypeId × Value → H) :
    ReturnsInHanded {} Tryz.checked os 7 .any (fun w args => (Rows.payBoundsSpec.pre enc Tryz.prog Tryz.f7 [] false w args ∧ laidMetH Tryz.prog laidL w) ∧ sizedMet enc Tryz.prog Tryz.f7 (OpenSpec.ofChange Rows.payBoundsSpec) false w args)
      (Rows.payBoundsSpec.post enc Tryz.prog Tryz.f7 false true false false) :=
  law_lifted started (by kernel_rfl) Tryz.func7 rfl rfl (by kernel_rfl) (fun ds h => by
      match ds, h with
      | [_, _], _ => rfl)
    (ChangeSpec.witness_shaped (enc := enc) (C := Tryz.checked) (os := os) (X := fun w _ => laidMetH Tryz.prog laidL w) false (World.laidAll Tryz.prog os laidL) #[.agg #[.int .i64 0, .int .i64 0, .int .i64 0, .int .i64 0, .int .i64 0, .int .i64 0, .slice none 0 0], .int .i64 0] 8 (World.laidAll_os _ _ _)
      (World.shaped_of_ZipB (by kernel_rfl) (by kernel_rfl)) (by kernel_rfl) (by kernel_rfl) (by kernel_rfl)
      (by rw [MakeChecks.laidMetH_plain _ _ _ (by kernel_rfl)]; exact laidMet_laidAll _ (by kernel_rfl) (by kernel_rfl)))
    (fun W base args ds p hval hA hg => payBounds_law W base args ds p hval hA hg)

theorem payBounds_holds : Rows.PayBoundsSaid :=
  OpenClaim.holds_of_wide 7 Tryz.f7 rfl rfl rfl rfl rfl rfl rfl ⟨rfl, rfl, rfl, rfl, rfl⟩ rfl rfl rfl rfl rfl (by kernel_rfl) Tryz.func7 (by kernel_rfl)
    (of_decide_eq_true (by kernel_rfl)) (by unfold Func.isWrapper; first | (rw [if_pos (by decide +kernel)]; kernel_rfl) | (rw [if_neg (by decide +kernel)]; exact ⟨rfl, rfl⟩))
    (fun os started H enc _ => payBounds_lifted os started H enc)

theorem payBounds_card : Rows.PayBoundsCardSaid :=
  Claim7.holds_tied_plain_at .later [] [.data, .data, .data, .data, .pinned] true (true, "d3aec2bec26e0e75b2ad0ab24f30d80db9ba8c2d7002ce1c8fe1c56e9e4cda51") true
    payBounds_holds (fun _ h => by cases h) (by kernel_rfl) (fun _ h => by cases h) payBounds_row_tie rfl ⟨rfl, rfl⟩ (by kernel_rfl) rfl
    (fun f fn hf hfn => by
      obtain rfl : f = 7 := Option.some.inj ((show Tryz.prog.funcNamed "ephemerist/ephemeristlaw08.PayBounds" = some 7 by kernel_rfl).symm.trans hf) |>.symm
      obtain rfl : fn = Tryz.f7 := (Option.some.inj (Tryz.func7.symm.trans hfn)).symm
      exact ⟨by kernel_rfl, fun j t ht => by
        rw [Tryz.params7] at ht
        have hm : t ∈ [40, 3] := by simpa using Array.mem_of_getElem? ht
        have hall : ([40, 3].all fun u => !Tryz.prog.wantsStandIn u) = true := by kernel_rfl
        exact (show Tryz.prog.wantsStandIn t = false by simpa using List.all_eq_true.1 hall t hm)⟩)
    (by kernel_rfl)
end Go.Proofs.YtpnjgmioohofcaaGreatDoor

