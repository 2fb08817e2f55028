/- PayJust: for every input the law returns true, and each argument reads behind the call as it read before. Conditions: the package-level variables that the row lists hold what the program's text lays (tied by the card). -/
import Derived.Test.YtpnjgmioohofcabGreatDoorOwnB
import Derived.Test.YtpnjgmioohofcabGreatDoorOwnF
import Derived.Test.YtpnjgmioohofcabGreatDoorOwnD
import Derived.Test.YtpnjgmioohofcabGreatDoorOwnE
import Derived.LaidOnce
import Derived.SevenTiedAt
import Derived.Test.YtpnjgmioohofcabGreatDoorTie
import Derived.Test.YtpnjgmioohofcabGreatDoorCards
set_option linter.unusedVariables false
set_option linter.unusedSimpArgs false

namespace Go.Sx
open Go Go.RowKit

/-! ### Mixed regions whose operations are taken in an order of our own -/

section mixed
variable {P : Program} {ops : Array Oper} {md : Region.Mode} {C : World → Prop} {S : List Nat}

def wpOrd (P : Program) (ops : Array Oper) (S : List Nat) (C : World → Prop) (Q : (World → Prop) → Act → Prop) : List (Nat × Oper) → (World → Prop) → Act → Prop
  | [], D, a => Q D a
  | (k, o) :: rest, D, a => if Region.wanted o (yielded ops a.tmps) then
      if S.contains k then ∀ w, D w → o.wpIn (WF none) 0 P a w (fun a' w' => a'.defers = a.defers ∧ ∃ D', Fine ops C k D' ∧ D' w' ∧ wpOrd P ops S C Q rest D' a') QF
      else ∃ v, quietM P C o a v ∧ wpOrd P ops S C Q rest D (a.put o.dst v)
    else wpOrd P ops S C Q rest D (a.put o.dst undef)

def ordFrom (md : Region.Mode) (ops : Array Oper) (S : List Nat) : List (Nat × Oper) → Array Bool → Bool
  | [], listed => (Region.ready md ops listed).isEmpty
  | (k, _) :: l, listed => (if S.contains k then Region.ready md ops listed == [k] else (Region.ready md ops listed).contains k && Region.free md ops listed k) && ordFrom md ops S l (listed.setIfInBounds k true)

def nthO : List Oper → Nat → Option Oper
  | [], _ => none
  | o :: _, 0 => some o
  | _ :: l, k + 1 => nthO l k
theorem nthO_eq : ∀ (l : List Oper) (k : Nat), nthO l k = l[k]?
  | [], k => by simp [nthO]
  | o :: l, 0 => by simp [nthO]
  | o :: l, k + 1 => by simp [nthO, nthO_eq l k]
/-- The operations in an order of our own. -/
def plan (l : List Oper) : List Nat → List (Nat × Oper)
  | [] => []
  | k :: L => match nthO l k with
    | some o => (k, o) :: plan l L
    | none => plan l L
theorem plan_at {l : List Oper} : ∀ {L : List Nat}, ∀ p ∈ plan l L, l.toArray[p.1]? = some p.2
  | [], p, hp => by simp [plan] at hp
  | k :: L, p, hp => by
    simp only [plan] at hp
    split at hp
    · rename_i o ho
      rcases List.mem_cons.1 hp with rfl | hp
      · rw [nthO_eq] at ho; simpa using ho
      · exact plan_at p hp
    · exact plan_at p hp

theorem mAny_ord {Q : (World → Prop) → Act → Prop} (hs : Region.noSelect ops = true) (hnd : noDefer ops = true) : ∀ (l : List (Nat × Oper)) (listed : Array Bool) (D : World → Prop) (a : Act), (∀ p ∈ l, ops[p.1]? = some p.2) →
    ordFrom md ops S l listed = true → wpOrd P ops S C Q l D a → mAny P md ops S C Q l.length listed D a
  | [], _, _, _, _, hB, h => ⟨by simpa [ordFrom] using hB, h⟩
  | (k, o) :: l, listed, D, a, hl, hB, h => by
    have h0 : ops[k]? = some o := hl (k, o) (List.mem_cons_self ..)
    simp only [ordFrom, Bool.and_eq_true] at hB
    obtain ⟨hr, hB'⟩ := hB
    have hst : mOp P ops S C D k (fun D' a' => wpOrd P ops S C Q l D' a') a := by unfold mOp; simp only [h0]; exact h
    have hnext := fun D' a' (h : wpOrd P ops S C Q l D' a') => mAny_ord (Q := Q) hs hnd l (listed.setIfInBounds k true) D' a' (fun p hp => hl p (List.mem_cons_of_mem _ hp)) hB' h
    cases hS : S.contains k with
    | true =>
      rw [hS] at hr
      have hr' : Region.ready md ops listed = [k] := by simpa using hr
      refine ⟨fun h => (by rw [hr'] at h; cases h), fun i hi => ?_⟩
      rw [hr'] at hi
      have : i = k := by simpa using hi
      subst this
      exact mOp_mono hnext hst
    | false =>
      rw [hS] at hr
      simp only [Bool.false_eq_true, if_false, Bool.and_eq_true] at hr
      obtain ⟨v, hy, hK⟩ := yieldsM_of_op h0 hS hst
      exact mAny_first (noDefer_spec hnd) h0 hS (Region.noSelect_spec hs) l.length listed D a (Region.free_spec h0 hr.2) (by simpa using hr.1) hy (hnext _ _ hK)

def ordB (l : List Oper) (S L : List Nat) : Bool := Region.noSelect l.toArray && noDefer l.toArray && Nat.beq (plan l L).length l.toArray.size && ordFrom .any l.toArray S (plan l L) (Array.replicate l.toArray.size false)

theorem wpIn_region_ord {id : Nat} {Q : Exit → Act → World → Prop} {a : Act} {w : World} {l : List Oper} (S L : List Nat) (C D : World → Prop) (hm : P.follows .mixedOrders = true) (hB : ordB l S L = true) (hg : Good C D)
    (hD : D { w with drawn := w.drawn + 1 }) (h : wpOrd P l.toArray S C (fun D a' => ∀ w', D w' → Q .normal a' w') (plan l L) D a) : (Code.region id l.toArray true).wpIn (WF none) 0 P Q a w := by
  simp only [ordB, Bool.and_eq_true] at hB
  refine wpIn_region_any hm (wpAnyIn_of_m (S := S) (noDefer_spec hB.1.1.2) (Q := fun D a' => ∀ w', D w' → Q .normal a' w') (fun D a w h hw => h w hw) _ _ D _ _ (.inl hg) hD ?_)
  have := mAny_ord (P := P) (C := C) (md := .any) (S := S) hB.1.1.1 hB.1.1.2 (plan l L) (Array.replicate l.toArray.size false) D a plan_at hB.2 h
  rw [Nat.eq_of_beq_eq_true hB.1.2] at this
  exact this
end mixed

def TP (x : Cx) (S : List Nat) (ops : Array Oper) (rest : List (Nat × Oper)) (ks : List KI) (E : Env) (Hb H : List Seg) : Prop :=
  ∀ a, E.ok a → (∃ w, St x.w0 Hb w) → wpOrd x.P ops S (St x.w0 Hb) (fun D a' => ∀ w', D w' → Qk x ks .normal a' w') rest (St x.w0 H) a

def MP (x : Cx) (S : List Nat) (k : Nat) (ops : Array Oper) (rest : List (Nat × Oper)) (ks : List KI) (ds : List Deferred) (Hb : List Seg) (a : Act) (w : World) : Prop :=
  a.defers = ds ∧ ∃ D', Fine ops (St x.w0 Hb) (k - 1) D' ∧ D' w ∧ wpOrd x.P ops S (St x.w0 Hb) (fun D a' => ∀ w', D w' → Qk x ks .normal a' w') rest D' a

section
variable {x : Cx} {S : List Nat} {k : Nat} {ops : Array Oper} {rest : List (Nat × Oper)} {ks : List KI} {E : Env} {Hb H : List Seg}

theorem t_regP {id : Nat} {l : List Oper} (S L : List Nat) (Hb : List Seg) (hr : x.r = none) (hm : x.P.follows .mixedOrders = true) (hB : ordB l S L = true) [SubH Hb H] (h : TP x S l.toArray (plan l L) ks E Hb H) : T x ks (.region id l.toArray true) E H := by
  intro a w e s
  rw [hr]
  exact wpIn_region_ord S L (St x.w0 Hb) (St x.w0 H) hm hB st_good s.drew (h a e ⟨w, s.sub⟩)

theorem tp_nil (h : TX x .normal ks E H) : TP x S ops [] ks E Hb H := fun a e _ w s => h a w e s

/-- A quiet operation: its rule, applied to it alone. -/
theorem tp_q {o : Oper} (E' : Env) (hS : S.contains k = false) (hq : TO x.nx true ops [o] [.inv (fun a _ => E'.ok a)] E Hb) (h : TP x S ops rest ks E' Hb H) : TP x S ops ((k, o) :: rest) ks E Hb H := by
  intro a e hne
  have h1 := hq a e
  have ⟨w, hw⟩ := hne
  simp only [wpQM] at h1
  simp only [wpOrd, hS, Bool.false_eq_true, if_false]
  split
  · rename_i hwt
    simp only [hwt, if_true] at h1
    obtain ⟨v, h2, h3⟩ := h1
    exact ⟨v, h2, h _ (h3 w hw) hne⟩
  · rename_i hwt
    simp only [hwt] at h1
    exact h _ (h1 w hw) hne

theorem tpq_end {E : Env} {x : Cx} {ops : Array Oper} {H : List Seg} : TO x true ops [] [.inv (fun a _ => E.ok a)] E H := fun _ e _ _ => e

/-- One that turns the world. -/
theorem tp_s {o : Oper} (hS : S.contains k = true) (hs : TO x.nx false ops [o] [.inv (MP x S (k + 1) ops rest ks E.ds Hb)] E H) (hnd : ∀ c, o.op ≠ .defer c) (hg : o.guard = none) : TP x S ops ((k, o) :: rest) ks E Hb H := by
  intro a e hne
  have hw : Region.wanted o (yielded ops a.tmps) = true := by unfold Region.wanted; rw [hg]
  simp only [wpOrd, hS, hw, if_true]
  intro w s
  have h1 := hs a w e s
  simp only [wpListIn, hw, if_true] at h1
  refine ⟨fun _ _ => trivial, ?_⟩
  have h2 := h1.2
  have hQ : Qk x.nx [.inv (MP x S (k + 1) ops rest ks E.ds Hb)] = Exit.then (MP x S (k + 1) ops rest ks E.ds Hb) QF := rfl
  rw [hQ] at h2
  have hL : LetsOut (Exit.then (MP x S (k + 1) ops rest ks E.ds Hb) QF) → LetsOut QF := fun ⟨_, _, h⟩ => ⟨a, w, h⟩
  have h2' : o.uponIn (WF none) 0 x.P a (MP x S (k + 1) ops rest ks E.ds Hb) (Exit.then (MP x S (k + 1) ops rest ks E.ds Hb) QF) ((o.semAt none a.eval).run x.P w) := h2
  have h3 : o.uponIn (WF none) 0 x.P a (MP x S (k + 1) ops rest ks E.ds Hb) QF ((o.semAt none a.eval).run x.P w) := by
    generalize (o.semAt none a.eval).run x.P w = r at h2'
    unfold Oper.uponIn at *
    split <;> simp only at h2'
    · exact h2'
    · exact h2'
    · exact h2'
    · exact ⟨h2'.1, h2'.2.mono fun e w' he => by
        cases e with
        | returned v => exact he
        | panicked c => exact he
        | outgrown => exact hL he⟩
    · exact h2'
    · exact ⟨h2'.1, h2'.2.mono fun e w' he => by
        cases e with
        | returned v => exact he
        | panicked c => exact he
        | outgrown => exact hL he⟩
    · exact h2'
  refine upon_mono (fun a' w' h' => ?_) h3
  obtain ⟨h4, D', h5, h6, h7⟩ := h'
  exact ⟨h4.trans e.ds.symm, D', h5, h6, h7⟩

theorem tp_se {ds : List Deferred} [SubH Hb H] (hds : E.ds = ds) (h : TP x S ops rest ks E Hb H) : TO x.nx false ops [] [.inv (MP x S k ops rest ks ds Hb)] E H := fun a w e s =>
  ⟨e.ds.trans hds, St x.w0 H, .inr st_good, s, h a e ⟨w, s.sub⟩⟩

theorem tp_se2 {ds : List Deferred} (hsub : ∀ w, St x.w0 H w → St x.w0 Hb w) (hds : E.ds = ds) (h : TP x S ops rest ks E Hb H) : TO x.nx false ops [] [.inv (MP x S k ops rest ks ds Hb)] E H := fun a w e s =>
  ⟨e.ds.trans hds, St x.w0 H, .inr ⟨fun _ _ h hb => h.below hb, hsub⟩, s, h a e ⟨w, hsub w s⟩⟩

/-- Behind the last operation of all. -/
theorem tp_sl {ds : List Deferred} (hl : lastB ops = true) (hk : Nat.beq k ops.size = true) (hds : E.ds = ds) (h : TX x .normal ks E H) : TO x.nx false ops [] [.inv (MP x S k ops [] ks ds Hb)] E H := fun a w e s =>
  ⟨e.ds.trans hds, St x.w0 H, .inl ⟨hl, by have := Nat.eq_of_beq_eq_true hk; have h0 : 0 < ops.size := (by unfold lastB at hl; rcases Nat.eq_zero_or_pos ops.size with h0 | h0; (rw [h0] at hl; rw [Array.getElem?_eq_none (by omega)] at hl; cases hl); exact h0); omega⟩, s, fun w' hw' => h a w' e hw'⟩

/-- A guarded operation, as without a guard. -/
theorem tp_gt {op : Op} {ty : TypeId} {pos : String} {aft : Array Edge} {dst : Option Nat} {j : Nat} {want : Bool} {s : Nat}
    (hs : (ops[j]?).bind (·.dst) = some s) (hv : lk E.m s = some (.bool want)) (h : TP x S ops ((k, ⟨dst, op, ty, pos, aft, none⟩) :: rest) ks E Hb H) : TP x S ops ((k, ⟨dst, op, ty, pos, aft, some (j, want)⟩) :: rest) ks E Hb H := by
  intro a e hne
  have hw : Region.wanted ⟨dst, op, ty, pos, aft, some (j, want)⟩ (yielded ops a.tmps) = true := by
    simp [Region.wanted, yielded, hs, e.get _ _ hv]
  have h1 := h a e hne
  simp only [wpOrd, Region.wanted, if_true] at h1
  simp only [wpOrd, hw, if_true]
  exact h1

theorem tp_gf {n : Nat} {m : List (Nat × Value)} {ds : List Deferred} {op : Op} {ty : TypeId} {pos : String} {aft : Array Edge} {dd : Nat} {j : Nat} {want : Bool} {s : Nat} {u : Value}
    (hs : (ops[j]?).bind (·.dst) = some s) (hv : lk m s = some u) (hu : (match u with | .bool b => b == want | _ => false) = false) (hd : Nat.blt dd n = true)
    (h : TP x S ops rest ks ⟨n, (dd, undef) :: m, ds⟩ Hb H) : TP x S ops ((k, ⟨some dd, op, ty, pos, aft, some (j, want)⟩) :: rest) ks ⟨n, m, ds⟩ Hb H := by
  intro a e hne
  have hw : Region.wanted ⟨some dd, op, ty, pos, aft, some (j, want)⟩ (yielded ops a.tmps) = false := by
    have := e.get _ _ hv
    simp only [Region.wanted, yielded, hs, Option.bind_some, this]
    cases u <;> simp_all
  simp only [wpOrd, hw]
  exact h _ (e.put hd undef) hne

theorem tp_gs {n : Nat} {m : List (Nat × Value)} {ds : List Deferred} {o : Oper} {j : Nat} {want b : Bool} {s : Nat}
    (_hg : o.guard = some (j, want)) (_hs : (ops[j]?).bind (·.dst) = some s) (hv : lk m s = some (.bool b))
    (ht : b = true → TP x S ops ((k, o) :: rest) ks ⟨n, (s, .bool true) :: m, ds⟩ Hb H) (hf : b = false → TP x S ops ((k, o) :: rest) ks ⟨n, (s, .bool false) :: m, ds⟩ Hb H) : TP x S ops ((k, o) :: rest) ks ⟨n, m, ds⟩ Hb H := by
  have key : ∀ a, Env.ok ⟨n, m, ds⟩ a → Env.ok ⟨n, (s, .bool b) :: m, ds⟩ a := by
    intro a e
    refine ⟨e.size, e.ds, fun t u hu => ?_⟩
    simp only [lk] at hu
    cases hb : Nat.beq s t with
    | true =>
      rw [hb] at hu; cases hu
      have e' : s = t := Nat.eq_of_beq_eq_true hb
      subst e'; exact e.get _ _ hv
    | false => rw [hb] at hu; exact e.get _ _ hu
  cases b with
  | true => exact fun a e hne => ht rfl a (key a e) hne
  | false => exact fun a e hne => hf rfl a (key a e) hne

end

end Go.Sx


namespace Go.Proofs
open Go Go.Sx Go.RowKit

theorem ieq_refl : ∀ {vs : List Value}, isI vs → ieq vs vs = true
  | [], _ => rfl
  | v :: vs, h => by
    obtain ⟨i, rfl⟩ := h v (List.mem_cons_self ..)
    have ih := ieq_refl (vs := vs) (fun u hu => h u (List.mem_cons_of_mem _ hu))
    simp only [ieq, ih, Bool.and_true]; simp
theorem isI_mon (m : Mon) : isI (monC m) := allI_isI rfl
theorem isI_span (s : Int × Int) : isI (spanC s) := allI_isI rfl
theorem far_t {m : Mon} (h : isMon m = true) : payFar m = (monN m, 0) := by simp [payFar, h]
theorem far_f {m : Mon} (h : isMon m = false) : payFar m = (0, 2) := by simp [payFar, h]
theorem mny_t {n : Int} (h : isSum n = true) : payMoney n = (monOf n, 0) := by simp [payMoney, h]
theorem mny_f {n : Int} (h : isSum n = false) : payMoney n = (⟨0, 0, 0, 0⟩, 2) := by simp [payMoney, h]
theorem c_far_t {m : Mon} (h : isMon m = true) (w : World) : Calls Tryz.prog 37 #[monV m] w (RetV w (.tuple #[.int .i64 (monN m), .int .i64 0])) := by
  have := pay_Farthings m w
  rw [far_t h] at this; exact this
theorem c_far_f {m : Mon} (h : isMon m = false) (w : World) : Calls Tryz.prog 37 #[monV m] w (RetV w (.tuple #[.int .i64 0, .int .i64 2])) := by
  have := pay_Farthings m w
  rw [far_f h] at this; exact this
theorem c_mny_t {n : Int} (h : isSum n = true) (w : World) : Calls Tryz.prog 38 #[.int .i64 n] w (RetV w (.tuple #[monV (monOf n), .int .i64 0])) := by
  have := pay_Money n w
  rw [mny_t h] at this; exact this
theorem c_mny_f {n : Int} (h : isSum n = false) (w : World) : Calls Tryz.prog 38 #[.int .i64 n] w (RetV w (.tuple #[monV ⟨0, 0, 0, 0⟩, .int .i64 2])) := by
  have := pay_Money n w
  rw [mny_f h] at this; exact this
theorem bool_tf (b : Bool) : b = true ∨ b = false := by cases b <;> simp

end Go.Proofs


namespace Go.Proofs
open Go Go.Sx Go.RowKit

theorem monN_b {m : Mon} (h : isMon m = true) : 0 ≤ monN m ∧ monN m ≤ 959999 := by
  have := isMon_b h
  simp only [monN]; omega
theorem monN_s {m : Mon} (h : isMon m = true) : isSum (monN m) = true := by
  have := monN_b h
  simp only [isSum]; exact inB_iff.2 this
theorem monOf_m {n : Int} (h : isSum n = true) : isMon (monOf n) = true := by
  have := isSum_b h
  simp only [isMon, monOf, Bool.and_eq_true, inB_iff]
  omega
theorem monN_of {n : Int} (h : isSum n = true) : monN (monOf n) = n := by
  have := isSum_b h
  simp only [monN, monOf]
  omega
theorem monOf_N {m : Mon} (h : isMon m = true) : monOf (monN m) = m := by
  obtain ⟨p, s, d, f⟩ := m
  have := isMon_b h
  simp only [monOf, monN, Mon.mk.injEq] at this ⊢
  omega
theorem bef_mon {m o : Mon} (hm : isMon m = true) (ho : isMon o = true) : befI [m.p, m.s, m.d, m.f] [o.p, o.s, o.d, o.f] = decide (monN m < monN o) := by
  have h1 := isMon_b hm
  have h2 := isMon_b ho
  have e : befI [m.p, m.s, m.d, m.f] [o.p, o.s, o.d, o.f] = true ↔ monN m < monN o := by
    simp only [befI, monN]
    split
    · split
      · split
        · split
          · simp; omega
          · rw [decide_eq_true_eq]; omega
        · rw [decide_eq_true_eq]; omega
      · rw [decide_eq_true_eq]; omega
    · rw [decide_eq_true_eq]; omega
  rw [Bool.eq_iff_iff, e, decide_eq_true_eq]
theorem c_far_of {n : Int} (h : isSum n = true) (w : World) : Calls Tryz.prog 37 #[monV (monOf n)] w (RetV w (.tuple #[.int .i64 n, .int .i64 0])) := by
  have := c_far_t (monOf_m h) w
  rw [monN_of h] at this; exact this
theorem c_mny_N {m : Mon} (h : isMon m = true) (w : World) : Calls Tryz.prog 38 #[.int .i64 (monN m)] w (RetV w (.tuple #[monV m, .int .i64 0])) := by
  have := c_mny_t (monN_s h) w
  rw [monOf_N h] at this; exact this
theorem c_far_inc {m : Mon} (h : isMon m = true) (h3 : ¬ m.f = 3) (w : World) : Calls Tryz.prog 37 #[monV ⟨m.p, m.s, m.d, m.f + 1⟩] w (RetV w (.tuple #[.int .i64 (monN m + 1), .int .i64 0])) := by
  have hb := isMon_b h
  have hm : isMon ⟨m.p, m.s, m.d, m.f + 1⟩ = true := by
    simp only [isMon, Bool.and_eq_true, inB_iff]; omega
  have := c_far_t hm w
  rw [show monN ⟨m.p, m.s, m.d, m.f + 1⟩ = monN m + 1 from by simp only [monN]; omega] at this; exact this

end Go.Proofs


namespace Go.Proofs
open Go Go.Sx Go.RowKit

set_option maxRecDepth 20000 in
theorem ref_Owes (b : Bk) (a : Option Addr) (c : Nat) (k : Nat) (l : Lin) (e : Int) (w : World) (hr : Ro w 0 w.heap.size a b.lines.length c 10 (b.lines.map linC)) (hb : isBk b = true) (hl : b.lines[k]? = some l) (he : 0 ≤ e ∧ e ≤ 20) : Calls Tryz.prog 66 #[bkV b a c, (.int .i64 (k : Int)), (.int .i64 e)] w (RetV w (.int .i64 (owesL b l e))) := by
  have hx := map_get (f := linC) hl
  have hp := prodB hb (List.mem_of_getElem? hl) he
  have hkl := (List.getElem?_eq_some_iff.1 hl).1
  have hbb := isBk_b hb
  refine calls_T0 (av := [_, _, _]) Tryz.func66 rfl rfl rfl ?_
  refine t_seq ?_
  refine t_reg ?_
  refine to_box rfl rfl (fun b3 => ?_)
  refine to_as rfl rfl ?_
  refine to_nil ?_
  refine tn_code ?_
  refine t_seq ?_
  refine t_reg ?_
  first | refine to_fa rfl rfl rfl (by simp only [Nat.reduceAdd]; rfl) rfl ?_ | refine to_fae rfl rfl rfl (by simp only [Nat.reduceAdd]; rfl) rfl ?_
  first | refine to_lds rfl rfl rfl ?_ | refine to_ldes rfl (by assumption) rfl rfl ?_
  refine to_mv rfl rfl ?_
  first | refine to_ix rfl rfl rfl (by first | omega | decide) (by first | omega | decide) rfl ?_ | refine to_ixi rfl rfl rfl (by omega) (by omega) (by omega) rfl ?_
  first | refine to_lda rfl rfl rfl ?_ | refine to_ldea rfl (by assumption) rfl rfl ?_
  refine to_alloc rfl (fun b7 => ?_)
  first | refine to_st rfl rfl rfl rfl ?_ | refine to_ste rfl rfl (by assumption) rfl rfl ?_
  refine to_nil ?_
  refine tn_code ?_
  refine t_seq ?_
  refine t_reg ?_
  first | refine to_fa rfl rfl rfl (by simp only [Nat.reduceAdd]; rfl) rfl ?_ | refine to_fae rfl rfl rfl (by simp only [Nat.reduceAdd]; rfl) rfl ?_
  first | refine to_lds rfl rfl rfl ?_ | refine to_ldes rfl (by assumption) rfl rfl ?_
  first | refine to_fa rfl rfl rfl (by simp only [Nat.reduceAdd]; rfl) rfl ?_ | refine to_fae rfl rfl rfl (by simp only [Nat.reduceAdd]; rfl) rfl ?_
  first | refine to_lds rfl rfl rfl ?_ | refine to_ldes rfl (by assumption) rfl rfl ?_
  refine to_mul rfl rfl (by first | omega | exact mul_ok (by omega) (by omega) (by omega) (by omega)) rfl ?_
  first | refine to_fa rfl rfl rfl (by simp only [Nat.reduceAdd]; rfl) rfl ?_ | refine to_fae rfl rfl rfl (by simp only [Nat.reduceAdd]; rfl) rfl ?_
  first | refine to_lds rfl rfl rfl ?_ | refine to_ldes rfl (by assumption) rfl rfl ?_
  refine to_mv rfl rfl ?_
  refine to_mul rfl rfl (by first | omega | exact mul_ok (by omega) (by omega) (by omega) (by omega)) rfl ?_
  refine to_sub rfl rfl (by omega) rfl ?_
  refine to_max rfl rfl rfl ?_
  first | refine to_fa rfl rfl rfl (by simp only [Nat.reduceAdd]; rfl) rfl ?_ | refine to_fae rfl rfl rfl (by simp only [Nat.reduceAdd]; rfl) rfl ?_
  first | refine to_lds rfl rfl rfl ?_ | refine to_ldes rfl (by assumption) rfl rfl ?_
  first | refine to_fa rfl rfl rfl (by simp only [Nat.reduceAdd]; rfl) rfl ?_ | refine to_fae rfl rfl rfl (by simp only [Nat.reduceAdd]; rfl) rfl ?_
  first | refine to_lds rfl rfl rfl ?_ | refine to_ldes rfl (by assumption) rfl rfl ?_
  refine to_mul rfl rfl (by first | omega | exact mul_ok (by omega) (by omega) (by omega) (by omega)) rfl ?_
  refine to_add rfl rfl (by omega) rfl ?_
  first | refine to_fa rfl rfl rfl (by simp only [Nat.reduceAdd]; rfl) rfl ?_ | refine to_fae rfl rfl rfl (by simp only [Nat.reduceAdd]; rfl) rfl ?_
  first | refine to_lds rfl rfl rfl ?_ | refine to_ldes rfl (by assumption) rfl rfl ?_
  first | refine to_fa rfl rfl rfl (by simp only [Nat.reduceAdd]; rfl) rfl ?_ | refine to_fae rfl rfl rfl (by simp only [Nat.reduceAdd]; rfl) rfl ?_
  first | refine to_lds rfl rfl rfl ?_ | refine to_ldes rfl (by assumption) rfl rfl ?_
  refine to_mul rfl rfl (by first | omega | exact mul_ok (by omega) (by omega) (by omega) (by omega)) rfl ?_
  refine to_add rfl rfl (by omega) rfl ?_
  refine to_as rfl rfl ?_
  refine to_nil ?_
  refine tn_code ?_
  refine t_ret1 rfl rfl (res_tmp rfl) (fun w' s => ?_)
  rfl

def RCar (xs ys : List Int) : Nat → World → Value → Prop := fun lo w1 v => ∃ a1 c1 a2 c2, v = .tuple #[.slice a1 xs.length c1, .slice a2 ys.length c2] ∧ Ro w1 lo w1.heap.size a1 xs.length c1 1 (ints xs) ∧ Ro w1 lo w1.heap.size a2 ys.length c2 1 (ints ys)

set_option maxRecDepth 20000 in
theorem ref_carried (b : Bk) (a : Option Addr) (c : Nat) (t : List Int) (ta : Option Addr) (tc : Nat) (w : World) (hr : Ro w 0 w.heap.size a b.lines.length c 10 (b.lines.map linC)) (hrt : Ro w 0 w.heap.size ta t.length tc 1 (ints t)) (hb : isBk b = true) (htr : truOk b.lines t = true) : Calls Tryz.prog 106 #[bkV b a c, .slice ta t.length tc] w (Ret w (RCar (paysL b t) (restL (restF b t) b.hands.toNat))) := by
  have hlen := (truOk_iff.1 htr).1
  have hbb := isBk_b hb
  have hpl := paysL_len hlen
  refine calls_T (av := [_, _]) Tryz.func106 rfl rfl rfl ?_
  refine t_seq ?_
  refine t_reg ?_
  refine to_box rfl rfl (fun b2 => ?_)
  refine to_as rfl rfl ?_
  refine to_as rfl rfl ?_
  refine to_nil ?_
  refine tn_code ?_
  refine t_seq ?_
  refine t_reg ?_
  first | refine to_fa rfl rfl rfl (by simp only [Nat.reduceAdd]; rfl) rfl ?_ | refine to_fae rfl rfl rfl (by simp only [Nat.reduceAdd]; rfl) rfl ?_
  first | refine to_lds rfl rfl rfl ?_ | refine to_ldes rfl (by assumption) rfl rfl ?_
  refine to_mksi rfl rfl (by omega) (by omega) (by decide) rfl (fun a14 => ?_)
  refine to_as rfl rfl ?_
  refine to_nil ?_
  refine tn_code ?_
  refine t_seq ?_
  refine t_reg ?_
  refine to_as rfl rfl ?_
  refine to_nil ?_
  refine tn_code ?_
  refine t_seq ?_
  refine t_seq ?_
  refine t_reg ?_
  refine to_as rfl rfl ?_
  refine to_nil ?_
  refine tn_code ?_
  refine t_blk ?_
  refine t_nilrow 3 1 ?_
  refine t_loop2 (ι := Nat × Option Addr × Nat) (fun ((k, a', c') : Nat × Option Addr × Nat) => k ≤ b.lines.length) (fun ((k, a', c') : Nat × Option Addr × Nat) => [(1, .slice ta t.length tc), (2, (.pointer (some ⟨b2, 0, none⟩))), (6, .slice a14 b.hands.toNat b.hands.toNat), (7, .slice a' k c'), (8, .int .i64 (k : Int))]) (fun ((k, a', c') : Nat × Option Addr × Nat) => [.row a' k c' 3 1 (ints (payK b t k).1), .row a14 b.hands.toNat b.hands.toNat 3 1 (ints (restL (payK b t k).2 b.hands.toNat)), .own b2 (isC (bkC b a c) 24), .snap 0 w.heap.size w]) (fun ((k, a', c') : Nat × Option Addr × Nat) => b.lines.length - k) ((0, none, 0)) [.row none 0 0 3 1 [], .row a14 b.hands.toNat b.hands.toNat 3 1 (List.replicate b.hands.toNat [Value.int .i64 0]), .own b2 (isC (bkC b a c) 24), .snap 0 w.heap.size w] (by rw [restL_zero]; rfl) (Nat.zero_le _) (⟨rfl, rfl, rfl, rfl, rfl, trivial⟩) ?_
  rintro ⟨k, a', c'⟩ hk
  try dsimp only at hk
  show T _ _ _ ⟨_, [(1, .slice ta t.length tc), (2, (.pointer (some ⟨b2, 0, none⟩))), (6, .slice a14 b.hands.toNat b.hands.toNat), (7, .slice a' k c'), (8, .int .i64 (k : Int))], _⟩ [.row a' k c' 3 1 (ints (payK b t k).1), .row a14 b.hands.toNat b.hands.toNat 3 1 (ints (restL (payK b t k).2 b.hands.toNat)), .own b2 (isC (bkC b a c) 24), .snap 0 w.heap.size w]
  refine t_seq ?_
  refine t_seq ?_
  refine t_reg ?_
  refine to_mv rfl rfl ?_
  refine to_mv rfl rfl ?_
  refine to_lenS rfl rfl ?_
  refine to_lss rfl rfl rfl ?_
  refine to_nil ?_
  refine tn_code ?_
  refine t_if rfl (fun h1 => ?_) (fun h1 => ?_)
  · try simp only [decide_eq_true_eq, decide_eq_false_iff_not, Bool.not_eq_true', Bool.not_eq_false', Int.not_lt, Int.not_le, ne_eq, Decidable.not_not] at h1
    try have h1b := inB_iff.1 h1
    obtain ⟨l, hl⟩ := some_get (xs := b.lines) (k := k) (by omega)
    obtain ⟨e, he⟩ := some_get (xs := t) (k := k) (by omega)
    have hx := map_get (f := linC) hl
    have hx2 := map_get (f := intC) he
    have hin := (truOk_e hb htr hl he).2
    have hlb := isLin_b (isBk_l hb (List.mem_of_getElem? hl))
    have hq0 : 0 ≤ l.hand ∧ l.hand < (b.hands.toNat : Nat) := by omega
    have hx3 := map_get (f := intC) (restL_at (g := (payK b t k).2) hq0.1 hq0.2)
    have hob := owesL_b hb (List.mem_of_getElem? hl) hin
    have hkb := payK_b (t := t) hb k l.hand
    have hmd := emod_bd (owesL b l e + (payK b t k).2 l.hand) (b := b.unit) (by omega)
    refine t_skip ?_
    refine tn_code ?_
    refine t_seq ?_
    refine t_blk ?_
    refine t_seq ?_
    refine t_reg ?_
    first | refine to_fa rfl rfl rfl (by simp only [Nat.reduceAdd]; rfl) rfl ?_ | refine to_fae rfl rfl rfl (by simp only [Nat.reduceAdd]; rfl) rfl ?_
    first | refine to_lds rfl rfl rfl ?_ | refine to_ldes rfl (by assumption) rfl rfl ?_
    refine to_mv rfl rfl ?_
    first | refine to_ix rfl rfl rfl (by first | omega | decide) (by first | omega | decide) rfl ?_ | refine to_ixi rfl rfl rfl (by omega) (by omega) (by omega) rfl ?_
    first | refine to_fa rfl rfl rfl (by simp only [Nat.reduceAdd]; rfl) rfl ?_ | refine to_fae rfl rfl rfl (by simp only [Nat.reduceAdd]; rfl) rfl ?_
    first | refine to_lds rfl rfl rfl ?_ | refine to_ldes rfl (by assumption) rfl rfl ?_
    refine to_as rfl rfl ?_
    refine to_nil ?_
    refine tn_code ?_
    refine t_seq ?_
    refine t_regD rfl (by kernel_rfl) (by kernel_rfl) ?_
    first | refine to_lda rfl rfl rfl ?_ | refine to_ldea rfl (by assumption) rfl rfl ?_
    refine to_mv rfl rfl ?_
    refine to_mv rfl rfl ?_
    refine to_mv rfl rfl ?_
    first | refine to_ix rfl rfl rfl (by first | omega | decide) (by first | omega | decide) rfl ?_ | refine to_ixi rfl rfl rfl (by omega) (by omega) (by omega) rfl ?_
    first | refine to_lds rfl rfl rfl ?_ | refine to_ldes rfl (by assumption) rfl rfl ?_
    refine to_call0 rfl rfl (fun w s => ref_Owes b a c k l e w (rdw s) hb hl hin) rfl ?_
    refine to_mv rfl rfl ?_
    refine to_mv rfl rfl ?_
    first | refine to_ix rfl rfl rfl (by first | omega | decide) (by first | omega | decide) rfl ?_ | refine to_ixi rfl rfl rfl (by omega) (by omega) (by omega) rfl ?_
    first | refine to_lds rfl rfl rfl ?_ | refine to_ldes rfl (by assumption) rfl rfl ?_
    refine to_add rfl rfl (by omega) rfl ?_
    refine to_as rfl rfl ?_
    refine to_nil ?_
    refine tn_code ?_
    refine t_seq ?_
    refine t_reg ?_
    refine to_mv rfl rfl ?_
    first | refine to_fa rfl rfl rfl (by simp only [Nat.reduceAdd]; rfl) rfl ?_ | refine to_fae rfl rfl rfl (by simp only [Nat.reduceAdd]; rfl) rfl ?_
    first | refine to_lds rfl rfl rfl ?_ | refine to_ldes rfl (by assumption) rfl rfl ?_
    refine to_rem rfl rfl (by omega) (by omega) rfl ?_
    refine to_as rfl rfl ?_
    refine to_nil ?_
    refine tn_code ?_
    refine t_seq ?_
    refine t_reg ?_
    refine to_mv rfl rfl ?_
    refine to_mv rfl rfl ?_
    refine to_mv rfl rfl ?_
    first | refine to_ix rfl rfl rfl (by first | omega | decide) (by first | omega | decide) rfl ?_ | refine to_ixi rfl rfl rfl (by omega) (by omega) (by omega) rfl ?_
    first | refine to_st rfl rfl rfl rfl ?_ | refine to_ste rfl rfl (by assumption) rfl rfl ?_
    refine to_nil ?_
    refine tn_code ?_
    refine t_reg ?_
    refine to_mv rfl rfl ?_
    refine to_mv rfl rfl ?_
    refine to_mv rfl rfl ?_
    refine to_sub rfl rfl (by omega) rfl ?_
    refine to_bsl rfl rfl rfl rfl (fun a51 => ?_)
    refine to_app rfl rfl rfl (by simp [scals, scal]) (by decide) (by omega) (by decide) rfl (fun a52 c52 => ?_)
    refine to_as rfl rfl ?_
    refine to_nil ?_
    refine tn_blk ?_
    refine tn_code ?_
    refine t_reg ?_
    refine to_mv rfl rfl ?_
    refine to_add rfl rfl (by omega) rfl ?_
    refine to_as rfl rfl ?_
    refine to_nil ?_
    exact tn_loop2 ((k + 1, a52, c52)) [.row a52 (k + 1) c52 3 1 (ints (payK b t k).1 ++ [[.int .i64 ((owesL b l e + (payK b t k).2 l.hand) - (owesL b l e + (payK b t k).2 l.hand) % b.unit)]]), .row a14 b.hands.toNat b.hands.toNat 3 1 ((ints (restL (payK b t k).2 b.hands.toNat)).set l.hand.toNat [Value.int .i64 ((owesL b l e + (payK b t k).2 l.hand) % b.unit)]), .own b2 (isC (bkC b a c) 24), .snap 0 w.heap.size w] (by dsimp only; rw [payK_succ hl he, ints_snoc, restL_put hq0.1 hq0.2]) (by dsimp only; omega) (by dsimp only; omega) (⟨rfl, rfl, rfl, rfl, rfl, trivial⟩)
  · try simp only [decide_eq_true_eq, decide_eq_false_iff_not, Bool.not_eq_true', Bool.not_eq_false', Int.not_lt, Int.not_le, ne_eq, Decidable.not_not] at h1
    try have h1b := inB_iff.1 h1
    have hk2 : k = b.lines.length := by omega
    subst hk2
    refine t_exit ?_
    refine tx_code ?_
    refine tx_inv ?_
    refine tx_blk ?_
    refine tn_code ?_
    refine t_seq ?_
    refine t_reg ?_
    refine to_mv rfl rfl ?_
    refine to_mv rfl rfl ?_
    refine to_as rfl rfl ?_
    refine to_as rfl rfl ?_
    refine to_nil ?_
    refine tn_code ?_
    refine t_ret2 rfl rfl (res_tmp rfl) (res_tmp rfl) (fun w' s => ?_)
    rw [RCar, paysL_len hlen, restL_len]
    exact ⟨_, _, _, _, rfl, ro_row s, ro_row s⟩

set_option maxRecDepth 20000 in
theorem ref_Pays (b : Bk) (a : Option Addr) (c : Nat) (t : List Int) (ta : Option Addr) (tc : Nat) (w : World) (hr : Ro w 0 w.heap.size a b.lines.length c 10 (b.lines.map linC)) (hrt : Ro w 0 w.heap.size ta t.length tc 1 (ints t)) (hb : isBk b = true) (htr : truOk b.lines t = true) : Calls Tryz.prog 91 #[bkV b a c, .slice ta t.length tc] w (Ret w (RSl (paysL b t))) := by
  refine calls_T (av := [_, _]) Tryz.func91 rfl rfl rfl ?_
  refine t_seq ?_
  refine t_reg ?_
  refine to_box rfl rfl (fun b2 => ?_)
  refine to_as rfl rfl ?_
  refine to_nil ?_
  refine tn_code ?_
  refine t_seq ?_
  refine t_reg ?_
  first | refine to_lda rfl rfl rfl ?_ | refine to_ldea rfl (by assumption) rfl rfl ?_
  refine to_mv rfl rfl ?_
  refine to_callR rfl rfl (fun w s => ref_carried b a c t ta tc w (rdw s) (rdw s) hb htr) rfl (fun v10 lo10 w10 hlo10 hR10 => ?_)
  obtain ⟨pa10, pc10, qa10, qc10, rfl, hro10, hrq10⟩ := hR10
  refine to_mv rfl rfl ?_
  refine to_ex rfl rfl rfl ?_
  refine to_ex rfl rfl rfl ?_
  refine to_as rfl rfl ?_
  refine to_as rfl rfl ?_
  refine to_nil ?_
  refine tn_code ?_
  refine t_seq ?_
  refine t_reg ?_
  refine to_mv rfl rfl ?_
  refine to_as rfl rfl ?_
  refine to_nil ?_
  refine tn_code ?_
  refine t_ret1 rfl rfl (res_tmp rfl) (fun w' s => ?_)
  exact ⟨_, _, rfl, ro_snap s hlo10⟩

end Go.Proofs


namespace Go.Proofs
open Go Go.Sx Go.RowKit

theorem pays_t {b : Bk} {t : List Int} (hb : isBk b = true) (ht : truOk b.lines t = true) : payPays b t = (paysL b t, 0) := by simp [payPays, hb, ht]
theorem pays_f {b : Bk} {t : List Int} (h : (isBk b && truOk b.lines t) = false) : payPays b t = ([], 2) := by simp only [payPays, h, Bool.false_eq_true, if_false]
theorem rest_t {b : Bk} {t : List Int} {h : Int} (hb : isBk b = true) (ht : truOk b.lines t = true) (hh : inB h 0 (b.hands - 1) = true) : payRest b t h = (restF b t h, 0) := by simp [payRest, hb, ht, hh]
theorem rest_f {b : Bk} {t : List Int} {h : Int} (hf : (isBk b && truOk b.lines t) = false) : payRest b t h = (0, 2) := by simp only [payRest, hf, Bool.false_and, Bool.false_eq_true, if_false]
theorem rest_h {b : Bk} {t : List Int} {h : Int} (hh : inB h 0 (b.hands - 1) = false) : payRest b t h = (0, 2) := by simp [payRest, hh]
section
variable {b : Bk} {a : Option Addr} {c : Nat} {t : List Int} {ta : Option Addr} {tc : Nat} {h : Int} {w : World}
theorem c_pays_t (hr : Ro w 0 w.heap.size a b.lines.length c 10 (b.lines.map linC)) (hrt : Ro w 0 w.heap.size ta t.length tc 1 (ints t)) (hb : isBk b = true) (ht : truOk b.lines t = true) : Calls Tryz.prog 40 #[bkV b a c, .slice ta t.length tc] w (Ret w (RSlE (paysL b t) 0)) := by
  have := pay_Pays b a c t ta tc w hr hrt
  rw [pays_t hb ht] at this; exact this
theorem c_pays_f (hr : Ro w 0 w.heap.size a b.lines.length c 10 (b.lines.map linC)) (hrt : Ro w 0 w.heap.size ta t.length tc 1 (ints t)) (hf : (isBk b && truOk b.lines t) = false) : Calls Tryz.prog 40 #[bkV b a c, .slice ta t.length tc] w (Ret w (RSlE [] 2)) := by
  have := pay_Pays b a c t ta tc w hr hrt
  rw [pays_f hf] at this; exact this
theorem c_rest_t (hr : Ro w 0 w.heap.size a b.lines.length c 10 (b.lines.map linC)) (hrt : Ro w 0 w.heap.size ta t.length tc 1 (ints t)) (hb : isBk b = true) (ht : truOk b.lines t = true) (hh : inB h 0 (b.hands - 1) = true) : Calls Tryz.prog 41 #[bkV b a c, .slice ta t.length tc, .int .i64 h] w (RetV w (.tuple #[.int .i64 (restF b t h), .int .i64 0])) := by
  have := pay_Rest b a c t ta tc h w hr hrt
  rw [rest_t hb ht hh] at this; exact this
theorem c_rest_f (hr : Ro w 0 w.heap.size a b.lines.length c 10 (b.lines.map linC)) (hrt : Ro w 0 w.heap.size ta t.length tc 1 (ints t)) (hf : payRest b t h = (0, 2)) : Calls Tryz.prog 41 #[bkV b a c, .slice ta t.length tc, .int .i64 h] w (RetV w (.tuple #[.int .i64 0, .int .i64 2])) := by
  have := pay_Rest b a c t ta tc h w hr hrt
  rw [hf] at this; exact this
end

end Go.Proofs


namespace Go.Proofs
open Go Go.Sx Go.RowKit

/-! # Plain laws of truths -/

def SpInv (of : List Int → Int) (is : List Int → Bool) (seen : List (List Int)) : Option (Int × Int) → Prop
  | none => ∀ t ∈ seen, is t = false
  | some s => (∃ t ∈ seen, is t = true ∧ of t = s.1) ∧ (∃ t ∈ seen, is t = true ∧ of t = s.2) ∧ ∀ t ∈ seen, is t = true → s.1 ≤ of t ∧ of t ≤ s.2
theorem sp_step {of : List Int → Int} {is : List Int → Bool} {seen : List (List Int)} {st : Option (Int × Int)} (h : SpInv of is seen st) (t : List Int) : SpInv of is (seen ++ [t]) (stepE of is st t) := by
  have hm : ∀ u, u ∈ seen ++ [t] ↔ u ∈ seen ∨ u = t := fun u => by simp
  by_cases ht : is t = true
  · cases st with
    | none =>
      simp only [stepE, ht, if_true, SpInv, Int.min_self, Int.max_self]
      refine ⟨⟨t, by simp, ht, rfl⟩, ⟨t, by simp, ht, rfl⟩, fun u hu hi => ?_⟩
      rcases (hm u).1 hu with h1 | rfl
      · have := h u h1; rw [hi] at this; cases this
      · exact ⟨Int.le_refl _, Int.le_refl _⟩
    | some s =>
      simp only [stepE, ht, if_true, SpInv]
      obtain ⟨⟨u1, h1, h2, h3⟩, ⟨u2, h4, h5, h6⟩, h7⟩ := h
      have e1 := Int.min_def s.1 (of t)
      have e2 := Int.max_def s.2 (of t)
      refine ⟨?_, ?_, fun u hu hi => ?_⟩
      · by_cases hle : s.1 ≤ of t
        · exact ⟨u1, (hm _).2 (.inl h1), h2, by rw [e1, if_pos hle]; exact h3⟩
        · exact ⟨t, by simp, ht, by rw [e1, if_neg hle]⟩
      · by_cases hle : s.2 ≤ of t
        · exact ⟨t, by simp, ht, by rw [e2, if_pos hle]⟩
        · exact ⟨u2, (hm _).2 (.inl h4), h5, by rw [e2, if_neg hle]; exact h6⟩
      · rcases (hm u).1 hu with h1 | rfl
        · have := h7 u h1 hi; omega
        · omega
  · have hf : is t = false := by simpa using ht
    have : stepE of is st t = st := by simp [stepE, hf]
    rw [this]
    cases st with
    | none =>
      intro u hu
      rcases (hm u).1 hu with h1 | rfl
      · exact h u h1
      · exact hf
    | some s =>
      obtain ⟨⟨u1, h1, h2, h3⟩, ⟨u2, h4, h5, h6⟩, h7⟩ := h
      refine ⟨⟨u1, (hm _).2 (.inl h1), h2, h3⟩, ⟨u2, (hm _).2 (.inl h4), h5, h6⟩, fun u hu hi => ?_⟩
      rcases (hm u).1 hu with h1 | rfl
      · exact h7 u h1 hi
      · rw [hf] at hi; cases hi
theorem sp_fold {of : List Int → Int} {is : List Int → Bool} : ∀ (L seen : List (List Int)) (st : Option (Int × Int)), SpInv of is seen st → SpInv of is (seen ++ L) (L.foldl (stepE of is) st)
  | [], seen, st, h => by simpa using h
  | t :: L, seen, st, h => by
    have := sp_fold L (seen ++ [t]) (stepE of is st t) (sp_step h t)
    simpa using this
theorem sp_inv (of : List Int → Int) (is : List Int → Bool) (L : List (List Int)) : SpInv of is L (spF of is L) := by
  have := sp_fold (of := of) (is := is) L [] none (fun t h => by cases h)
  simpa [spF] using this
theorem sp_none {of : List Int → Int} {is : List Int → Bool} {L : List (List Int)} (h : ∀ t ∈ L, is t = false) : spF of is L = none := by
  have := sp_inv of is L
  cases hq : spF of is L with
  | none => rfl
  | some s =>
    rw [hq] at this
    obtain ⟨⟨t, h1, h2, _⟩, _⟩ := this
    rw [h t h1] at h2; cases h2
theorem sp_some {of : List Int → Int} {is : List Int → Bool} {L : List (List Int)} {t : List Int} (h : t ∈ L) (hi : is t = true) : ∃ s, spF of is L = some s ∧ SpInv of is L (some s) := by
  have := sp_inv of is L
  cases hq : spF of is L with
  | none => rw [hq] at this; have := this t h; rw [hi] at this; cases this
  | some s => rw [hq] at this; exact ⟨s, rfl, this⟩
/-- Where two truths are the ends. -/
theorem sp_ends {of : List Int → Int} {L : List (List Int)} {u v : List Int} (hu : u ∈ L) (hv : v ∈ L) (h : ∀ t ∈ L, of u ≤ of t ∧ of t ≤ of v) : spF of (fun _ => true) L = some (of u, of v) := by
  obtain ⟨s, h1, ⟨t1, h2, _, h3⟩, ⟨t2, h4, _, h5⟩, h6⟩ := sp_some (of := of) (is := fun _ => true) hu rfl
  have a1 := h t1 h2
  have a2 := h t2 h4
  have a3 := h6 u hu rfl
  have a4 := h6 v hv rfl
  rw [h1, show s = (of u, of v) from Prod.ext (by show s.1 = of u; omega) (by show s.2 = of v; omega)]
theorem end_mem {b : Bk} (hb : isBk b = true) (m : Bool) : endL b m ∈ truL b := mem_truL.2 (endL_ok hb m)
theorem sp_all {b : Bk} (hb : isBk b = true) (of : List Int → Int) : ∃ s, spF of (fun _ => true) (truL b) = some s ∧ ∀ t, truOk b.lines t = true → s.1 ≤ of t ∧ of t ≤ s.2 := by
  obtain ⟨s, h1, _, _, h2⟩ := sp_some (of := of) (is := fun _ => true) (end_mem hb true) rfl
  exact ⟨s, h1, fun t ht => h2 t (mem_truL.2 ht) rfl⟩

/-! ### What is owed and what is paid -/

def sumK (b : Bk) (t : List Int) (h : Int) : Nat → Int
  | 0 => 0
  | k + 1 => match b.lines[k]?, t[k]? with
    | some l, some e => if l.hand = h then sumK b t h k + owesL b l e else sumK b t h k
    | _, _ => sumK b t h k
theorem sumK_succ {b : Bk} {t : List Int} {h : Int} {k : Nat} {l : Lin} {e : Int} (hl : b.lines[k]? = some l) (he : t[k]? = some e) : sumK b t h (k + 1) = if l.hand = h then sumK b t h k + owesL b l e else sumK b t h k := by
  simp only [sumK, hl, he]
theorem payK_fix {b : Bk} {t : List Int} {j : Nat} (ht : truOk b.lines t = true) : ∀ (d k : Nat) (x : Int), k + d ≤ b.lines.length → (payK b t k).1[j]? = some x → (payK b t (k + d)).1[j]? = some x
  | 0, _, _, _, h => h
  | d + 1, k, x, hk, h => by
    have hlen := (truOk_iff.1 ht).1
    have ih := payK_fix ht d k x (by omega) h
    obtain ⟨l, hl⟩ := some_get (xs := b.lines) (k := k + d) (by omega)
    obtain ⟨e, he⟩ := some_get (xs := t) (k := k + d) (by omega)
    rw [show k + (d + 1) = k + d + 1 from rfl, payK_succ hl he]
    rw [List.getElem?_append_left (List.getElem?_eq_some_iff.1 ih).1]
    exact ih
/-- What is paid in a line. -/
theorem paysL_at {b : Bk} {t : List Int} (ht : truOk b.lines t = true) {k : Nat} {l : Lin} {e : Int} (hl : b.lines[k]? = some l) (he : t[k]? = some e) :
    (paysL b t)[k]? = some ((owesL b l e + (payK b t k).2 l.hand) - (owesL b l e + (payK b t k).2 l.hand) % b.unit) := by
  have hlen := (truOk_iff.1 ht).1
  have hk := (List.getElem?_eq_some_iff.1 hl).1
  have h1 : (payK b t (k + 1)).1[k]? = some ((owesL b l e + (payK b t k).2 l.hand) - (owesL b l e + (payK b t k).2 l.hand) % b.unit) := by
    rw [payK_succ hl he]
    have h2 := payK_len hlen k (by omega)
    rw [List.getElem?_append_right (by omega), h2]
    simp
  have := payK_fix (j := k) ht (b.lines.length - (k + 1)) (k + 1) _ (by omega) h1
  rwa [show k + 1 + (b.lines.length - (k + 1)) = b.lines.length from by omega] at this
theorem emod_sub_self (n u : Int) : (n - n % u) % u = 0 := by
  rw [Int.sub_emod, Int.emod_emod_of_dvd n (Int.dvd_refl u), Int.sub_self, Int.zero_emod]
theorem paysL_mod {b : Bk} {t : List Int} (ht : truOk b.lines t = true) {k : Nat} {x : Int} (h : (paysL b t)[k]? = some x) : x % b.unit = 0 := by
  have hlen := (truOk_iff.1 ht).1
  have hpl := paysL_len hlen
  have hk := (List.getElem?_eq_some_iff.1 h).1
  obtain ⟨l, hl⟩ := some_get (xs := b.lines) (k := k) (by omega)
  obtain ⟨e, he⟩ := some_get (xs := t) (k := k) (by omega)
  rw [paysL_at ht hl he] at h
  cases h
  exact emod_sub_self _ _
/-- All that is owed to a hand is what it is paid and its rest. -/
theorem sum_law {b : Bk} {t : List Int} (hb : isBk b = true) (ht : truOk b.lines t = true) (h : Int) : ∀ k, k ≤ b.lines.length → sumK b t h k = toK b t h k + (payK b t k).2 h ∧ toK b t h k % b.unit = 0
  | 0, _ => by simp [sumK, toK, payK]
  | k + 1, hk => by
    have hlen := (truOk_iff.1 ht).1
    obtain ⟨ih, ih2⟩ := sum_law hb ht h k (by omega)
    obtain ⟨l, hl⟩ := some_get (xs := b.lines) (k := k) (by omega)
    obtain ⟨e, he⟩ := some_get (xs := t) (k := k) (by omega)
    have hp := paysL_at ht hl he
    rw [sumK_succ hl he, toK_succ hl hp, payK_succ hl he]
    by_cases hh : l.hand = h
    · subst hh
      simp only [if_true, upd]
      refine ⟨by omega, ?_⟩
      rw [Int.add_emod, ih2, emod_sub_self]; simp
    · have hne : ¬ (h = l.hand) := fun e => hh e.symm
      simp only [if_neg hh, upd, if_neg hne]
      exact ⟨ih, ih2⟩
theorem sumK_b {b : Bk} {t : List Int} {h : Int} (hb : isBk b = true) (ht : truOk b.lines t = true) : ∀ k, 0 ≤ sumK b t h k ∧ sumK b t h k ≤ k * 32000
  | 0 => by simp [sumK]
  | k + 1 => by
    have ih := sumK_b (h := h) hb ht k
    simp only [sumK]
    split
    · rename_i l e h1 h2
      have hin := (truOk_e hb ht h1 h2).2
      have := owesL_b hb (List.mem_of_getElem? h1) hin
      split <;> omega
    · omega
theorem sum_rest {b : Bk} {t : List Int} (hb : isBk b = true) (ht : truOk b.lines t = true) (h : Int) : toL b t h = sumK b t h b.lines.length - sumK b t h b.lines.length % b.unit := by
  obtain ⟨h1, h2⟩ := sum_law hb ht h b.lines.length (Nat.le_refl _)
  have h3 := payK_b (t := t) hb b.lines.length h
  have h4 : sumK b t h b.lines.length % b.unit = (payK b t b.lines.length).2 h := by
    rw [h1, Int.add_emod, h2, Int.zero_add, Int.emod_emod_of_dvd _ (Int.dvd_refl _), Int.emod_eq_of_lt h3.1 h3.2]
  rw [h4, toL]; omega
theorem toL_mod {b : Bk} {t : List Int} (hb : isBk b = true) (ht : truOk b.lines t = true) (h : Int) : toL b t h % b.unit = 0 := (sum_law hb ht h _ (Nat.le_refl _)).2

/-- More errors, less owed. -/
theorem owes_mono {b : Bk} {l : Lin} {e e' : Int} (hb : isBk b = true) (h : e ≤ e') : owesL b l e' ≤ owesL b l e := by
  have hbb := isBk_b hb
  have := Int.mul_le_mul_of_nonneg_left h hbb.2.2.2.2.1.1
  simp only [owesL]; omega
theorem sumK_mono {b : Bk} {t u : List Int} (hb : isBk b = true) (h : Int) (ht : t.length = b.lines.length) (hu : u.length = b.lines.length) (hle : ∀ (j : Nat) e f, t[j]? = some e → u[j]? = some f → e ≤ f) : ∀ k, k ≤ b.lines.length → sumK b u h k ≤ sumK b t h k
  | 0, _ => by simp [sumK]
  | k + 1, hk => by
    have ih := sumK_mono hb h ht hu hle k (by omega)
    obtain ⟨l, hl⟩ := some_get (xs := b.lines) (k := k) (by omega)
    obtain ⟨e, he⟩ := some_get (xs := t) (k := k) (by omega)
    obtain ⟨f, hf⟩ := some_get (xs := u) (k := k) (by omega)
    rw [sumK_succ hl he, sumK_succ hl hf]
    have := owes_mono (l := l) hb (hle k e f he hf)
    split <;> omega
theorem floor_mono {a b u : Int} (hu : 0 < u) (h : a ≤ b) : a - a % u ≤ b - b % u := by
  have h1 := Int.ediv_le_ediv hu h
  have h2 := Int.mul_ediv_add_emod a u
  have h3 := Int.mul_ediv_add_emod b u
  have h4 := Int.mul_le_mul_of_nonneg_left h1 (Int.le_of_lt hu)
  omega
theorem toL_mono {b : Bk} {t u : List Int} (hb : isBk b = true) (ht : truOk b.lines t = true) (hu : truOk b.lines u = true) (h : Int) (hle : ∀ (j : Nat) e f, t[j]? = some e → u[j]? = some f → e ≤ f) : toL b u h ≤ toL b t h := by
  have hbb := isBk_b hb
  rw [sum_rest hb ht, sum_rest hb hu]
  exact floor_mono (by omega) (sumK_mono hb h (truOk_iff.1 ht).1 (truOk_iff.1 hu).1 hle _ (Nat.le_refl _))
theorem end_le {b : Bk} {t : List Int} (ht : truOk b.lines t = true) : (∀ (j : Nat) e f, t[j]? = some e → (endL b true)[j]? = some f → e ≤ f) ∧ (∀ (j : Nat) e f, (endL b false)[j]? = some e → t[j]? = some f → e ≤ f) := by
  constructor
  · intro j e f h1 h2
    have hlt := (List.getElem?_eq_some_iff.1 h2).1
    rw [endL_len] at hlt
    obtain ⟨l, hl⟩ := some_get (xs := b.lines) (k := j) hlt
    rw [endL_get hl] at h2
    have := inB_iff.1 ((truOk_iff.1 ht).2 j l e hl h1)
    simp at h2; omega
  · intro j e f h1 h2
    have hlt := (List.getElem?_eq_some_iff.1 h1).1
    rw [endL_len] at hlt
    obtain ⟨l, hl⟩ := some_get (xs := b.lines) (k := j) hlt
    rw [endL_get hl] at h1
    have := inB_iff.1 ((truOk_iff.1 ht).2 j l f hl h2)
    simp at h1; omega
/-- Both ends of what a hand is paid. -/
theorem total_ends {b : Bk} (hb : isBk b = true) (h : Int) : spF (fun t => toL b t h) (fun _ => true) (truL b) = some (toL b (endL b true) h, toL b (endL b false) h) :=
  sp_ends (of := fun t => toL b t h) (end_mem hb true) (end_mem hb false) (fun t ht => by
    have ht' := mem_truL.1 ht
    exact ⟨toL_mono hb ht' (endL_ok hb true) h (end_le ht').1, toL_mono hb (endL_ok hb false) ht' h (end_le ht').2⟩)
theorem payTotal_t {b : Bk} {h : Int} (hb : isBk b = true) (hh : inB h 0 (b.hands - 1) = true) : payTotal b h = ((toL b (endL b true) h, toL b (endL b false) h), 0) := by
  simp only [payTotal, hb, hh, Bool.and_self, if_true, total_ends hb h, endsV]
theorem payTotal_f {b : Bk} {h : Int} (hf : (isBk b && inB h 0 (b.hands - 1)) = false) : payTotal b h = ((0, 0), 2) := by simp only [payTotal, hf, Bool.false_eq_true, if_false]
theorem owed_ends {b : Bk} (hb : isBk b = true) {k : Nat} {l : Lin} (hl : b.lines[k]? = some l) : spF (fun t => owesAt b t k) (fun _ => true) (truL b) = some (owesL b l l.hi, owesL b l l.lo) := by
  have e1 : owesAt b (endL b true) k = owesL b l l.hi := by simp [owesAt, hl, endL_get hl]
  have e2 : owesAt b (endL b false) k = owesL b l l.lo := by simp [owesAt, hl, endL_get hl]
  rw [← e1, ← e2]
  refine sp_ends (of := fun t => owesAt b t k) (end_mem hb true) (end_mem hb false) (fun t ht => ?_)
  have ht' := mem_truL.1 ht
  have hlt := (List.getElem?_eq_some_iff.1 hl).1
  have hlen := (truOk_iff.1 ht').1
  obtain ⟨e, he⟩ := some_get (xs := t) (k := k) (by omega)
  have h1 := inB_iff.1 ((truOk_iff.1 ht').2 k l e hl he)
  simp only [e1, e2]
  simp only [owesAt, hl, he]
  exact ⟨owes_mono hb h1.2, owes_mono hb h1.1⟩
theorem payOwed_t {b : Bk} {k : Nat} {l : Lin} (hb : isBk b = true) (hl : b.lines[k]? = some l) : payOwed b (k : Int) = ((owesL b l l.hi, owesL b l l.lo), 0) := by
  have hlt := (List.getElem?_eq_some_iff.1 hl).1
  have hin : inB (k : Int) 0 (b.lines.length - 1) = true := inB_iff.2 (by omega)
  simp only [payOwed, hb, hin, Bool.and_self, if_true, Int.toNat_natCast, owed_ends hb hl, endsV]
theorem payOwed_f {b : Bk} {k : Int} (hf : (isBk b && inB k 0 (b.lines.length - 1)) = false) : payOwed b k = ((0, 0), 2) := by simp only [payOwed, hf, Bool.false_eq_true, if_false]
theorem payAt_b {b : Bk} {t : List Int} {k : Nat} {x : Int} (hb : isBk b = true) (ht : truOk b.lines t = true) (hx : (paysL b t)[k]? = some x) : (payAt b k).1 ≤ x ∧ x ≤ (payAt b k).2 := by
  obtain ⟨s, h1, h2⟩ := sp_all hb (fun t => (paysL b t).getD k 0)
  have h3 := h2 t ht
  simp only [payAt, h1, endsV]
  simp only [List.getD, hx, Option.getD_some] at h3
  exact h3

end Go.Proofs


namespace Go.Proofs
open Go Go.Sx Go.RowKit

section
variable {b : Bk} {a : Option Addr} {c : Nat} {h : Int} {w : World}
theorem c_bounds_t (hr : Ro w 0 w.heap.size a b.lines.length c 10 (b.lines.map linC)) (hb : isBk b = true) : Calls Tryz.prog 42 #[bkV b a c] w (Ret w (RSpE (bdL b b.lines.length) 0)) := by
  have := pay_Bounds b a c w hr
  rw [payBounds_t hb] at this; exact this
theorem c_bounds_f (hr : Ro w 0 w.heap.size a b.lines.length c 10 (b.lines.map linC)) (hb : isBk b = false) : Calls Tryz.prog 42 #[bkV b a c] w (Ret w (RSpE [] 2)) := by
  have := pay_Bounds b a c w hr
  rw [payBounds_f hb] at this; exact this
theorem c_total_t (hr : Ro w 0 w.heap.size a b.lines.length c 10 (b.lines.map linC)) (hb : isBk b = true) (hh : inB h 0 (b.hands - 1) = true) : Calls Tryz.prog 25 #[bkV b a c, .int .i64 h] w (RetV w (.tuple #[spanV (toL b (endL b true) h, toL b (endL b false) h), .int .i64 0])) := by
  have := pay_Total b a c h w hr
  rw [payTotal_t hb hh] at this; exact this
theorem c_total_f (hr : Ro w 0 w.heap.size a b.lines.length c 10 (b.lines.map linC)) (hf : (isBk b && inB h 0 (b.hands - 1)) = false) : Calls Tryz.prog 25 #[bkV b a c, .int .i64 h] w (RetV w (.tuple #[spanV (0, 0), .int .i64 2])) := by
  have := pay_Total b a c h w hr
  rw [payTotal_f hf] at this; exact this
theorem c_owed_t {k : Nat} {l : Lin} (hr : Ro w 0 w.heap.size a b.lines.length c 10 (b.lines.map linC)) (hb : isBk b = true) (hl : b.lines[k]? = some l) : Calls Tryz.prog 29 #[bkV b a c, .int .i64 (k : Int)] w (RetV w (.tuple #[spanV (owesL b l l.hi, owesL b l l.lo), .int .i64 0])) := by
  have := pay_Owed b a c (k : Int) w hr
  rw [payOwed_t hb hl] at this; exact this
end

end Go.Proofs


namespace Go.Proofs
open Go Go.Sx Go.RowKit

set_option maxRecDepth 20000 in
theorem ref_End (b : Bk) (a : Option Addr) (c : Nat) (m : Bool) (w : World) (hr : Ro w 0 w.heap.size a b.lines.length c 10 (b.lines.map linC)) (hb : isBk b = true) : Calls Tryz.prog 60 #[bkV b a c, .bool m] w (Ret w (RSl (endL b m))) := by
  have hbb := isBk_b hb
  refine calls_T (av := [_, _]) Tryz.func60 rfl rfl rfl ?_
  refine t_seq ?_
  refine t_reg ?_
  refine to_box rfl rfl (fun b2 => ?_)
  refine to_as rfl rfl ?_
  refine to_nil ?_
  refine tn_code ?_
  refine t_seq ?_
  refine t_reg ?_
  refine to_as rfl rfl ?_
  refine to_nil ?_
  refine tn_code ?_
  refine t_seq ?_
  refine t_seq ?_
  refine t_reg ?_
  refine to_as rfl rfl ?_
  refine to_nil ?_
  refine tn_code ?_
  refine t_blk ?_
  refine t_nilrow 3 1 ?_
  refine t_loop2 (ι := Nat × Option Addr × Nat) (fun ((k, a', c') : Nat × Option Addr × Nat) => k ≤ b.lines.length) (fun ((k, a', c') : Nat × Option Addr × Nat) => [(1, .bool m), (2, (.pointer (some ⟨b2, 0, none⟩))), (5, .slice a' k c'), (6, (.int .i64 (k : Int)))]) (fun ((k, a', c') : Nat × Option Addr × Nat) => [.row a' k c' 3 1 (ints ((endL b m).take k)), .own b2 (isC (bkC b a c) 24), .snap 0 w.heap.size w]) (fun ((k, a', c') : Nat × Option Addr × Nat) => b.lines.length - k) ((0, none, 0)) [.row none 0 0 3 1 [], .own b2 (isC (bkC b a c) 24), .snap 0 w.heap.size w] (rfl) (Nat.zero_le _) (⟨rfl, rfl, rfl, rfl, trivial⟩) ?_
  rintro ⟨k, a', c'⟩ hk
  try dsimp only at hk
  show T _ _ _ ⟨_, [(1, .bool m), (2, (.pointer (some ⟨b2, 0, none⟩))), (5, .slice a' k c'), (6, (.int .i64 (k : Int)))], _⟩ [.row a' k c' 3 1 (ints ((endL b m).take k)), .own b2 (isC (bkC b a c) 24), .snap 0 w.heap.size w]
  refine t_seq ?_
  refine t_seq ?_
  refine t_reg ?_
  refine to_mv rfl rfl ?_
  first | refine to_fa rfl rfl rfl (by simp only [Nat.reduceAdd]; rfl) rfl ?_ | refine to_fae rfl rfl rfl (by simp only [Nat.reduceAdd]; rfl) rfl ?_
  first | refine to_lds rfl rfl rfl ?_ | refine to_ldes rfl (by assumption) rfl rfl ?_
  refine to_lenS rfl rfl ?_
  refine to_lss rfl rfl rfl ?_
  refine to_nil ?_
  refine tn_code ?_
  refine t_if rfl (fun h1 => ?_) (fun h1 => ?_)
  · try simp only [decide_eq_true_eq, decide_eq_false_iff_not, Bool.not_eq_true', Bool.not_eq_false', Int.not_lt, Int.not_le, ne_eq, Decidable.not_not] at h1
    try have h1b := inB_iff.1 h1
    obtain ⟨l, hl⟩ := some_get (xs := b.lines) (k := k) (by omega)
    have hx := map_get (f := linC) hl
    refine t_skip ?_
    refine tn_code ?_
    refine t_seq ?_
    refine t_blk ?_
    refine t_seq ?_
    refine t_reg ?_
    refine to_mv rfl rfl ?_
    refine to_nil ?_
    refine tn_code ?_
    refine t_if rfl (fun h2 => ?_) (fun h2 => ?_)
    · try simp only [decide_eq_true_eq, decide_eq_false_iff_not, Bool.not_eq_true', Bool.not_eq_false', Int.not_lt, Int.not_le, ne_eq, Decidable.not_not] at h2
      try have h2b := inB_iff.1 h2
      refine t_reg ?_
      refine to_mv rfl rfl ?_
      first | refine to_fa rfl rfl rfl (by simp only [Nat.reduceAdd]; rfl) rfl ?_ | refine to_fae rfl rfl rfl (by simp only [Nat.reduceAdd]; rfl) rfl ?_
      first | refine to_lds rfl rfl rfl ?_ | refine to_ldes rfl (by assumption) rfl rfl ?_
      refine to_mv rfl rfl ?_
      first | refine to_ix rfl rfl rfl (by first | omega | decide) (by first | omega | decide) rfl ?_ | refine to_ixi rfl rfl rfl (by omega) (by omega) (by omega) rfl ?_
      first | refine to_fa rfl rfl rfl (by simp only [Nat.reduceAdd]; rfl) rfl ?_ | refine to_fae rfl rfl rfl (by simp only [Nat.reduceAdd]; rfl) rfl ?_
      first | refine to_fa rfl rfl rfl (by simp only [Nat.reduceAdd]; rfl) rfl ?_ | refine to_fae rfl rfl rfl (by simp only [Nat.reduceAdd]; rfl) rfl ?_
      first | refine to_lds rfl rfl rfl ?_ | refine to_ldes rfl (by assumption) rfl rfl ?_
      refine to_bsl rfl rfl rfl rfl (fun a23 => ?_)
      refine to_app rfl rfl rfl (by simp [scals, scal]) (by decide) (by omega) (by decide) rfl (fun a24 c24 => ?_)
      refine to_as rfl rfl ?_
      refine to_nil ?_
      refine tn_blk ?_
      refine tn_code ?_
      refine t_reg ?_
      refine to_mv rfl rfl ?_
      refine to_add rfl rfl (by omega) rfl ?_
      refine to_as rfl rfl ?_
      refine to_nil ?_
      exact tn_loop2 ((k + 1, a24, c24)) [.row a24 (k + 1) c24 3 1 (ints ((endL b m).take k) ++ [[.int .i64 l.hi]]), .own b2 (isC (bkC b a c) 24), .snap 0 w.heap.size w] (by dsimp only; rw [take_snoc (endL_get (m := m) hl), ints_snoc, h2]; rfl) (by dsimp only; omega) (by dsimp only; omega) (⟨rfl, rfl, rfl, rfl, trivial⟩)
    · try simp only [decide_eq_true_eq, decide_eq_false_iff_not, Bool.not_eq_true', Bool.not_eq_false', Int.not_lt, Int.not_le, ne_eq, Decidable.not_not] at h2
      try have h2b := inB_iff.1 h2
      refine t_reg ?_
      refine to_mv rfl rfl ?_
      first | refine to_fa rfl rfl rfl (by simp only [Nat.reduceAdd]; rfl) rfl ?_ | refine to_fae rfl rfl rfl (by simp only [Nat.reduceAdd]; rfl) rfl ?_
      first | refine to_lds rfl rfl rfl ?_ | refine to_ldes rfl (by assumption) rfl rfl ?_
      refine to_mv rfl rfl ?_
      first | refine to_ix rfl rfl rfl (by first | omega | decide) (by first | omega | decide) rfl ?_ | refine to_ixi rfl rfl rfl (by omega) (by omega) (by omega) rfl ?_
      first | refine to_fa rfl rfl rfl (by simp only [Nat.reduceAdd]; rfl) rfl ?_ | refine to_fae rfl rfl rfl (by simp only [Nat.reduceAdd]; rfl) rfl ?_
      first | refine to_fa rfl rfl rfl (by simp only [Nat.reduceAdd]; rfl) rfl ?_ | refine to_fae rfl rfl rfl (by simp only [Nat.reduceAdd]; rfl) rfl ?_
      first | refine to_lds rfl rfl rfl ?_ | refine to_ldes rfl (by assumption) rfl rfl ?_
      refine to_bsl rfl rfl rfl rfl (fun a33 => ?_)
      refine to_app rfl rfl rfl (by simp [scals, scal]) (by decide) (by omega) (by decide) rfl (fun a34 c34 => ?_)
      refine to_as rfl rfl ?_
      refine to_nil ?_
      refine tn_blk ?_
      refine tn_code ?_
      refine t_reg ?_
      refine to_mv rfl rfl ?_
      refine to_add rfl rfl (by omega) rfl ?_
      refine to_as rfl rfl ?_
      refine to_nil ?_
      exact tn_loop2 ((k + 1, a34, c34)) [.row a34 (k + 1) c34 3 1 (ints ((endL b m).take k) ++ [[.int .i64 l.lo]]), .own b2 (isC (bkC b a c) 24), .snap 0 w.heap.size w] (by dsimp only; rw [take_snoc (endL_get (m := m) hl), ints_snoc, h2]; rfl) (by dsimp only; omega) (by dsimp only; omega) (⟨rfl, rfl, rfl, rfl, trivial⟩)
  · try simp only [decide_eq_true_eq, decide_eq_false_iff_not, Bool.not_eq_true', Bool.not_eq_false', Int.not_lt, Int.not_le, ne_eq, Decidable.not_not] at h1
    try have h1b := inB_iff.1 h1
    have hk2 : k = b.lines.length := by omega
    subst hk2
    have hta : (endL b m).take b.lines.length = endL b m := List.take_of_length_le (by rw [endL_len]; exact Nat.le_refl _)
    refine t_exit ?_
    refine tx_code ?_
    refine tx_inv ?_
    refine tx_blk ?_
    refine tn_code ?_
    refine t_seq ?_
    refine t_reg ?_
    refine to_mv rfl rfl ?_
    refine to_as rfl rfl ?_
    refine to_nil ?_
    refine tn_code ?_
    refine t_ret1 rfl rfl (res_tmp rfl) (fun w' s => ?_)
    rw [RSl, endL_len, ← hta]
    exact ⟨_, _, rfl, ro_row s⟩

end Go.Proofs


namespace Go.Proofs
open Go Go.Sx Go.RowKit

/-! # The same shares, by the reference's road -/

/-- What rounding leaves of a hand's share. -/
def remS (b : Bk) (pr : Int) (j : Int) : Int := pr * (ownL b).getD j.toNat 0 % allS b
theorem remS_own {b : Bk} {pr : Int} {j : Nat} (h : j < b.hands.toNat) : remS b pr j = pr * ownK b b.lines.length j % allS b := by
  simp only [remS, Int.toNat_natCast, List.getD, ownL_get h, Option.getD_some]
/-- The first best of the first. -/
def bestR (g : Int → Int) : Nat → Int
  | 0 => 0
  | k + 1 => if g (bestR g k) < g k then (k : Int) else bestR g k
theorem bestR_spec (g : Int → Int) : ∀ k, (∀ j : Nat, j < k → g j ≤ g (bestR g k)) ∧ (∀ j : Nat, j < k → (j : Int) < bestR g k → g j < g (bestR g k)) ∧ 0 ≤ bestR g k ∧ (bestR g k < k ∨ (k = 0 ∧ bestR g k = 0))
  | 0 => ⟨fun j hj => absurd hj (Nat.not_lt_zero _), fun j hj => absurd hj (Nat.not_lt_zero _), Int.le_refl _, .inr ⟨rfl, rfl⟩⟩
  | k + 1 => by
    obtain ⟨h1, h2, h3, h4⟩ := bestR_spec g k
    simp only [bestR]
    by_cases hlt : g (bestR g k) < g k
    · simp only [if_pos hlt]
      refine ⟨fun j hj => ?_, fun j hj hjk => ?_, by omega, .inl (by omega)⟩
      · by_cases hjk : j = k
        · subst hjk; exact Int.le_refl _
        · have := h1 j (by omega); omega
      · have := h1 j (by omega); omega
    · simp only [if_neg hlt]
      refine ⟨fun j hj => ?_, fun j hj hjk => ?_, h3, .inl (by omega)⟩
      · by_cases hjk : j = k
        · subst hjk; omega
        · exact h1 j (by omega)
      · by_cases hjk2 : j = k
        · subst hjk2; omega
        · exact h2 j (by omega) hjk
theorem bestK_spec {g : Int → Int} {p : Int → Int → Bool} {xs : List Int} (hp : ∀ x y, p x y = decide (g y < g x)) (hs : xs.Pairwise (fun x y => x < y)) (hne : 1 ≤ xs.length) : ∀ k, k ≤ xs.length - 1 → (∃ i : Nat, i ≤ k ∧ xs[i]? = some (bestK p xs k)) ∧ ∀ (j : Nat) (y : Int), j ≤ k → xs[j]? = some y → g y ≤ g (bestK p xs k) ∧ (y < bestK p xs k → g y < g (bestK p xs k))
  | 0, _ => by
    obtain ⟨x, hx⟩ := some_get (xs := xs) (k := 0) (by omega)
    have hb : bestK p xs 0 = x := by
      cases xs with
      | nil => simp at hx
      | cons u us => simp at hx; simp [bestK, hx]
    rw [hb]
    refine ⟨⟨0, Nat.le_refl _, hx⟩, fun j y hj hy => ?_⟩
    obtain rfl : j = 0 := by omega
    rw [hx] at hy; cases hy
    exact ⟨Int.le_refl _, fun h => absurd h (by omega)⟩
  | k + 1, hk => by
    obtain ⟨⟨i, hi, hix⟩, ih⟩ := bestK_spec hp hs hne k (by omega)
    obtain ⟨y0, hy0⟩ := some_get (xs := xs) (k := k + 1) (by omega)
    rw [bestK_succ hy0, hp]
    have hlt : ∀ (j : Nat) (y : Int), j ≤ k → xs[j]? = some y → y < y0 := by
      intro j y hj hy
      obtain ⟨h1, h2⟩ := List.getElem?_eq_some_iff.1 hy
      obtain ⟨h3, h4⟩ := List.getElem?_eq_some_iff.1 hy0
      have := List.pairwise_iff_getElem.1 hs j (k + 1) h1 h3 (by omega)
      rw [h2, h4] at this; exact this
    by_cases hc : g (bestK p xs k) < g y0
    · simp only [hc, decide_true, if_true]
      refine ⟨⟨k + 1, Nat.le_refl _, hy0⟩, fun j y hj hy => ?_⟩
      by_cases hjk : j = k + 1
      · subst hjk; rw [hy0] at hy; cases hy
        exact ⟨Int.le_refl _, fun h => absurd h (by omega)⟩
      · have := (ih j y (by omega) hy).1
        exact ⟨by omega, fun _ => by omega⟩
    · simp only [hc, decide_false, Bool.false_eq_true, if_false]
      refine ⟨⟨i, by omega, hix⟩, fun j y hj hy => ?_⟩
      by_cases hjk : j = k + 1
      · subst hjk; rw [hy0] at hy; cases hy
        have := hlt i _ hi hix
        exact ⟨by omega, fun h => absurd h (by omega)⟩
      · exact ih j y (by omega) hy
theorem bestI_spec {g : Int → Int} {p : Int → Int → Bool} {xs : List Int} (hp : ∀ x y, p x y = decide (g y < g x)) (hs : xs.Pairwise (fun x y => x < y)) (hne : 1 ≤ xs.length) : bestI p xs ∈ xs ∧ ∀ y ∈ xs, g y ≤ g (bestI p xs) ∧ (y < bestI p xs → g y < g (bestI p xs)) := by
  refine ⟨bestI_mem hne, fun y hy => ?_⟩
  obtain ⟨j, hj⟩ := List.mem_iff_getElem?.1 hy
  have hlt := (List.getElem?_eq_some_iff.1 hj).1
  exact (bestK_spec hp hs hne _ (Nat.le_refl _)).2 j y (by omega) hj
theorem shP_rem (b : Bk) (pr : Int) (x y : Int) : shP pr (allS b) (ownL b) x y = decide (remS b pr y < remS b pr x) := rfl
theorem lefs_up (k : Nat) : (lefs k).Pairwise (fun x y => x < y) := List.pairwise_map.2 ((List.pairwise_lt_range (n := k)).imp (fun h => by omega))
theorem shSt_up {b : Bk} {pr : Int} : ∀ m, (shSt b pr m).2.Pairwise (fun x y => x < y)
  | 0 => lefs_up _
  | m + 1 => (shSt_up m).filter _

/-- The hand that gains in a round. -/
abbrev gainS (b : Bk) (pr : Int) (m : Nat) : Int := bestI (shP pr (allS b) (ownL b)) (shSt b pr m).2
def restR (b : Bk) (pr : Int) : Nat → Int → Int
  | 0 => remS b pr
  | m + 1 => upd (restR b pr m) (bestR (restR b pr m) b.hands.toNat) (-1)
theorem rem_nn {b : Bk} {pr : Int} (ha : 0 < allS b) (j : Int) : 0 ≤ remS b pr j ∧ remS b pr j < allS b := ⟨Int.emod_nonneg _ (by omega), Int.emod_lt_of_pos _ ha⟩
theorem same_best {b : Bk} {pr : Int} (ha : 0 < allS b) {m : Nat} (hm : m < b.hands.toNat) (hI : ∀ j : Nat, j < b.hands.toNat → restR b pr m j = if (j : Int) ∈ (shSt b pr m).2 then remS b pr j else -1) : bestR (restR b pr m) b.hands.toNat = gainS b pr m := by
  obtain ⟨h1, h2, h3⟩ := shSt_inv (b := b) (pr := pr) m (by omega)
  obtain ⟨g1, g2⟩ := bestI_spec (g := remS b pr) (fun x y => shP_rem b pr x y) (shSt_up (b := b) (pr := pr) m) (by omega)
  obtain ⟨r1, r2, r3, r4⟩ := bestR_spec (restR b pr m) b.hands.toNat
  have hx := h3 _ g1
  have hb0 : bestR (restR b pr m) b.hands.toNat < b.hands.toNat := by omega
  obtain ⟨x1, hx1⟩ := Int.eq_ofNat_of_zero_le hx.1
  obtain ⟨x2, hx2⟩ := Int.eq_ofNat_of_zero_le r3
  rw [hx2] at r1 r2 hb0 ⊢
  show (x2 : Int) = bestI (shP pr (allS b) (ownL b)) (shSt b pr m).2
  rw [hx1] at g1 g2 hx ⊢
  have e1 : restR b pr m x1 = remS b pr x1 := by rw [hI x1 (by omega), if_pos g1]
  have hn1 := rem_nn (pr := pr) ha x1
  have k1 := r1 x1 (by omega)
  have hmem : (x2 : Int) ∈ (shSt b pr m).2 := by
    by_cases hc : (x2 : Int) ∈ (shSt b pr m).2
    · exact hc
    · exfalso
      rw [hI x2 (by omega), if_neg hc] at k1; omega
  have e2 : restR b pr m x2 = remS b pr x2 := by rw [hI x2 (by omega), if_pos hmem]
  have k2 := g2 _ hmem
  rcases Int.lt_trichotomy (x2 : Int) (x1 : Int) with h | h | h
  · have := k2.2 h
    omega
  · exact h
  · have := r2 x1 (by omega) h
    omega
theorem rest_inv {b : Bk} {pr : Int} (ha : 0 < allS b) : ∀ m, m < b.hands.toNat → ∀ j : Nat, j < b.hands.toNat → restR b pr m j = if (j : Int) ∈ (shSt b pr m).2 then remS b pr j else -1
  | 0, _, j, hj => by
    have hmem : (j : Int) ∈ (shSt b pr 0).2 := by simp only [shSt, lefs, List.mem_map, List.mem_range]; exact ⟨j, hj, rfl⟩
    rw [if_pos hmem]; rfl
  | m + 1, hm, j, hj => by
    have ih := rest_inv (pr := pr) ha m (by omega)
    have hb := same_best ha (by omega) ih
    simp only [restR, upd, hb]
    have hiff : (j : Int) ∈ (shSt b pr (m + 1)).2 ↔ (j : Int) ∈ (shSt b pr m).2 ∧ (j : Int) ≠ gainS b pr m := by
      simp only [shSt, flt, List.mem_filter]
      simp
    by_cases hjg : (j : Int) = gainS b pr m
    · rw [if_pos hjg, if_neg (fun h => (hiff.1 h).2 hjg)]
    · rw [if_neg hjg, ih j hj]
      by_cases hmem : (j : Int) ∈ (shSt b pr m).2
      · rw [if_pos hmem, if_pos (hiff.2 ⟨hmem, hjg⟩)]
      · rw [if_neg hmem, if_neg (fun h => hmem (hiff.1 h).1)]
theorem best_gain {b : Bk} {pr : Int} (ha : 0 < allS b) {m : Nat} (hm : m < b.hands.toNat) : bestR (restR b pr m) b.hands.toNat = gainS b pr m := same_best ha hm (rest_inv ha m hm)
theorem rest_put {g : Int → Int} {h : Nat} {q v : Int} (h0 : 0 ≤ q) (h1 : q < h) : (ints (restL g h)).set q.toNat [Value.int .i64 v] = ints (restL (upd g q v) h) := restL_put h0 h1
theorem rest_b {b : Bk} {pr : Int} (ha : 0 < allS b) (hal : allS b ≤ 300) : ∀ (m : Nat) (j : Int), -1 ≤ restR b pr m j ∧ restR b pr m j ≤ 300
  | 0, j => by have := rem_nn (pr := pr) ha j; simp only [restR]; omega
  | m + 1, j => by
    have ih := rest_b (pr := pr) ha hal m j
    simp only [restR, upd]; split <;> omega
theorem allS_le {b : Bk} (hb : isBk b = true) : allS b ≤ 300 := by
  have hbb := isBk_b hb
  have h := sumI_bd (B := 100) (by decide) (xs := ownL b) (ownL_b hb) (ownL b).length
  rw [List.take_length, ownL_len] at h
  simp only [allS]; omega
end Go.Proofs


namespace Go.Proofs
open Go Go.Sx Go.RowKit

theorem own_step {b : Bk} {k : Nat} {l : Lin} {h : Int} (hl : b.lines[k]? = some l) : ownK b (k + 1) h = if l.hand = h then ownK b k h + l.sheets else ownK b k h := by
  rw [ownK_succ hl]
  simp only [upd]
  by_cases e : l.hand = h
  · rw [if_pos e, if_pos e.symm, e]
  · rw [if_neg e, if_neg (fun e2 => e e2.symm)]
theorem q0_get {b : Bk} {pr : Int} {k : Nat} (hk : k < b.hands.toNat) : (restL (q0 b pr b.hands.toNat) b.hands.toNat)[k]? = some (pr * ownK b b.lines.length k / allS b) := by
  rw [restL_get hk]; simp only [q0]; rw [if_pos (by omega)]
theorem r0_get {b : Bk} {pr : Int} {k : Nat} (hk : k < b.hands.toNat) : (restL (restR b pr 0) b.hands.toNat)[k]? = some (pr * ownK b b.lines.length k - pr * ownK b b.lines.length k / allS b * allS b) := by
  rw [restL_get hk]
  show some (remS b pr k) = _
  rw [remS_own hk, Int.emod_def, Int.mul_comm (allS b)]
theorem in_hand {b : Bk} {k : Nat} (hb : 1 ≤ b.hands) : inB (k : Int) 0 (b.hands - 1) = decide (k < b.hands.toNat) := by
  rw [Bool.eq_iff_iff, inB_iff, decide_eq_true_eq]; omega

set_option maxRecDepth 20000 in
theorem ref_Sheets (b : Bk) (a : Option Addr) (c : Nat) (h : Int) (w : World) (hr : Ro w 0 w.heap.size a b.lines.length c 10 (b.lines.map linC)) (hb : isBk b = true) : Calls Tryz.prog 21 #[bkV b a c, (.int .i64 h)] w (RetV w (.int .i64 (ownK b b.lines.length h))) := by
  have hbb := isBk_b hb
  refine calls_T0 (av := [_, _]) Tryz.func21 rfl rfl rfl ?_
  refine t_seq ?_
  refine t_reg ?_
  refine to_box rfl rfl (fun b2 => ?_)
  refine to_as rfl rfl ?_
  refine to_nil ?_
  refine tn_code ?_
  refine t_seq ?_
  refine t_reg ?_
  refine to_as rfl rfl ?_
  refine to_nil ?_
  refine tn_code ?_
  refine t_seq ?_
  refine t_seq ?_
  refine t_reg ?_
  refine to_as rfl rfl ?_
  refine to_nil ?_
  refine tn_code ?_
  refine t_blk ?_
  refine t_loop2 (ι := Nat) (fun k => k ≤ b.lines.length) (fun k => [(1, (.int .i64 h)), (2, (.pointer (some ⟨b2, 0, none⟩))), (5, (.int .i64 (ownK b k h))), (6, (.int .i64 (k : Int)))]) (fun k => [.own b2 (isC (bkC b a c) 24), .snap 0 w.heap.size w]) (fun k => b.lines.length - k) (0) [.own b2 (isC (bkC b a c) 24), .snap 0 w.heap.size w] (rfl) (Nat.zero_le _) (⟨rfl, rfl, rfl, rfl, trivial⟩) ?_
  rintro k hk
  show T _ _ _ ⟨_, [(1, (.int .i64 h)), (2, (.pointer (some ⟨b2, 0, none⟩))), (5, (.int .i64 (ownK b k h))), (6, (.int .i64 (k : Int)))], _⟩ [.own b2 (isC (bkC b a c) 24), .snap 0 w.heap.size w]
  refine t_seq ?_
  refine t_seq ?_
  refine t_reg ?_
  refine to_mv rfl rfl ?_
  first | refine to_fa rfl rfl rfl (by simp only [Nat.reduceAdd]; rfl) rfl ?_ | refine to_fae rfl rfl rfl (by simp only [Nat.reduceAdd]; rfl) rfl ?_
  first | refine to_lds rfl rfl rfl ?_ | refine to_ldes rfl (by assumption) rfl rfl ?_
  refine to_lenS rfl rfl ?_
  refine to_lss rfl rfl rfl ?_
  refine to_nil ?_
  refine tn_code ?_
  refine t_if rfl (fun h1 => ?_) (fun h1 => ?_)
  · try simp only [decide_eq_true_eq, decide_eq_false_iff_not, Bool.not_eq_true', Bool.not_eq_false', Int.not_lt, Int.not_le, ne_eq, Decidable.not_not] at h1
    try have h1b := inB_iff.1 h1
    obtain ⟨l, hl⟩ := some_get (xs := b.lines) (k := k) (by omega)
    have hx := map_get (f := linC) hl
    have hlb := isLin_b (isBk_l hb (List.mem_of_getElem? hl))
    have hkb := ownK_b hb k h
    refine t_skip ?_
    refine tn_code ?_
    refine t_seq ?_
    refine t_blk ?_
    refine t_seq ?_
    refine t_reg ?_
    first | refine to_fa rfl rfl rfl (by simp only [Nat.reduceAdd]; rfl) rfl ?_ | refine to_fae rfl rfl rfl (by simp only [Nat.reduceAdd]; rfl) rfl ?_
    first | refine to_lds rfl rfl rfl ?_ | refine to_ldes rfl (by assumption) rfl rfl ?_
    refine to_mv rfl rfl ?_
    first | refine to_ix rfl rfl rfl (by first | omega | decide) (by first | omega | decide) rfl ?_ | refine to_ixi rfl rfl rfl (by omega) (by omega) (by omega) rfl ?_
    first | refine to_fa rfl rfl rfl (by simp only [Nat.reduceAdd]; rfl) rfl ?_ | refine to_fae rfl rfl rfl (by simp only [Nat.reduceAdd]; rfl) rfl ?_
    first | refine to_lds rfl rfl rfl ?_ | refine to_ldes rfl (by assumption) rfl rfl ?_
    refine to_mv rfl rfl ?_
    refine to_eql rfl rfl rfl ?_
    refine to_nil ?_
    refine tn_code ?_
    refine t_if rfl (fun h2 => ?_) (fun h2 => ?_)
    · try simp only [decide_eq_true_eq, decide_eq_false_iff_not, Bool.not_eq_true', Bool.not_eq_false', Int.not_lt, Int.not_le, ne_eq, Decidable.not_not] at h2
      try have h2b := inB_iff.1 h2
      refine t_reg ?_
      refine to_mv rfl rfl ?_
      first | refine to_fa rfl rfl rfl (by simp only [Nat.reduceAdd]; rfl) rfl ?_ | refine to_fae rfl rfl rfl (by simp only [Nat.reduceAdd]; rfl) rfl ?_
      first | refine to_lds rfl rfl rfl ?_ | refine to_ldes rfl (by assumption) rfl rfl ?_
      refine to_mv rfl rfl ?_
      first | refine to_ix rfl rfl rfl (by first | omega | decide) (by first | omega | decide) rfl ?_ | refine to_ixi rfl rfl rfl (by omega) (by omega) (by omega) rfl ?_
      first | refine to_fa rfl rfl rfl (by simp only [Nat.reduceAdd]; rfl) rfl ?_ | refine to_fae rfl rfl rfl (by simp only [Nat.reduceAdd]; rfl) rfl ?_
      first | refine to_lds rfl rfl rfl ?_ | refine to_ldes rfl (by assumption) rfl rfl ?_
      refine to_add rfl rfl (by omega) rfl ?_
      refine to_as rfl rfl ?_
      refine to_nil ?_
      refine tn_blk ?_
      refine tn_code ?_
      refine t_reg ?_
      refine to_mv rfl rfl ?_
      refine to_add rfl rfl (by omega) rfl ?_
      refine to_as rfl rfl ?_
      refine to_nil ?_
      exact tn_loop2 (k + 1) [.own b2 (isC (bkC b a c) 24), .snap 0 w.heap.size w] (rfl) (by omega) (by omega) (⟨rfl, rfl, congrArg (fun z => some (Value.int .i64 z)) ((own_step hl).trans (if_pos h2)).symm, rfl, trivial⟩)
    · try simp only [decide_eq_true_eq, decide_eq_false_iff_not, Bool.not_eq_true', Bool.not_eq_false', Int.not_lt, Int.not_le, ne_eq, Decidable.not_not] at h2
      try have h2b := inB_iff.1 h2
      refine t_skip ?_
      refine tn_blk ?_
      refine tn_code ?_
      refine t_reg ?_
      refine to_mv rfl rfl ?_
      refine to_add rfl rfl (by omega) rfl ?_
      refine to_as rfl rfl ?_
      refine to_nil ?_
      exact tn_loop2 (k + 1) [.own b2 (isC (bkC b a c) 24), .snap 0 w.heap.size w] (rfl) (by omega) (by omega) (⟨rfl, rfl, congrArg (fun z => some (Value.int .i64 z)) ((own_step hl).trans (if_neg h2)).symm, rfl, trivial⟩)
  · try simp only [decide_eq_true_eq, decide_eq_false_iff_not, Bool.not_eq_true', Bool.not_eq_false', Int.not_lt, Int.not_le, ne_eq, Decidable.not_not] at h1
    try have h1b := inB_iff.1 h1
    have hk2 : k = b.lines.length := by omega
    subst hk2
    refine t_exit ?_
    refine tx_code ?_
    refine tx_inv ?_
    refine tx_blk ?_
    refine tn_code ?_
    refine t_seq ?_
    refine t_reg ?_
    refine to_mv rfl rfl ?_
    refine to_as rfl rfl ?_
    refine to_nil ?_
    refine tn_code ?_
    refine t_ret1 rfl rfl (res_tmp rfl) (fun w' s => ?_)
    rfl

set_option maxRecDepth 20000 in
theorem ref_Share_z (b : Bk) (a : Option Addr) (c : Nat) (pr : Int) (w : World) (hr : Ro w 0 w.heap.size a b.lines.length c 10 (b.lines.map linC)) (hb : isBk b = true) (hsm : isSum pr = true) (hz : allS b = 0) : Calls Tryz.prog 17 #[bkV b a c, (.int .i64 pr)] w (Ret w (RSlB [] false)) := by
  have hbb := isBk_b hb
  have hpb := isSum_b hsm
  have hal := allS_le hb
  refine calls_T (av := [_, _]) Tryz.func17 rfl rfl rfl ?_
  refine t_seq ?_
  refine t_reg ?_
  refine to_box rfl rfl (fun b2 => ?_)
  refine to_as rfl rfl ?_
  refine to_as rfl rfl ?_
  refine to_nil ?_
  refine tn_code ?_
  refine t_seq ?_
  refine t_reg ?_
  refine to_mv rfl rfl ?_
  refine to_as rfl rfl ?_
  refine to_as rfl rfl ?_
  refine to_nil ?_
  refine tn_code ?_
  refine t_seq ?_
  refine t_seq ?_
  refine t_reg ?_
  refine to_as rfl rfl ?_
  refine to_nil ?_
  refine tn_code ?_
  refine t_blk ?_
  refine t_loop2 (ι := Nat) (fun k => k ≤ b.hands.toNat) (fun k => [(1, (.int .i64 pr)), (2, (.pointer (some ⟨b2, 0, none⟩))), (6, (.int .i64 (sumI ((ownL b).take k)))), (7, (.int .i64 pr)), (8, (.int .i64 (k : Int)))]) (fun k => [.own b2 (isC (bkC b a c) 24), .snap 0 w.heap.size w]) (fun k => b.hands.toNat - k) (0) [.own b2 (isC (bkC b a c) 24), .snap 0 w.heap.size w] (rfl) (Nat.zero_le _) (⟨rfl, rfl, rfl, rfl, rfl, trivial⟩) ?_
  rintro k hk
  show T _ _ _ ⟨_, [(1, (.int .i64 pr)), (2, (.pointer (some ⟨b2, 0, none⟩))), (6, (.int .i64 (sumI ((ownL b).take k)))), (7, (.int .i64 pr)), (8, (.int .i64 (k : Int)))], _⟩ [.own b2 (isC (bkC b a c) 24), .snap 0 w.heap.size w]
  refine t_seq ?_
  refine t_seq ?_
  refine t_reg ?_
  first | refine to_lda rfl rfl rfl ?_ | refine to_ldea rfl (by assumption) rfl rfl ?_
  refine to_mv rfl rfl ?_
  refine to_call0 rfl rfl (fun w s => ref_Hand b a c _ w (by omega)) rfl ?_
  refine to_nil ?_
  refine tn_code ?_
  refine t_if rfl (fun h1 => ?_) (fun h1 => ?_)
  · try simp only [decide_eq_true_eq, decide_eq_false_iff_not, Bool.not_eq_true', Bool.not_eq_false', Int.not_lt, Int.not_le, ne_eq, Decidable.not_not] at h1
    try have h1b := inB_iff.1 h1
    have hkn : k < b.hands.toNat := by have h9 := inB_iff.1 h1; omega
    have hsb := sumI_bd (B := 100) (by decide) (xs := ownL b) (ownL_b hb) k
    have hob := ownK_b hb b.lines.length k
    refine t_skip ?_
    refine tn_code ?_
    refine t_seq ?_
    refine t_blk ?_
    refine t_reg ?_
    refine to_mv rfl rfl ?_
    first | refine to_lda rfl rfl rfl ?_ | refine to_ldea rfl (by assumption) rfl rfl ?_
    refine to_mv rfl rfl ?_
    refine to_call0 rfl rfl (fun w s => ref_Sheets b a c _ w (rdw s) hb) rfl ?_
    refine to_add rfl rfl (by omega) rfl ?_
    refine to_as rfl rfl ?_
    refine to_nil ?_
    refine tn_blk ?_
    refine tn_code ?_
    refine t_reg ?_
    refine to_mv rfl rfl ?_
    refine to_add rfl rfl (by omega) rfl ?_
    refine to_as rfl rfl ?_
    refine to_nil ?_
    exact tn_loop2 (k + 1) [.own b2 (isC (bkC b a c) 24), .snap 0 w.heap.size w] (rfl) (by omega) (by omega) (⟨rfl, rfl, congrArg (fun z => some (Value.int .i64 z)) (sumI_take (ownL_get hkn)).symm, rfl, rfl, trivial⟩)
  · try simp only [decide_eq_true_eq, decide_eq_false_iff_not, Bool.not_eq_true', Bool.not_eq_false', Int.not_lt, Int.not_le, ne_eq, Decidable.not_not] at h1
    try have h1b := inB_iff.1 h1
    have hk2 : k = b.hands.toNat := by
      have h9 := in_hand (b := b) (k := k) (by omega)
      have h8 := h1
      rw [h8] at h9
      have := of_decide_eq_false h9.symm
      omega
    subst hk2
    refine t_exit ?_
    refine tx_code ?_
    refine tx_inv ?_
    refine tx_blk ?_
    refine tn_code ?_
    refine t_seq ?_
    refine t_seq ?_
    have hta : (sumI ((ownL b).take b.hands.toNat)) = allS b := by rw [allS, List.take_of_length_le (by rw [ownL_len]; exact Nat.le_refl _)]
    refine t_reg ?_
    refine to_mv rfl rfl ?_
    refine to_eql rfl rfl rfl ?_
    refine to_fix (s := 27) (b' := true) rfl (decide_eq_true (by omega)) ?_
    refine to_nil ?_
    refine tn_code ?_
    refine t_ifT rfl ?_
    refine t_seq ?_
    refine t_reg ?_
    refine to_as rfl rfl ?_
    refine to_as rfl rfl ?_
    refine to_nil ?_
    refine tn_code ?_
    refine t_ret2 rfl rfl (res_tmp rfl) (res_tmp rfl) (fun w' s => ?_)
    exact ⟨_, _, rfl, Ro.nil _ _ _ _⟩

set_option maxRecDepth 20000 in
theorem ref_Share_n (b : Bk) (a : Option Addr) (c : Nat) (pr : Int) (w : World) (hr : Ro w 0 w.heap.size a b.lines.length c 10 (b.lines.map linC)) (hb : isBk b = true) (hsm : isSum pr = true) (hap : 0 < allS b) : Calls Tryz.prog 17 #[bkV b a c, (.int .i64 pr)] w (Ret w (RSlB (restL (shSt b pr (shM b pr).toNat).1 b.hands.toNat) true)) := by
  have hbb := isBk_b hb
  have hpb := isSum_b hsm
  have hal := allS_le hb
  refine calls_T (av := [_, _]) Tryz.func17 rfl rfl rfl ?_
  refine t_seq ?_
  refine t_reg ?_
  refine to_box rfl rfl (fun b2 => ?_)
  refine to_as rfl rfl ?_
  refine to_as rfl rfl ?_
  refine to_nil ?_
  refine tn_code ?_
  refine t_seq ?_
  refine t_reg ?_
  refine to_mv rfl rfl ?_
  refine to_as rfl rfl ?_
  refine to_as rfl rfl ?_
  refine to_nil ?_
  refine tn_code ?_
  refine t_seq ?_
  refine t_seq ?_
  refine t_reg ?_
  refine to_as rfl rfl ?_
  refine to_nil ?_
  refine tn_code ?_
  refine t_blk ?_
  refine t_loop2 (ι := Nat) (fun k => k ≤ b.hands.toNat) (fun k => [(1, (.int .i64 pr)), (2, (.pointer (some ⟨b2, 0, none⟩))), (6, (.int .i64 (sumI ((ownL b).take k)))), (7, (.int .i64 pr)), (8, (.int .i64 (k : Int)))]) (fun k => [.own b2 (isC (bkC b a c) 24), .snap 0 w.heap.size w]) (fun k => b.hands.toNat - k) (0) [.own b2 (isC (bkC b a c) 24), .snap 0 w.heap.size w] (rfl) (Nat.zero_le _) (⟨rfl, rfl, rfl, rfl, rfl, trivial⟩) ?_
  rintro k hk
  show T _ _ _ ⟨_, [(1, (.int .i64 pr)), (2, (.pointer (some ⟨b2, 0, none⟩))), (6, (.int .i64 (sumI ((ownL b).take k)))), (7, (.int .i64 pr)), (8, (.int .i64 (k : Int)))], _⟩ [.own b2 (isC (bkC b a c) 24), .snap 0 w.heap.size w]
  refine t_seq ?_
  refine t_seq ?_
  refine t_reg ?_
  first | refine to_lda rfl rfl rfl ?_ | refine to_ldea rfl (by assumption) rfl rfl ?_
  refine to_mv rfl rfl ?_
  refine to_call0 rfl rfl (fun w s => ref_Hand b a c _ w (by omega)) rfl ?_
  refine to_nil ?_
  refine tn_code ?_
  refine t_if rfl (fun h1 => ?_) (fun h1 => ?_)
  · try simp only [decide_eq_true_eq, decide_eq_false_iff_not, Bool.not_eq_true', Bool.not_eq_false', Int.not_lt, Int.not_le, ne_eq, Decidable.not_not] at h1
    try have h1b := inB_iff.1 h1
    have hkn : k < b.hands.toNat := by have h9 := inB_iff.1 h1; omega
    have hsb := sumI_bd (B := 100) (by decide) (xs := ownL b) (ownL_b hb) k
    have hob := ownK_b hb b.lines.length k
    refine t_skip ?_
    refine tn_code ?_
    refine t_seq ?_
    refine t_blk ?_
    refine t_reg ?_
    refine to_mv rfl rfl ?_
    first | refine to_lda rfl rfl rfl ?_ | refine to_ldea rfl (by assumption) rfl rfl ?_
    refine to_mv rfl rfl ?_
    refine to_call0 rfl rfl (fun w s => ref_Sheets b a c _ w (rdw s) hb) rfl ?_
    refine to_add rfl rfl (by omega) rfl ?_
    refine to_as rfl rfl ?_
    refine to_nil ?_
    refine tn_blk ?_
    refine tn_code ?_
    refine t_reg ?_
    refine to_mv rfl rfl ?_
    refine to_add rfl rfl (by omega) rfl ?_
    refine to_as rfl rfl ?_
    refine to_nil ?_
    exact tn_loop2 (k + 1) [.own b2 (isC (bkC b a c) 24), .snap 0 w.heap.size w] (rfl) (by omega) (by omega) (⟨rfl, rfl, congrArg (fun z => some (Value.int .i64 z)) (sumI_take (ownL_get hkn)).symm, rfl, rfl, trivial⟩)
  · try simp only [decide_eq_true_eq, decide_eq_false_iff_not, Bool.not_eq_true', Bool.not_eq_false', Int.not_lt, Int.not_le, ne_eq, Decidable.not_not] at h1
    try have h1b := inB_iff.1 h1
    have hk2 : k = b.hands.toNat := by
      have h9 := in_hand (b := b) (k := k) (by omega)
      have h8 := h1
      rw [h8] at h9
      have := of_decide_eq_false h9.symm
      omega
    subst hk2
    refine t_exit ?_
    refine tx_code ?_
    refine tx_inv ?_
    refine tx_blk ?_
    refine tn_code ?_
    refine t_seq ?_
    refine t_seq ?_
    have hta : (sumI ((ownL b).take b.hands.toNat)) = allS b := by rw [allS, List.take_of_length_le (by rw [ownL_len]; exact Nat.le_refl _)]
    refine t_reg ?_
    refine to_mv rfl rfl ?_
    refine to_eql rfl rfl rfl ?_
    refine to_fix (s := 27) (b' := false) rfl (decide_eq_false (by omega)) ?_
    refine to_nil ?_
    refine tn_code ?_
    refine t_ifF rfl ?_
    refine t_skip ?_
    refine tn_code ?_
    refine t_seq ?_
    refine t_reg ?_
    refine to_as rfl rfl ?_
    refine to_as rfl rfl ?_
    refine to_nil ?_
    refine tn_code ?_
    refine t_seq ?_
    refine t_seq ?_
    refine t_reg ?_
    refine to_as rfl rfl ?_
    refine to_nil ?_
    refine tn_code ?_
    refine t_blk ?_
    refine t_nilrow 3 1 ?_
    refine t_nilrow 3 1 ?_
    refine t_loop2 (ι := Nat × Option Addr × Nat × Option Addr × Nat) (fun ((k, a', c', a2, c2) : Nat × Option Addr × Nat × Option Addr × Nat) => k ≤ b.hands.toNat) (fun ((k, a', c', a2, c2) : Nat × Option Addr × Nat × Option Addr × Nat) => [(1, (.int .i64 pr)), (2, (.pointer (some ⟨b2, 0, none⟩))), (6, (.int .i64 (allS b))), (7, (.int .i64 (pr - sumI ((restL (q0 b pr b.hands.toNat) b.hands.toNat).take k)))), (9, .slice a' k c'), (10, .slice a2 k c2), (11, (.int .i64 (k : Int)))]) (fun ((k, a', c', a2, c2) : Nat × Option Addr × Nat × Option Addr × Nat) => [.row a' k c' 3 1 (ints ((restL (q0 b pr b.hands.toNat) b.hands.toNat).take k)), .row a2 k c2 3 1 (ints ((restL (restR b pr 0) b.hands.toNat).take k)), .own b2 (isC (bkC b a c) 24), .snap 0 w.heap.size w]) (fun ((k, a', c', a2, c2) : Nat × Option Addr × Nat × Option Addr × Nat) => b.hands.toNat - k) ((0, none, 0, none, 0)) [.row none 0 0 3 1 [], .row none 0 0 3 1 [], .own b2 (isC (bkC b a c) 24), .snap 0 w.heap.size w] (by simp) (Nat.zero_le _) (⟨rfl, rfl, congrArg (fun z => some (Value.int .i64 z)) hta, congrArg (fun z => some (Value.int .i64 z)) (by simp [sumI]), rfl, rfl, rfl, trivial⟩) ?_
    rintro ⟨k, a', c', a2, c2⟩ hk
    try dsimp only at hk
    show T _ _ _ ⟨_, [(1, (.int .i64 pr)), (2, (.pointer (some ⟨b2, 0, none⟩))), (6, (.int .i64 (allS b))), (7, (.int .i64 (pr - sumI ((restL (q0 b pr b.hands.toNat) b.hands.toNat).take k)))), (9, .slice a' k c'), (10, .slice a2 k c2), (11, (.int .i64 (k : Int)))], _⟩ [.row a' k c' 3 1 (ints ((restL (q0 b pr b.hands.toNat) b.hands.toNat).take k)), .row a2 k c2 3 1 (ints ((restL (restR b pr 0) b.hands.toNat).take k)), .own b2 (isC (bkC b a c) 24), .snap 0 w.heap.size w]
    refine t_seq ?_
    refine t_seq ?_
    refine t_reg ?_
    first | refine to_lda rfl rfl rfl ?_ | refine to_ldea rfl (by assumption) rfl rfl ?_
    refine to_mv rfl rfl ?_
    refine to_call0 rfl rfl (fun w s => ref_Hand b a c _ w (by omega)) rfl ?_
    refine to_nil ?_
    refine tn_code ?_
    refine t_if rfl (fun h2 => ?_) (fun h2 => ?_)
    · try simp only [decide_eq_true_eq, decide_eq_false_iff_not, Bool.not_eq_true', Bool.not_eq_false', Int.not_lt, Int.not_le, ne_eq, Decidable.not_not] at h2
      try have h2b := inB_iff.1 h2
      have hkn : k < b.hands.toNat := by have h9 := inB_iff.1 h2; omega
      have hsb := sumI_bd (B := 95999900) (by decide) (xs := (restL (q0 b pr b.hands.toNat) b.hands.toNat)) (fun x hx => by simp only [restL, List.mem_map] at hx; obtain ⟨j, _, rfl⟩ := hx; exact q0_b hb hpb hap _ j) k
      have hob := ownK_b hb b.lines.length k
      have hm3 := mul_bd (B := 959999) (C := 100) hpb.1 hpb.2 hob.1 (by omega)
      have hq8 := q0_b hb hpb hap b.hands.toNat k
      have hr8 := rem_nn (b := b) (pr := pr) hap k
      rw [remS_own hkn, Int.emod_def, Int.mul_comm (allS b)] at hr8
      have hq7 : pr * ownK b b.lines.length k / allS b = q0 b pr b.hands.toNat k := by simp only [q0]; rw [if_pos (by omega)]
      refine t_skip ?_
      refine tn_code ?_
      refine t_seq ?_
      refine t_blk ?_
      refine t_seq ?_
      refine t_reg ?_
      refine to_mv rfl rfl ?_
      first | refine to_lda rfl rfl rfl ?_ | refine to_ldea rfl (by assumption) rfl rfl ?_
      refine to_mv rfl rfl ?_
      refine to_call0 rfl rfl (fun w s => ref_Sheets b a c _ w (rdw s) hb) rfl ?_
      refine to_mul rfl rfl (by first | omega | exact mul_ok (by omega) (by omega) (by omega) (by omega)) rfl ?_
      refine to_mv rfl rfl ?_
      refine to_quo rfl rfl (by omega) (by omega) rfl ?_
      refine to_as rfl rfl ?_
      refine to_nil ?_
      refine tn_code ?_
      refine t_seq ?_
      refine t_regP [2, 3, 14, 15] [0, 1, 4, 5, 6, 7, 10, 11, 12, 2, 3, 8, 9, 13, 14, 15, 16, 17] [.own b2 (isC (bkC b a c) 24), .snap 0 w.heap.size w] rfl (by kernel_rfl) (by kernel_rfl) ?_
      refine tp_q ?e1 rfl ?q1 ?r1
      case q1 =>
        refine to_mv rfl rfl ?_
        exact tpq_end
      refine tp_q ?e2 rfl ?q2 ?r2
      case q2 =>
        refine to_mv rfl rfl ?_
        exact tpq_end
      refine tp_q ?e3 rfl ?q3 ?r3
      case q3 =>
        refine to_mv rfl rfl ?_
        exact tpq_end
      refine tp_q ?e4 rfl ?q4 ?r4
      case q4 =>
        refine to_mv rfl rfl ?_
        exact tpq_end
      refine tp_q ?e5 rfl ?q5 ?r5
      case q5 =>
        first | refine to_lda rfl rfl rfl ?_ | refine to_ldea rfl (by assumption) rfl rfl ?_
        exact tpq_end
      refine tp_q ?e6 rfl ?q6 ?r6
      case q6 =>
        refine to_mv rfl rfl ?_
        exact tpq_end
      refine tp_q ?e7 rfl ?q7 ?r7
      case q7 =>
        refine to_mv rfl rfl ?_
        exact tpq_end
      refine tp_q ?e8 rfl ?q8 ?r8
      case q8 =>
        refine to_mv rfl rfl ?_
        exact tpq_end
      refine tp_q ?e9 rfl ?q9 ?r9
      case q9 =>
        refine to_mul rfl rfl (by first | omega | exact mul_ok (by omega) (by omega) (by omega) (by omega)) rfl ?_
        exact tpq_end
      refine tp_s rfl ?_ (fun _ h => by cases h) rfl
      refine to_bsl rfl rfl rfl rfl (fun a42 => ?_)
      refine tp_se rfl ?_
      refine tp_s rfl ?_ (fun _ h => by cases h) rfl
      refine to_app rfl rfl rfl (by simp [scals, scal]) (by decide) (by omega) (by decide) rfl (fun a43 c43 => ?_)
      refine tp_se rfl ?_
      refine tp_q ?e10 rfl ?q10 ?r10
      case q10 =>
        refine to_call0 rfl rfl (fun w s => ref_Sheets b a c _ w (rdw s) hb) rfl ?_
        exact tpq_end
      refine tp_q ?e11 rfl ?q11 ?r11
      case q11 =>
        refine to_mul rfl rfl (by first | omega | exact mul_ok (by omega) (by omega) (by omega) (by omega)) rfl ?_
        exact tpq_end
      refine tp_q ?e12 rfl ?q12 ?r12
      case q12 =>
        refine to_sub rfl rfl (by omega) rfl ?_
        exact tpq_end
      refine tp_s rfl ?_ (fun _ h => by cases h) rfl
      refine to_bsl rfl rfl rfl rfl (fun a54 => ?_)
      refine tp_se rfl ?_
      refine tp_s rfl ?_ (fun _ h => by cases h) rfl
      refine to_app rfl rfl rfl (by simp [scals, scal]) (by decide) (by omega) (by decide) rfl (fun a55 c55 => ?_)
      refine tp_se rfl ?_
      refine tp_q ?e13 rfl ?q13 ?r13
      case q13 =>
        refine to_as rfl rfl ?_
        exact tpq_end
      refine tp_q ?e14 rfl ?q14 ?r14
      case q14 =>
        refine to_as rfl rfl ?_
        exact tpq_end
      refine tp_nil ?_
      refine tn_code ?_
      refine t_reg ?_
      refine to_mv rfl rfl ?_
      refine to_mv rfl rfl ?_
      refine to_sub rfl rfl (by omega) rfl ?_
      refine to_as rfl rfl ?_
      refine to_nil ?_
      refine tn_blk ?_
      refine tn_code ?_
      refine t_reg ?_
      refine to_mv rfl rfl ?_
      refine to_add rfl rfl (by omega) rfl ?_
      refine to_as rfl rfl ?_
      refine to_nil ?_
      exact tn_loop2 ((k + 1, a43, c43, a55, c55)) [.row a43 (k + 1) c43 3 1 (ints ((restL (q0 b pr b.hands.toNat) b.hands.toNat).take k) ++ [[.int .i64 (pr * ownK b b.lines.length k / allS b)]]), .row a55 (k + 1) c55 3 1 (ints ((restL (restR b pr 0) b.hands.toNat).take k) ++ [[.int .i64 (pr * ownK b b.lines.length k - pr * ownK b b.lines.length k / allS b * allS b)]]), .own b2 (isC (bkC b a c) 24), .snap 0 w.heap.size w] (by dsimp only; rw [take_snoc (q0_get hkn), ints_snoc, take_snoc (r0_get hkn), ints_snoc]) (by dsimp only; omega) (by dsimp only; omega) (⟨rfl, rfl, rfl, congrArg (fun z => some (Value.int .i64 z)) (by rw [sumI_take (q0_get hkn)]; omega), rfl, rfl, rfl, trivial⟩)
    · try simp only [decide_eq_true_eq, decide_eq_false_iff_not, Bool.not_eq_true', Bool.not_eq_false', Int.not_lt, Int.not_le, ne_eq, Decidable.not_not] at h2
      try have h2b := inB_iff.1 h2
      have hk2 : k = b.hands.toNat := by
        have h9 := in_hand (b := b) (k := k) (by omega)
        have h8 := h2
        rw [h8] at h9
        have := of_decide_eq_false h9.symm
        omega
      subst hk2
      have hMb := shM_b (pr := pr) hb hap
      have hMe : shM b pr = pr - sumI (restL (q0 b pr b.hands.toNat) b.hands.toNat) := rfl
      have hq9 : (restL (q0 b pr b.hands.toNat) b.hands.toNat).take b.hands.toNat = (restL (q0 b pr b.hands.toNat) b.hands.toNat) := List.take_of_length_le (by rw [restL_len]; exact Nat.le_refl _)
      have hr9 : (restL (restR b pr 0) b.hands.toNat).take b.hands.toNat = (restL (restR b pr 0) b.hands.toNat) := List.take_of_length_le (by rw [restL_len]; exact Nat.le_refl _)
      refine t_exit ?_
      refine tx_code ?_
      refine tx_inv ?_
      refine tx_blk ?_
      refine tn_code ?_
      refine t_seq ?_
      refine t_blk ?_
      refine t_loop2 (ι := Nat) (fun m => (m : Int) ≤ shM b pr) (fun m => [(1, (.int .i64 pr)), (2, (.pointer (some ⟨b2, 0, none⟩))), (6, (.int .i64 (allS b))), (7, (.int .i64 (shM b pr - m))), (9, .slice a' b.hands.toNat c'), (10, .slice a2 b.hands.toNat c2)]) (fun m => [.row a' b.hands.toNat c' 3 1 (ints (restL (shSt b pr m).1 b.hands.toNat)), .row a2 b.hands.toNat c2 3 1 (ints (restL (restR b pr m) b.hands.toNat)), .own b2 (isC (bkC b a c) 24), .snap 0 w.heap.size w]) (fun m => (shM b pr).toNat - m) (0) [.row a' b.hands.toNat c' 3 1 (ints ((restL (q0 b pr b.hands.toNat) b.hands.toNat).take b.hands.toNat)), .row a2 b.hands.toNat c2 3 1 (ints ((restL (restR b pr 0) b.hands.toNat).take b.hands.toNat)), .own b2 (isC (bkC b a c) 24), .snap 0 w.heap.size w] (by rw [hq9, hr9]; rfl) (hMb.1) (⟨rfl, rfl, rfl, congrArg (fun z => some (Value.int .i64 z)) (by rw [hq9, hMe]; simp), rfl, rfl, trivial⟩) ?_
      rintro m hk
      show T _ _ _ ⟨_, [(1, (.int .i64 pr)), (2, (.pointer (some ⟨b2, 0, none⟩))), (6, (.int .i64 (allS b))), (7, (.int .i64 (shM b pr - m))), (9, .slice a' b.hands.toNat c'), (10, .slice a2 b.hands.toNat c2)], _⟩ [.row a' b.hands.toNat c' 3 1 (ints (restL (shSt b pr m).1 b.hands.toNat)), .row a2 b.hands.toNat c2 3 1 (ints (restL (restR b pr m) b.hands.toNat)), .own b2 (isC (bkC b a c) 24), .snap 0 w.heap.size w]
      refine t_seq ?_
      refine t_seq ?_
      refine t_reg ?_
      refine to_mv rfl rfl ?_
      refine to_gtr rfl rfl rfl ?_
      refine to_nil ?_
      refine tn_code ?_
      refine t_if rfl (fun h3 => ?_) (fun h3 => ?_)
      · try simp only [decide_eq_true_eq, decide_eq_false_iff_not, Bool.not_eq_true', Bool.not_eq_false', Int.not_lt, Int.not_le, ne_eq, Decidable.not_not] at h3
        try have h3b := inB_iff.1 h3
        have hmM : (m : Int) < shM b pr := by omega
        have hbs := bestR_spec (restR b pr m) b.hands.toNat
        have hbg := best_gain (pr := pr) hap (m := m) (by omega)
        have hq1 := hbs.2.2.1
        have hq2 : (bestR (restR b pr m) b.hands.toNat) < (b.hands.toNat : Nat) := by have := hbs.2.2.2; omega
        have hfb := shSt_b hb hpb hap m (bestR (restR b pr m) b.hands.toNat)
        have hx7 := map_get (f := intC) (restL_at (g := (shSt b pr m).1) hq1 hq2)
        have hx8 := map_get (f := intC) (restL_at (g := (restR b pr m)) hq1 hq2)
        refine t_skip ?_
        refine tn_code ?_
        refine t_blk ?_
        refine t_seq ?_
        refine t_reg ?_
        refine to_as rfl rfl ?_
        refine to_nil ?_
        refine tn_code ?_
        refine t_seq ?_
        refine t_seq ?_
        refine t_reg ?_
        refine to_as rfl rfl ?_
        refine to_nil ?_
        refine tn_code ?_
        refine t_blk ?_
        refine t_loop2 (ι := Nat) (fun k => k ≤ b.hands.toNat) (fun k => [(1, (.int .i64 pr)), (2, (.pointer (some ⟨b2, 0, none⟩))), (6, (.int .i64 (allS b))), (7, (.int .i64 (shM b pr - m))), (9, .slice a' b.hands.toNat c'), (10, .slice a2 b.hands.toNat c2), (13, (.int .i64 (bestR (restR b pr m) k))), (14, (.int .i64 (k : Int)))]) (fun k => [.row a' b.hands.toNat c' 3 1 (ints (restL (shSt b pr m).1 b.hands.toNat)), .row a2 b.hands.toNat c2 3 1 (ints (restL (restR b pr m) b.hands.toNat)), .own b2 (isC (bkC b a c) 24), .snap 0 w.heap.size w]) (fun k => b.hands.toNat - k) (0) [.row a' b.hands.toNat c' 3 1 (ints (restL (shSt b pr m).1 b.hands.toNat)), .row a2 b.hands.toNat c2 3 1 (ints (restL (restR b pr m) b.hands.toNat)), .own b2 (isC (bkC b a c) 24), .snap 0 w.heap.size w] (rfl) (Nat.zero_le _) (⟨rfl, rfl, rfl, rfl, rfl, rfl, rfl, rfl, trivial⟩) ?_
        rintro k hk
        show T _ _ _ ⟨_, [(1, (.int .i64 pr)), (2, (.pointer (some ⟨b2, 0, none⟩))), (6, (.int .i64 (allS b))), (7, (.int .i64 (shM b pr - m))), (9, .slice a' b.hands.toNat c'), (10, .slice a2 b.hands.toNat c2), (13, (.int .i64 (bestR (restR b pr m) k))), (14, (.int .i64 (k : Int)))], _⟩ [.row a' b.hands.toNat c' 3 1 (ints (restL (shSt b pr m).1 b.hands.toNat)), .row a2 b.hands.toNat c2 3 1 (ints (restL (restR b pr m) b.hands.toNat)), .own b2 (isC (bkC b a c) 24), .snap 0 w.heap.size w]
        refine t_seq ?_
        refine t_seq ?_
        refine t_reg ?_
        refine to_mv rfl rfl ?_
        refine to_mv rfl rfl ?_
        refine to_lenS rfl rfl ?_
        refine to_lss rfl rfl rfl ?_
        refine to_nil ?_
        refine tn_code ?_
        refine t_if rfl (fun h4 => ?_) (fun h4 => ?_)
        · try simp only [decide_eq_true_eq, decide_eq_false_iff_not, Bool.not_eq_true', Bool.not_eq_false', Int.not_lt, Int.not_le, ne_eq, Decidable.not_not] at h4
          try have h4b := inB_iff.1 h4
          have hkn : k < b.hands.toNat := by omega
          have hbk := bestR_spec (restR b pr m) k
          have hk1 := hbk.2.2.1
          have hk2 : bestR (restR b pr m) k < (b.hands.toNat : Nat) := by have := hbk.2.2.2; omega
          have hx1 := map_get (f := intC) (restL_get (g := (restR b pr m)) hkn)
          have hx2 := map_get (f := intC) (restL_at (g := (restR b pr m)) hk1 hk2)
          refine t_skip ?_
          refine tn_code ?_
          refine t_seq ?_
          refine t_blk ?_
          refine t_seq ?_
          refine t_regD rfl (by kernel_rfl) (by kernel_rfl) ?_
          refine to_mv rfl rfl ?_
          refine to_mv rfl rfl ?_
          first | refine to_ix rfl rfl rfl (by first | omega | decide) (by first | omega | decide) rfl ?_ | refine to_ixi rfl rfl rfl (by omega) (by omega) (by omega) rfl ?_
          first | refine to_lds rfl rfl rfl ?_ | refine to_ldes rfl (by assumption) rfl rfl ?_
          refine to_mv rfl rfl ?_
          refine to_mv rfl rfl ?_
          first | refine to_ix rfl rfl rfl (by first | omega | decide) (by first | omega | decide) rfl ?_ | refine to_ixi rfl rfl rfl (by omega) (by omega) (by omega) rfl ?_
          first | refine to_lds rfl rfl rfl ?_ | refine to_ldes rfl (by assumption) rfl rfl ?_
          refine to_gtr rfl rfl rfl ?_
          refine to_nil ?_
          refine tn_code ?_
          refine t_if rfl (fun h5 => ?_) (fun h5 => ?_)
          · try simp only [decide_eq_true_eq, decide_eq_false_iff_not, Bool.not_eq_true', Bool.not_eq_false', Int.not_lt, Int.not_le, ne_eq, Decidable.not_not] at h5
            try have h5b := inB_iff.1 h5
            refine t_reg ?_
            refine to_mv rfl rfl ?_
            refine to_as rfl rfl ?_
            refine to_nil ?_
            refine tn_blk ?_
            refine tn_code ?_
            refine t_reg ?_
            refine to_mv rfl rfl ?_
            refine to_add rfl rfl (by omega) rfl ?_
            refine to_as rfl rfl ?_
            refine to_nil ?_
            exact tn_loop2 (k + 1) [.row a' b.hands.toNat c' 3 1 (ints (restL (shSt b pr m).1 b.hands.toNat)), .row a2 b.hands.toNat c2 3 1 (ints (restL (restR b pr m) b.hands.toNat)), .own b2 (isC (bkC b a c) 24), .snap 0 w.heap.size w] (rfl) (by omega) (by omega) (⟨rfl, rfl, rfl, rfl, rfl, rfl, congrArg (fun z => some (Value.int .i64 z)) (show (k : Int) = bestR (restR b pr m) (k + 1) from by simp only [bestR]; rw [if_pos (by assumption)]), rfl, trivial⟩)
          · try simp only [decide_eq_true_eq, decide_eq_false_iff_not, Bool.not_eq_true', Bool.not_eq_false', Int.not_lt, Int.not_le, ne_eq, Decidable.not_not] at h5
            try have h5b := inB_iff.1 h5
            refine t_skip ?_
            refine tn_blk ?_
            refine tn_code ?_
            refine t_reg ?_
            refine to_mv rfl rfl ?_
            refine to_add rfl rfl (by omega) rfl ?_
            refine to_as rfl rfl ?_
            refine to_nil ?_
            exact tn_loop2 (k + 1) [.row a' b.hands.toNat c' 3 1 (ints (restL (shSt b pr m).1 b.hands.toNat)), .row a2 b.hands.toNat c2 3 1 (ints (restL (restR b pr m) b.hands.toNat)), .own b2 (isC (bkC b a c) 24), .snap 0 w.heap.size w] (rfl) (by omega) (by omega) (⟨rfl, rfl, rfl, rfl, rfl, rfl, congrArg (fun z => some (Value.int .i64 z)) (show bestR (restR b pr m) k = bestR (restR b pr m) (k + 1) from by simp only [bestR]; rw [if_neg (by omega)]), rfl, trivial⟩)
        · try simp only [decide_eq_true_eq, decide_eq_false_iff_not, Bool.not_eq_true', Bool.not_eq_false', Int.not_lt, Int.not_le, ne_eq, Decidable.not_not] at h4
          try have h4b := inB_iff.1 h4
          have hk2 : k = b.hands.toNat := by omega
          subst hk2
          refine t_exit ?_
          refine tx_code ?_
          refine tx_inv ?_
          refine tx_blk ?_
          refine tn_code ?_
          refine t_seq ?_
          refine t_reg ?_
          refine to_mv rfl rfl ?_
          refine to_mv rfl rfl ?_
          refine to_mv rfl rfl ?_
          refine to_mv rfl rfl ?_
          first | refine to_ix rfl rfl rfl (by first | omega | decide) (by first | omega | decide) rfl ?_ | refine to_ixi rfl rfl rfl (by omega) (by omega) (by omega) rfl ?_
          first | refine to_lds rfl rfl rfl ?_ | refine to_ldes rfl (by assumption) rfl rfl ?_
          refine to_add rfl rfl (by omega) rfl ?_
          first | refine to_ix rfl rfl rfl (by first | omega | decide) (by first | omega | decide) rfl ?_ | refine to_ixi rfl rfl rfl (by omega) (by omega) (by omega) rfl ?_
          first | refine to_st rfl rfl rfl rfl ?_ | refine to_ste rfl rfl (by assumption) rfl rfl ?_
          refine to_nil ?_
          refine tn_code ?_
          refine t_seq ?_
          refine t_reg ?_
          refine to_mv rfl rfl ?_
          refine to_mv rfl rfl ?_
          first | refine to_ix rfl rfl rfl (by first | omega | decide) (by first | omega | decide) rfl ?_ | refine to_ixi rfl rfl rfl (by omega) (by omega) (by omega) rfl ?_
          first | refine to_st rfl rfl rfl rfl ?_ | refine to_ste rfl rfl (by assumption) rfl rfl ?_
          refine to_nil ?_
          refine tn_code ?_
          refine t_reg ?_
          refine to_mv rfl rfl ?_
          refine to_sub rfl rfl (by omega) rfl ?_
          refine to_as rfl rfl ?_
          refine to_nil ?_
          refine tn_blk ?_
          exact tn_loop2 (m + 1) [.row a' b.hands.toNat c' 3 1 ((ints (restL (shSt b pr m).1 b.hands.toNat)).set (bestR (restR b pr m) b.hands.toNat).toNat [.int .i64 ((shSt b pr m).1 (bestR (restR b pr m) b.hands.toNat) + 1)]), .row a2 b.hands.toNat c2 3 1 ((ints (restL (restR b pr m) b.hands.toNat)).set (bestR (restR b pr m) b.hands.toNat).toNat [.int .i64 (-1)]), .own b2 (isC (bkC b a c) 24), .snap 0 w.heap.size w] (by rw [restL_put hq1 hq2, restL_put hq1 hq2, hbg]; simp only [shSt, restR, hbg]) (by omega) (by omega) (⟨rfl, rfl, rfl, congrArg (fun z => some (Value.int .i64 z)) (by omega), rfl, rfl, trivial⟩)
      · try simp only [decide_eq_true_eq, decide_eq_false_iff_not, Bool.not_eq_true', Bool.not_eq_false', Int.not_lt, Int.not_le, ne_eq, Decidable.not_not] at h3
        try have h3b := inB_iff.1 h3
        have hmM : m = (shM b pr).toNat := by omega
        subst hmM
        refine t_exit ?_
        refine tx_code ?_
        refine tx_inv ?_
        refine tx_blk ?_
        refine tn_code ?_
        refine t_seq ?_
        refine t_reg ?_
        refine to_mv rfl rfl ?_
        refine to_as rfl rfl ?_
        refine to_as rfl rfl ?_
        refine to_nil ?_
        refine tn_code ?_
        refine t_ret2 rfl rfl (res_tmp rfl) (res_tmp rfl) (fun w' s => ?_)
        rw [RSlB, restL_len]
        exact ⟨_, _, rfl, ro_row s⟩

end Go.Proofs


namespace Go.Proofs
open Go Go.Sx Go.RowKit

/-! # Why the shares are just -/

theorem sum_flt {g : Int → Int} : ∀ {xs : List Int} {h : Int}, xs.Nodup → h ∈ xs → sumI ((flt (fun n => decide (n = h)) xs).map g) = sumI (xs.map g) - g h
  | x :: xs, h, hn, hm => by
    have hn' := List.nodup_cons.1 hn
    by_cases hx : x = h
    · subst hx
      have h1 : flt (fun n => decide (n = x)) (x :: xs) = xs := by
        have : flt (fun n => decide (n = x)) xs = xs := by
          simp only [flt]
          rw [List.filter_eq_self]
          intro a ha
          simp
          intro he
          subst he
          exact hn'.1 ha
        simp only [flt] at this ⊢
        simp [List.filter_cons, this]
      rw [h1, List.map_cons, sumI_cons]; omega
    · have hm2 : h ∈ xs := by
        rcases List.mem_cons.1 hm with h1 | h1
        · exact absurd h1.symm hx
        · exact h1
      have ih := sum_flt (g := g) hn'.2 hm2
      have h1 : flt (fun n => decide (n = h)) (x :: xs) = x :: flt (fun n => decide (n = h)) xs := by simp [flt, List.filter_cons, hx]
      rw [h1, List.map_cons, List.map_cons, sumI_cons, sumI_cons, ih]; omega
theorem sum_pos {g : Int → Int} : ∀ {xs : List Int}, 0 < sumI (xs.map g) → ∃ x ∈ xs, 0 < g x
  | [], h => by simp [sumI] at h
  | x :: xs, h => by
    rw [List.map_cons, sumI_cons] at h
    by_cases hx : 0 < g x
    · exact ⟨x, List.mem_cons_self .., hx⟩
    · obtain ⟨y, h1, h2⟩ := sum_pos (g := g) (xs := xs) (by omega)
      exact ⟨y, List.mem_cons_of_mem _ h1, h2⟩
theorem restL_snoc (f : Int → Int) (n : Nat) : restL f (n + 1) = restL f n ++ [f n] := by simp [restL, List.range_succ]
theorem sum_upd {f : Int → Int} {q v : Int} (h0 : 0 ≤ q) : ∀ n : Nat, sumI (restL (upd f q v) n) = sumI (restL f n) + (if q < n then v - f q else 0)
  | 0 => by simp [restL, sumI, h0]; omega
  | n + 1 => by
    rw [restL_snoc, restL_snoc, sumI_snoc, sumI_snoc, sum_upd h0 n]
    simp only [upd]
    by_cases hq : (n : Int) = q
    · rw [if_pos hq, if_neg (by omega), if_pos (by omega), hq]; omega
    · rw [if_neg hq]
      by_cases h2 : q < n
      · rw [if_pos h2, if_pos (by omega)]; omega
      · rw [if_neg h2, if_neg (by omega)]; omega
theorem sum_le {f : Int → Int} : ∀ {n : Nat}, (∀ j : Nat, j < n → 0 ≤ f j) → ∀ k : Nat, k < n → f k ≤ sumI (restL f n)
  | 0, _, k, hk => by omega
  | n + 1, h, k, hk => by
    have hnn : 0 ≤ sumI (restL f n) := sumI_nn (fun z hz => by
      simp only [restL, List.mem_map, List.mem_range] at hz
      obtain ⟨j, hj, rfl⟩ := hz
      exact h j (by omega))
    have hn := h n (by omega)
    rw [restL_snoc, sumI_snoc]
    by_cases hkn : k = n
    · subst hkn; omega
    · have := sum_le (n := n) (fun j hj => h j (by omega)) k (by omega)
      omega

section
variable {b : Bk} {pr : Int}
theorem share_at : ∀ m, m ≤ b.hands.toNat → ∀ j : Nat, j < b.hands.toNat → (shSt b pr m).1 j = q0 b pr b.hands.toNat j + (if (j : Int) ∈ (shSt b pr m).2 then 0 else 1)
  | 0, _, j, hj => by
    have hmem : (j : Int) ∈ (shSt b pr 0).2 := by simp only [shSt, lefs, List.mem_map, List.mem_range]; exact ⟨j, hj, rfl⟩
    rw [if_pos hmem]; simp [shSt]
  | m + 1, hm, j, hj => by
    obtain ⟨h1, h2, h3⟩ := shSt_inv (b := b) (pr := pr) m (by omega)
    have hg := bestI_mem (p := shP pr (allS b) (ownL b)) (xs := (shSt b pr m).2) (by omega)
    have ih := share_at m (by omega) j hj
    have hiff : (j : Int) ∈ (shSt b pr (m + 1)).2 ↔ (j : Int) ∈ (shSt b pr m).2 ∧ (j : Int) ≠ gainS b pr m := by
      simp only [shSt, flt, List.mem_filter]; simp
    have hf : (shSt b pr (m + 1)).1 j = if (j : Int) = gainS b pr m then (shSt b pr m).1 (gainS b pr m) + 1 else (shSt b pr m).1 j := by simp only [shSt, upd]
    rw [hf]
    by_cases hjg : (j : Int) = gainS b pr m
    · rw [if_pos hjg, if_neg (fun h => (hiff.1 h).2 hjg), ← hjg, ih, if_pos (by rw [hjg]; exact hg)]; omega
    · rw [if_neg hjg, ih]
      by_cases hmem : (j : Int) ∈ (shSt b pr m).2
      · rw [if_pos hmem, if_pos (hiff.2 ⟨hmem, hjg⟩)]
      · rw [if_neg hmem, if_neg (fun h => hmem (hiff.1 h).1)]
theorem share_sum (hb : isBk b = true) (ha : 0 < allS b) : ∀ m, m ≤ b.hands.toNat → sumI (restL (shSt b pr m).1 b.hands.toNat) = sumI (restL (q0 b pr b.hands.toNat) b.hands.toNat) + m
  | 0, _ => by simp [shSt]
  | m + 1, hm => by
    obtain ⟨h1, h2, h3⟩ := shSt_inv (b := b) (pr := pr) m (by omega)
    have hg := h3 _ (bestI_mem (p := shP pr (allS b) (ownL b)) (xs := (shSt b pr m).2) (by omega))
    simp only [shSt]
    rw [sum_upd hg.1, if_pos (by omega), share_sum hb ha m (by omega)]
    omega
theorem q0_atN {b : Bk} {pr : Int} {k : Nat} (hk : k < b.hands.toNat) : (restL (q0 b pr b.hands.toNat) b.hands.toNat)[k]? = some (pr * ownK b b.lines.length k / allS b) := by
  rw [restL_get hk]; simp only [q0]; rw [if_pos (by omega)]
theorem rem_sum (ha : 0 < allS b) : ∀ n : Nat, n ≤ b.hands.toNat → sumI ((lefs n).map (remS b pr)) = pr * sumI ((ownL b).take n) - allS b * sumI ((restL (q0 b pr b.hands.toNat) b.hands.toNat).take n)
  | 0, _ => by simp [lefs, sumI]
  | n + 1, hn => by
    have h1 : lefs (n + 1) = lefs n ++ [(n : Int)] := by simp [lefs, List.range_succ]
    have h2 := q0_atN (b := b) (pr := pr) (k := n) (by omega)
    rw [h1, List.map_append, List.map_cons, List.map_nil, sumI_snoc, rem_sum ha n (by omega), sumI_take (ownL_get (by omega)), sumI_take h2, remS_own (by omega), Int.emod_def, Int.mul_add, Int.mul_add]
    omega
theorem rem_all (ha : 0 < allS b) : sumI ((lefs b.hands.toNat).map (remS b pr)) = allS b * shM b pr := by
  rw [rem_sum ha _ (Nat.le_refl _), List.take_of_length_le (by rw [ownL_len]; exact Nat.le_refl _), List.take_of_length_le (by rw [restL_len]; exact Nat.le_refl _)]
  simp only [shM]
  rw [Int.mul_sub, show sumI (ownL b) = allS b from rfl, Int.mul_comm pr]
theorem left_sum (ha : 0 < allS b) : ∀ m, m ≤ b.hands.toNat → allS b * shM b pr - m * (allS b - 1) ≤ sumI ((shSt b pr m).2.map (remS b pr))
  | 0, _ => by
    have := rem_all (pr := pr) ha
    simp only [shSt]; rw [this]; simp
  | m + 1, hm => by
    obtain ⟨h1, h2, h3⟩ := shSt_inv (b := b) (pr := pr) m (by omega)
    have hg := bestI_mem (p := shP pr (allS b) (ownL b)) (xs := (shSt b pr m).2) (by omega)
    have ih := left_sum ha m (by omega)
    have hr := rem_nn (pr := pr) ha (gainS b pr m)
    have e : ((m + 1 : Nat) : Int) * (allS b - 1) = m * (allS b - 1) + (allS b - 1) := by rw [Int.natCast_add, Int.add_mul]; simp
    simp only [shSt]
    rw [sum_flt h2 hg, e]
    show _ ≤ sumI ((shSt b pr m).2.map (remS b pr)) - remS b pr (gainS b pr m)
    omega
theorem gain_pos (hb : isBk b = true) (ha : 0 < allS b) {m : Nat} (hm : (m : Int) < shM b pr) : 0 < remS b pr (gainS b pr m) := by
  have hM := shM_b (pr := pr) hb ha
  obtain ⟨h1, h2, h3⟩ := shSt_inv (b := b) (pr := pr) m (by omega)
  have hl := left_sum (pr := pr) ha m (by omega)
  have h4 : allS b * (m + 1) ≤ allS b * shM b pr := Int.mul_le_mul_of_nonneg_left (by omega) (by omega)
  have e1 : allS b * (m + 1) = allS b * m + allS b := by rw [Int.mul_add, Int.mul_one]
  have e2 : (m : Int) * (allS b - 1) = allS b * m - m := by rw [Int.mul_sub, Int.mul_one, Int.mul_comm]
  obtain ⟨x, hx1, hx2⟩ := sum_pos (g := remS b pr) (xs := (shSt b pr m).2) (by omega)
  have := (bestI_spec (g := remS b pr) (fun x y => shP_rem b pr x y) (shSt_up (b := b) (pr := pr) m) (by omega)).2 x hx1
  show 0 < remS b pr (bestI (shP pr (allS b) (ownL b)) (shSt b pr m).2)
  omega
theorem gained_pos (hb : isBk b = true) (ha : 0 < allS b) : ∀ m : Nat, (m : Int) ≤ shM b pr → ∀ j : Nat, j < b.hands.toNat → (j : Int) ∉ (shSt b pr m).2 → 0 < remS b pr j
  | 0, _, j, hj, hn => by
    exfalso; apply hn; simp only [shSt, lefs, List.mem_map, List.mem_range]; exact ⟨j, hj, rfl⟩
  | m + 1, hm, j, hj, hn => by
    by_cases hmem : (j : Int) ∈ (shSt b pr m).2
    · have hjg : (j : Int) = gainS b pr m := by
        by_cases hjg : (j : Int) = gainS b pr m
        · exact hjg
        · exfalso; apply hn; simp only [shSt, flt, List.mem_filter]; simp; exact ⟨hmem, hjg⟩
      rw [hjg]; exact gain_pos hb ha (by omega)
    · exact gained_pos hb ha m (by omega) j hj hmem
theorem gained_first (hb : isBk b = true) (ha : 0 < allS b) {x y : Nat} (hxy : x < y) (he : remS b pr x = remS b pr y) : ∀ m : Nat, (m : Int) ≤ shM b pr → (y : Int) ∉ (shSt b pr m).2 → y < b.hands.toNat → (x : Int) ∉ (shSt b pr m).2
  | 0, _, hn, hy => by
    exfalso; apply hn; simp only [shSt, lefs, List.mem_map, List.mem_range]; exact ⟨y, hy, rfl⟩
  | m + 1, hm, hn, hy => by
    have hM := shM_b (pr := pr) hb ha
    obtain ⟨h1, h2, h3⟩ := shSt_inv (b := b) (pr := pr) m (by omega)
    have hsub : ∀ z : Int, z ∈ (shSt b pr (m + 1)).2 → z ∈ (shSt b pr m).2 := fun z hz => by
      simp only [shSt, flt, List.mem_filter] at hz; exact hz.1
    by_cases hmem : (y : Int) ∈ (shSt b pr m).2
    · have hjg : (y : Int) = gainS b pr m := by
        by_cases hjg : (y : Int) = gainS b pr m
        · exact hjg
        · exfalso; apply hn; simp only [shSt, flt, List.mem_filter]; simp; exact ⟨hmem, hjg⟩
      intro hx
      have hx' := hsub _ hx
      have := (bestI_spec (g := remS b pr) (fun x y => shP_rem b pr x y) (shSt_up (b := b) (pr := pr) m) (by omega)).2 _ hx'
      have h9 : bestI (shP pr (allS b) (ownL b)) (shSt b pr m).2 = (y : Int) := hjg.symm
      rw [h9] at this
      have := this.2 (by omega)
      omega
    · exact fun hx => gained_first hb ha hxy he m (by omega) hmem hy (hsub _ hx)

/-- The shares. -/
abbrev shF (b : Bk) (pr : Int) : Int → Int := (shSt b pr (shM b pr).toNat).1
theorem shF_sum (hb : isBk b = true) (ha : 0 < allS b) : sumI (restL (shF b pr) b.hands.toNat) = pr := by
  have hM := shM_b (pr := pr) hb ha
  rw [share_sum hb ha _ (by omega), show (((shM b pr).toNat : Nat) : Int) = shM b pr from Int.toNat_of_nonneg hM.1]
  simp only [shM]; omega
theorem shF_b (hb : isBk b = true) (hp : 0 ≤ pr ∧ pr ≤ 959999) (ha : 0 < allS b) {j : Nat} (hj : j < b.hands.toNat) : 0 ≤ shF b pr j ∧ shF b pr j ≤ pr := by
  have h1 := shSt_b hb hp ha (shM b pr).toNat
  have h2 := sum_le (f := shF b pr) (fun j _ => (h1 j).1) j hj
  rw [shF_sum hb ha] at h2
  exact ⟨(h1 j).1, h2⟩
theorem shF_eq (hb : isBk b = true) (ha : 0 < allS b) {j : Nat} (hj : j < b.hands.toNat) : ∃ d : Int, (d = 0 ∨ (d = 1 ∧ 0 < remS b pr j)) ∧ shF b pr j = pr * ownK b b.lines.length j / allS b + d ∧ (d = 0 ↔ (j : Int) ∈ (shSt b pr (shM b pr).toNat).2) := by
  have hM := shM_b (pr := pr) hb ha
  have h1 := share_at (b := b) (pr := pr) (shM b pr).toNat (by omega) j hj
  have h2 : q0 b pr b.hands.toNat j = pr * ownK b b.lines.length j / allS b := by simp only [q0]; rw [if_pos (by omega)]
  rw [h2] at h1
  by_cases hmem : (j : Int) ∈ (shSt b pr (shM b pr).toNat).2
  · rw [if_pos hmem] at h1
    exact ⟨0, .inl rfl, h1, fun _ => hmem, fun _ => rfl⟩
  · rw [if_neg hmem] at h1
    exact ⟨1, .inr ⟨rfl, gained_pos hb ha _ (by omega) j hj hmem⟩, h1, fun h => absurd h (by decide), fun h => absurd h hmem⟩
theorem shF_near (hb : isBk b = true) (ha : 0 < allS b) {j : Nat} (hj : j < b.hands.toNat) : -(allS b) < shF b pr j * allS b - pr * ownK b b.lines.length j ∧ shF b pr j * allS b - pr * ownK b b.lines.length j < allS b := by
  obtain ⟨d, h1, h2, _⟩ := shF_eq (pr := pr) hb ha hj
  have h3 := rem_nn (pr := pr) ha j
  rw [remS_own hj, Int.emod_def] at h3
  rw [remS_own hj, Int.emod_def] at h1
  rw [h2, Int.add_mul, Int.mul_comm _ (allS b)]
  rcases h1 with rfl | ⟨rfl, h1⟩
  · rw [Int.zero_mul]; omega
  · rw [Int.one_mul]; omega
theorem shF_none (hb : isBk b = true) (ha : 0 < allS b) {j : Nat} (hj : j < b.hands.toNat) (h0 : ownK b b.lines.length j = 0) : shF b pr j = 0 := by
  obtain ⟨d, h1, h2, _⟩ := shF_eq (pr := pr) hb ha hj
  rw [remS_own hj, h0] at h1
  rw [h2, h0]
  simp at h1 ⊢
  exact h1
theorem shF_same (hb : isBk b = true) (ha : 0 < allS b) {x y : Nat} (hxy : x < y) (hy : y < b.hands.toNat) (he : ownK b b.lines.length x = ownK b b.lines.length y) : shF b pr y ≤ shF b pr x ∧ shF b pr x - shF b pr y ≤ 1 := by
  have hM := shM_b (pr := pr) hb ha
  obtain ⟨d, h1, h2, h3⟩ := shF_eq (pr := pr) hb ha (show x < b.hands.toNat by omega)
  obtain ⟨d', h4, h5, h6⟩ := shF_eq (pr := pr) hb ha hy
  have hr : remS b pr x = remS b pr y := by rw [remS_own (by omega), remS_own hy, he]
  have hf := gained_first (pr := pr) hb ha hxy hr (shM b pr).toNat (by omega)
  rw [h2, h5, he]
  by_cases hd : d' = 0
  · rcases h1 with h1 | h1 <;> omega
  · have : (y : Int) ∉ (shSt b pr (shM b pr).toNat).2 := fun h => hd (h6.2 h)
    have hx := hf this hy
    have : d ≠ 0 := fun h => hx (h3.1 h)
    rcases h1 with h1 | h1 <;> rcases h4 with h4 | h4 <;> omega
end
end Go.Proofs


namespace Go.Proofs
open Go Go.Sx Go.RowKit

theorem c_share {b : Bk} {a : Option Addr} {c : Nat} {pr : Int} {w : World} {xs : List Int} {e : Int} (hr : Ro w 0 w.heap.size a b.lines.length c 10 (b.lines.map linC)) (h : payShare b pr = (xs, e)) : Calls Tryz.prog 14 #[bkV b a c, .int .i64 pr] w (Ret w (RSlE xs e)) := by
  have := pay_Share b a c pr w hr
  rw [h] at this; exact this

end Go.Proofs


namespace Go.Proofs
open Go Go.Sx Go.RowKit

set_option maxRecDepth 20000 in
theorem w_PayJust_bf (b : Bk) (a : Option Addr) (c : Nat) (pr one ot : Int) (w : World) (hr : Ro w 0 w.heap.size a b.lines.length c 10 (b.lines.map linC)) (hb : isBk b = false) (hg : Gl w) : Calls Tryz.prog 4 #[bkV b a c, (.int .i64 pr), (.int .i64 one), (.int .i64 ot)] w (RetV w (.bool true)) := by
  refine calls_T0 (av := [_, _, _, _]) Tryz.func4 rfl rfl rfl ?_
  refine t_seq ?_
  refine t_reg ?_
  refine to_box rfl rfl (fun b4 => ?_)
  refine to_as rfl rfl ?_
  refine to_nil ?_
  refine tn_code ?_
  refine t_seq ?_
  refine t_seq ?_
  refine t_reg ?_
  first | refine to_lda rfl rfl rfl ?_ | refine to_ldea rfl (by assumption) rfl rfl ?_
  refine to_call0 rfl rfl (fun w s => law_right b a c w (rdw s)) rfl ?_
  refine to_fix (s := 19) (b' := false) rfl (hb) ?_
  refine to_not rfl rfl ?_
  refine to_mv rfl rfl ?_
  refine to_gf rfl rfl rfl rfl ?_
  refine to_gf rfl rfl rfl rfl ?_
  refine to_gf rfl rfl rfl rfl ?_
  refine to_pkT rfl rfl rfl ?_
  refine to_mv rfl rfl ?_
  refine to_gf rfl rfl rfl rfl ?_
  refine to_gf rfl rfl rfl rfl ?_
  refine to_gf rfl rfl rfl rfl ?_
  refine to_gf rfl rfl rfl rfl ?_
  refine to_pkT rfl rfl rfl ?_
  refine to_mv rfl rfl ?_
  refine to_gf rfl rfl rfl rfl ?_
  refine to_gf rfl rfl rfl rfl ?_
  refine to_gf rfl rfl rfl rfl ?_
  refine to_gf rfl rfl rfl rfl ?_
  refine to_pkT rfl rfl rfl ?_
  refine to_mv rfl rfl ?_
  refine to_gf rfl rfl rfl rfl ?_
  refine to_gf rfl rfl rfl rfl ?_
  refine to_gf rfl rfl rfl rfl ?_
  refine to_pkT rfl rfl rfl ?_
  refine to_nil ?_
  refine tn_code ?_
  refine t_ifT rfl ?_
  refine t_seq ?_
  refine t_reg ?_
  refine to_call0 rfl rfl (fun w s => law_known w (gl_up hg (belowH_of s))) rfl ?_
  refine to_as rfl rfl ?_
  refine to_nil ?_
  refine tn_code ?_
  refine t_ret1 rfl rfl (res_tmp rfl) (fun w' s => ?_)
  rfl

set_option maxRecDepth 20000 in
theorem w_PayJust_sf (b : Bk) (a : Option Addr) (c : Nat) (pr one ot : Int) (w : World) (hr : Ro w 0 w.heap.size a b.lines.length c 10 (b.lines.map linC)) (hb : isBk b = true) (hs : isSum pr = false) (hg : Gl w) : Calls Tryz.prog 4 #[bkV b a c, (.int .i64 pr), (.int .i64 one), (.int .i64 ot)] w (RetV w (.bool true)) := by
  have hbb := isBk_b hb
  refine calls_T0 (av := [_, _, _, _]) Tryz.func4 rfl rfl rfl ?_
  refine t_seq ?_
  refine t_reg ?_
  refine to_box rfl rfl (fun b4 => ?_)
  refine to_as rfl rfl ?_
  refine to_nil ?_
  refine tn_code ?_
  refine t_seq ?_
  refine t_seq ?_
  refine t_reg ?_
  first | refine to_lda rfl rfl rfl ?_ | refine to_ldea rfl (by assumption) rfl rfl ?_
  refine to_call0 rfl rfl (fun w s => law_right b a c w (rdw s)) rfl ?_
  refine to_fix (s := 19) (b' := true) rfl (hb) ?_
  refine to_not rfl rfl ?_
  refine to_mv rfl rfl ?_
  refine to_gt rfl rfl ?_
  refine to_mv rfl rfl ?_
  refine to_gt rfl rfl ?_
  refine to_call0 rfl rfl (fun w s => ref_Sum _ w) rfl ?_
  refine to_fix (s := 23) (b' := false) rfl (hs) ?_
  refine to_gt rfl rfl ?_
  refine to_not rfl rfl ?_
  refine to_pkF rfl rfl rfl ?_
  refine to_mv rfl rfl ?_
  refine to_gf rfl rfl rfl rfl ?_
  refine to_gf rfl rfl rfl rfl ?_
  refine to_gf rfl rfl rfl rfl ?_
  refine to_gf rfl rfl rfl rfl ?_
  refine to_pkT rfl rfl rfl ?_
  refine to_mv rfl rfl ?_
  refine to_gf rfl rfl rfl rfl ?_
  refine to_gf rfl rfl rfl rfl ?_
  refine to_gf rfl rfl rfl rfl ?_
  refine to_gf rfl rfl rfl rfl ?_
  refine to_pkT rfl rfl rfl ?_
  refine to_mv rfl rfl ?_
  refine to_gf rfl rfl rfl rfl ?_
  refine to_gf rfl rfl rfl rfl ?_
  refine to_gf rfl rfl rfl rfl ?_
  refine to_pkT rfl rfl rfl ?_
  refine to_nil ?_
  refine tn_code ?_
  refine t_ifT rfl ?_
  refine t_seq ?_
  refine t_reg ?_
  refine to_call0 rfl rfl (fun w s => law_known w (gl_up hg (belowH_of s))) rfl ?_
  refine to_as rfl rfl ?_
  refine to_nil ?_
  refine tn_code ?_
  refine t_ret1 rfl rfl (res_tmp rfl) (fun w' s => ?_)
  rfl

set_option maxRecDepth 20000 in
theorem w_PayJust_o1 (b : Bk) (a : Option Addr) (c : Nat) (pr one ot : Int) (w : World) (hr : Ro w 0 w.heap.size a b.lines.length c 10 (b.lines.map linC)) (hb : isBk b = true) (hs : isSum pr = true) (hi1 : inB one 0 (b.hands - 1) = false) (hg : Gl w) : Calls Tryz.prog 4 #[bkV b a c, (.int .i64 pr), (.int .i64 one), (.int .i64 ot)] w (RetV w (.bool true)) := by
  have hbb := isBk_b hb
  refine calls_T0 (av := [_, _, _, _]) Tryz.func4 rfl rfl rfl ?_
  refine t_seq ?_
  refine t_reg ?_
  refine to_box rfl rfl (fun b4 => ?_)
  refine to_as rfl rfl ?_
  refine to_nil ?_
  refine tn_code ?_
  refine t_seq ?_
  refine t_seq ?_
  refine t_reg ?_
  first | refine to_lda rfl rfl rfl ?_ | refine to_ldea rfl (by assumption) rfl rfl ?_
  refine to_call0 rfl rfl (fun w s => law_right b a c w (rdw s)) rfl ?_
  refine to_fix (s := 19) (b' := true) rfl (hb) ?_
  refine to_not rfl rfl ?_
  refine to_mv rfl rfl ?_
  refine to_gt rfl rfl ?_
  refine to_mv rfl rfl ?_
  refine to_gt rfl rfl ?_
  refine to_call0 rfl rfl (fun w s => ref_Sum _ w) rfl ?_
  refine to_fix (s := 23) (b' := true) rfl (hs) ?_
  refine to_gt rfl rfl ?_
  refine to_not rfl rfl ?_
  refine to_pkF rfl rfl rfl ?_
  refine to_mv rfl rfl ?_
  refine to_gt rfl rfl ?_
  first | refine to_lda rfl rfl rfl ?_ | refine to_ldea rfl (by assumption) rfl rfl ?_
  refine to_gt rfl rfl ?_
  refine to_mv rfl rfl ?_
  refine to_gt rfl rfl ?_
  refine to_call0 rfl rfl (fun w s => ref_Hand b a c _ w (by omega)) rfl ?_
  refine to_fix (s := 29) (b' := false) rfl (hi1) ?_
  refine to_gt rfl rfl ?_
  refine to_not rfl rfl ?_
  refine to_pkF rfl rfl rfl ?_
  refine to_mv rfl rfl ?_
  refine to_gf rfl rfl rfl rfl ?_
  refine to_gf rfl rfl rfl rfl ?_
  refine to_gf rfl rfl rfl rfl ?_
  refine to_gf rfl rfl rfl rfl ?_
  refine to_pkT rfl rfl rfl ?_
  refine to_mv rfl rfl ?_
  refine to_gf rfl rfl rfl rfl ?_
  refine to_gf rfl rfl rfl rfl ?_
  refine to_gf rfl rfl rfl rfl ?_
  refine to_pkT rfl rfl rfl ?_
  refine to_nil ?_
  refine tn_code ?_
  refine t_ifT rfl ?_
  refine t_seq ?_
  refine t_reg ?_
  refine to_call0 rfl rfl (fun w s => law_known w (gl_up hg (belowH_of s))) rfl ?_
  refine to_as rfl rfl ?_
  refine to_nil ?_
  refine tn_code ?_
  refine t_ret1 rfl rfl (res_tmp rfl) (fun w' s => ?_)
  rfl

set_option maxRecDepth 20000 in
theorem w_PayJust_o2 (b : Bk) (a : Option Addr) (c : Nat) (pr one ot : Int) (w : World) (hr : Ro w 0 w.heap.size a b.lines.length c 10 (b.lines.map linC)) (hb : isBk b = true) (hs : isSum pr = true) (hi1 : inB one 0 (b.hands - 1) = true) (hi2 : inB ot 0 (b.hands - 1) = false) (hg : Gl w) : Calls Tryz.prog 4 #[bkV b a c, (.int .i64 pr), (.int .i64 one), (.int .i64 ot)] w (RetV w (.bool true)) := by
  have hbb := isBk_b hb
  refine calls_T0 (av := [_, _, _, _]) Tryz.func4 rfl rfl rfl ?_
  refine t_seq ?_
  refine t_reg ?_
  refine to_box rfl rfl (fun b4 => ?_)
  refine to_as rfl rfl ?_
  refine to_nil ?_
  refine tn_code ?_
  refine t_seq ?_
  refine t_seq ?_
  refine t_reg ?_
  first | refine to_lda rfl rfl rfl ?_ | refine to_ldea rfl (by assumption) rfl rfl ?_
  refine to_call0 rfl rfl (fun w s => law_right b a c w (rdw s)) rfl ?_
  refine to_fix (s := 19) (b' := true) rfl (hb) ?_
  refine to_not rfl rfl ?_
  refine to_mv rfl rfl ?_
  refine to_gt rfl rfl ?_
  refine to_mv rfl rfl ?_
  refine to_gt rfl rfl ?_
  refine to_call0 rfl rfl (fun w s => ref_Sum _ w) rfl ?_
  refine to_fix (s := 23) (b' := true) rfl (hs) ?_
  refine to_gt rfl rfl ?_
  refine to_not rfl rfl ?_
  refine to_pkF rfl rfl rfl ?_
  refine to_mv rfl rfl ?_
  refine to_gt rfl rfl ?_
  first | refine to_lda rfl rfl rfl ?_ | refine to_ldea rfl (by assumption) rfl rfl ?_
  refine to_gt rfl rfl ?_
  refine to_mv rfl rfl ?_
  refine to_gt rfl rfl ?_
  refine to_call0 rfl rfl (fun w s => ref_Hand b a c _ w (by omega)) rfl ?_
  refine to_fix (s := 29) (b' := true) rfl (hi1) ?_
  refine to_gt rfl rfl ?_
  refine to_not rfl rfl ?_
  refine to_pkF rfl rfl rfl ?_
  refine to_mv rfl rfl ?_
  refine to_gt rfl rfl ?_
  first | refine to_lda rfl rfl rfl ?_ | refine to_ldea rfl (by assumption) rfl rfl ?_
  refine to_gt rfl rfl ?_
  refine to_mv rfl rfl ?_
  refine to_gt rfl rfl ?_
  refine to_call0 rfl rfl (fun w s => ref_Hand b a c _ w (by omega)) rfl ?_
  refine to_fix (s := 35) (b' := false) rfl (hi2) ?_
  refine to_gt rfl rfl ?_
  refine to_not rfl rfl ?_
  refine to_pkF rfl rfl rfl ?_
  refine to_mv rfl rfl ?_
  refine to_gf rfl rfl rfl rfl ?_
  refine to_gf rfl rfl rfl rfl ?_
  refine to_gf rfl rfl rfl rfl ?_
  refine to_pkT rfl rfl rfl ?_
  refine to_nil ?_
  refine tn_code ?_
  refine t_ifT rfl ?_
  refine t_seq ?_
  refine t_reg ?_
  refine to_call0 rfl rfl (fun w s => law_known w (gl_up hg (belowH_of s))) rfl ?_
  refine to_as rfl rfl ?_
  refine to_nil ?_
  refine tn_code ?_
  refine t_ret1 rfl rfl (res_tmp rfl) (fun w' s => ?_)
  rfl

set_option maxRecDepth 20000 in
theorem w_PayJust_ge (b : Bk) (a : Option Addr) (c : Nat) (pr one ot : Int) (w : World) (hr : Ro w 0 w.heap.size a b.lines.length c 10 (b.lines.map linC)) (hb : isBk b = true) (hs : isSum pr = true) (hi1 : inB one 0 (b.hands - 1) = true) (hi2 : inB ot 0 (b.hands - 1) = true) (hge : one ≥ ot) (hg : Gl w) : Calls Tryz.prog 4 #[bkV b a c, (.int .i64 pr), (.int .i64 one), (.int .i64 ot)] w (RetV w (.bool true)) := by
  have hbb := isBk_b hb
  refine calls_T0 (av := [_, _, _, _]) Tryz.func4 rfl rfl rfl ?_
  refine t_seq ?_
  refine t_reg ?_
  refine to_box rfl rfl (fun b4 => ?_)
  refine to_as rfl rfl ?_
  refine to_nil ?_
  refine tn_code ?_
  refine t_seq ?_
  refine t_seq ?_
  refine t_reg ?_
  first | refine to_lda rfl rfl rfl ?_ | refine to_ldea rfl (by assumption) rfl rfl ?_
  refine to_call0 rfl rfl (fun w s => law_right b a c w (rdw s)) rfl ?_
  refine to_fix (s := 19) (b' := true) rfl (hb) ?_
  refine to_not rfl rfl ?_
  refine to_mv rfl rfl ?_
  refine to_gt rfl rfl ?_
  refine to_mv rfl rfl ?_
  refine to_gt rfl rfl ?_
  refine to_call0 rfl rfl (fun w s => ref_Sum _ w) rfl ?_
  refine to_fix (s := 23) (b' := true) rfl (hs) ?_
  refine to_gt rfl rfl ?_
  refine to_not rfl rfl ?_
  refine to_pkF rfl rfl rfl ?_
  refine to_mv rfl rfl ?_
  refine to_gt rfl rfl ?_
  first | refine to_lda rfl rfl rfl ?_ | refine to_ldea rfl (by assumption) rfl rfl ?_
  refine to_gt rfl rfl ?_
  refine to_mv rfl rfl ?_
  refine to_gt rfl rfl ?_
  refine to_call0 rfl rfl (fun w s => ref_Hand b a c _ w (by omega)) rfl ?_
  refine to_fix (s := 29) (b' := true) rfl (hi1) ?_
  refine to_gt rfl rfl ?_
  refine to_not rfl rfl ?_
  refine to_pkF rfl rfl rfl ?_
  refine to_mv rfl rfl ?_
  refine to_gt rfl rfl ?_
  first | refine to_lda rfl rfl rfl ?_ | refine to_ldea rfl (by assumption) rfl rfl ?_
  refine to_gt rfl rfl ?_
  refine to_mv rfl rfl ?_
  refine to_gt rfl rfl ?_
  refine to_call0 rfl rfl (fun w s => ref_Hand b a c _ w (by omega)) rfl ?_
  refine to_fix (s := 35) (b' := true) rfl (hi2) ?_
  refine to_gt rfl rfl ?_
  refine to_not rfl rfl ?_
  refine to_pkF rfl rfl rfl ?_
  refine to_mv rfl rfl ?_
  refine to_gt rfl rfl ?_
  refine to_mv rfl rfl ?_
  refine to_gt rfl rfl ?_
  refine to_mv rfl rfl ?_
  refine to_gt rfl rfl ?_
  refine to_geq rfl rfl rfl ?_
  refine to_fix (s := 41) (b' := true) rfl (decide_eq_true hge) ?_
  refine to_pkF rfl rfl rfl ?_
  refine to_nil ?_
  refine tn_code ?_
  refine t_ifT rfl ?_
  refine t_seq ?_
  refine t_reg ?_
  refine to_call0 rfl rfl (fun w s => law_known w (gl_up hg (belowH_of s))) rfl ?_
  refine to_as rfl rfl ?_
  refine to_nil ?_
  refine tn_code ?_
  refine t_ret1 rfl rfl (res_tmp rfl) (fun w' s => ?_)
  rfl

set_option maxRecDepth 20000 in
theorem w_PayJust_z (b : Bk) (a : Option Addr) (c : Nat) (pr one ot : Int) (w : World) (hr : Ro w 0 w.heap.size a b.lines.length c 10 (b.lines.map linC)) (hb : isBk b = true) (hs : isSum pr = true) (j1 j2 : Nat) (hj1 : one = (j1 : Int)) (hj2 : ot = (j2 : Int)) (hlt : j1 < j2) (hh2 : j2 < b.hands.toNat) (hz : allS b = 0) (hg : Gl w) : Calls Tryz.prog 4 #[bkV b a c, (.int .i64 pr), (.int .i64 one), (.int .i64 ot)] w (RetV w (.bool true)) := by
  subst hj1
  subst hj2
  have hbb := isBk_b hb
  have hpb := isSum_b hs
  have hal := allS_le hb
  have hi1 : inB (j1 : Int) 0 (b.hands - 1) = true := inB_iff.2 (by omega)
  have hi2 : inB (j2 : Int) 0 (b.hands - 1) = true := inB_iff.2 (by omega)
  have hll : (restL (shF b pr) b.hands.toNat).length = b.hands.toNat := restL_len _ _
  have hq : payShare b pr = ([], 5) := by simp [payShare, hb, hs, hz]
  refine calls_T0 (av := [_, _, _, _]) Tryz.func4 rfl rfl rfl ?_
  refine t_seq ?_
  refine t_reg ?_
  refine to_box rfl rfl (fun b4 => ?_)
  refine to_as rfl rfl ?_
  refine to_nil ?_
  refine tn_code ?_
  refine t_seq ?_
  refine t_seq ?_
  refine t_reg ?_
  first | refine to_lda rfl rfl rfl ?_ | refine to_ldea rfl (by assumption) rfl rfl ?_
  refine to_call0 rfl rfl (fun w s => law_right b a c w (rdw s)) rfl ?_
  refine to_fix (s := 19) (b' := true) rfl (hb) ?_
  refine to_not rfl rfl ?_
  refine to_mv rfl rfl ?_
  refine to_gt rfl rfl ?_
  refine to_mv rfl rfl ?_
  refine to_gt rfl rfl ?_
  refine to_call0 rfl rfl (fun w s => ref_Sum _ w) rfl ?_
  refine to_fix (s := 23) (b' := true) rfl (hs) ?_
  refine to_gt rfl rfl ?_
  refine to_not rfl rfl ?_
  refine to_pkF rfl rfl rfl ?_
  refine to_mv rfl rfl ?_
  refine to_gt rfl rfl ?_
  first | refine to_lda rfl rfl rfl ?_ | refine to_ldea rfl (by assumption) rfl rfl ?_
  refine to_gt rfl rfl ?_
  refine to_mv rfl rfl ?_
  refine to_gt rfl rfl ?_
  refine to_call0 rfl rfl (fun w s => ref_Hand b a c _ w (by omega)) rfl ?_
  refine to_fix (s := 29) (b' := true) rfl (hi1) ?_
  refine to_gt rfl rfl ?_
  refine to_not rfl rfl ?_
  refine to_pkF rfl rfl rfl ?_
  refine to_mv rfl rfl ?_
  refine to_gt rfl rfl ?_
  first | refine to_lda rfl rfl rfl ?_ | refine to_ldea rfl (by assumption) rfl rfl ?_
  refine to_gt rfl rfl ?_
  refine to_mv rfl rfl ?_
  refine to_gt rfl rfl ?_
  refine to_call0 rfl rfl (fun w s => ref_Hand b a c _ w (by omega)) rfl ?_
  refine to_fix (s := 35) (b' := true) rfl (hi2) ?_
  refine to_gt rfl rfl ?_
  refine to_not rfl rfl ?_
  refine to_pkF rfl rfl rfl ?_
  refine to_mv rfl rfl ?_
  refine to_gt rfl rfl ?_
  refine to_mv rfl rfl ?_
  refine to_gt rfl rfl ?_
  refine to_mv rfl rfl ?_
  refine to_gt rfl rfl ?_
  refine to_geq rfl rfl rfl ?_
  refine to_fix (s := 41) (b' := false) rfl (decide_eq_false (by omega)) ?_
  refine to_pkF rfl rfl rfl ?_
  refine to_nil ?_
  refine tn_code ?_
  refine t_ifF rfl ?_
  refine t_skip ?_
  refine tn_code ?_
  refine t_seq ?_
  refine t_reg ?_
  first | refine to_lda rfl rfl rfl ?_ | refine to_ldea rfl (by assumption) rfl rfl ?_
  refine to_mv rfl rfl ?_
  refine to_callR rfl rfl (fun w s => c_share (rdw s) hq) rfl (fun v47 lo47 w47 hlo47 hR47 => ?_)
  obtain ⟨pa47, pc47, rfl, hro47⟩ := hR47
  refine to_mv rfl rfl ?_
  refine to_ex rfl rfl rfl ?_
  refine to_ex rfl rfl rfl ?_
  refine to_as rfl rfl ?_
  refine to_as rfl rfl ?_
  refine to_nil ?_
  refine tn_code ?_
  refine t_seq ?_
  refine t_reg ?_
  refine to_as rfl rfl ?_
  refine to_nil ?_
  refine tn_code ?_
  refine t_seq ?_
  refine t_seq ?_
  refine t_reg ?_
  refine to_as rfl rfl ?_
  refine to_nil ?_
  refine tn_code ?_
  refine t_blk ?_
  refine t_loop2 (ι := Nat) (fun k => k ≤ b.hands.toNat) (fun k => [(1, (.int .i64 pr)), (2, (.int .i64 (j1 : Int))), (3, (.int .i64 (j2 : Int))), (4, (.pointer (some ⟨b4, 0, none⟩))), (9, .slice pa47 (([] : List Int)).length pc47), (10, (.int .i64 5)), (11, (.int .i64 (sumI ((ownL b).take k)))), (12, (.int .i64 (k : Int)))]) (fun k => [.snap lo47 w47.heap.size w47, .own b4 (isC (bkC b a c) 24), .snap 0 w.heap.size w]) (fun k => b.hands.toNat - k) (0) [.snap lo47 w47.heap.size w47, .own b4 (isC (bkC b a c) 24), .snap 0 w.heap.size w] (rfl) (Nat.zero_le _) (⟨rfl, rfl, rfl, rfl, rfl, rfl, rfl, rfl, trivial⟩) ?_
  rintro k hk
  show T _ _ _ ⟨_, [(1, (.int .i64 pr)), (2, (.int .i64 (j1 : Int))), (3, (.int .i64 (j2 : Int))), (4, (.pointer (some ⟨b4, 0, none⟩))), (9, .slice pa47 (([] : List Int)).length pc47), (10, (.int .i64 5)), (11, (.int .i64 (sumI ((ownL b).take k)))), (12, (.int .i64 (k : Int)))], _⟩ [.snap lo47 w47.heap.size w47, .own b4 (isC (bkC b a c) 24), .snap 0 w.heap.size w]
  refine t_seq ?_
  refine t_seq ?_
  refine t_reg ?_
  refine to_mv rfl rfl ?_
  first | refine to_fa rfl rfl rfl (by simp only [Nat.reduceAdd]; rfl) rfl ?_ | refine to_fae rfl rfl rfl (by simp only [Nat.reduceAdd]; rfl) rfl ?_
  first | refine to_lds rfl rfl rfl ?_ | refine to_ldes rfl (by assumption) rfl rfl ?_
  refine to_lss rfl rfl rfl ?_
  refine to_nil ?_
  refine tn_code ?_
  refine t_if rfl (fun h1 => ?_) (fun h1 => ?_)
  · try simp only [decide_eq_true_eq, decide_eq_false_iff_not, Bool.not_eq_true', Bool.not_eq_false', Int.not_lt, Int.not_le, ne_eq, Decidable.not_not] at h1
    try have h1b := inB_iff.1 h1
    have hkn : k < b.hands.toNat := by omega
    have hsb := sumI_bd (B := 100) (by decide) (xs := ownL b) (ownL_b hb) k
    have hob := ownK_b hb b.lines.length k
    refine t_skip ?_
    refine tn_code ?_
    refine t_seq ?_
    refine t_blk ?_
    refine t_reg ?_
    refine to_mv rfl rfl ?_
    first | refine to_lda rfl rfl rfl ?_ | refine to_ldea rfl (by assumption) rfl rfl ?_
    refine to_mv rfl rfl ?_
    refine to_call0 rfl rfl (fun w s => ref_Sheets b a c _ w (rdw s) hb) rfl ?_
    refine to_add rfl rfl (by omega) rfl ?_
    refine to_as rfl rfl ?_
    refine to_nil ?_
    refine tn_blk ?_
    refine tn_code ?_
    refine t_reg ?_
    refine to_mv rfl rfl ?_
    refine to_add rfl rfl (by omega) rfl ?_
    refine to_as rfl rfl ?_
    refine to_nil ?_
    exact tn_loop2 (k + 1) [.snap lo47 w47.heap.size w47, .own b4 (isC (bkC b a c) 24), .snap 0 w.heap.size w] (rfl) (by omega) (by omega) (⟨rfl, rfl, rfl, rfl, rfl, rfl, congrArg (fun z => some (Value.int .i64 z)) (sumI_take (ownL_get hkn)).symm, rfl, trivial⟩)
  · try simp only [decide_eq_true_eq, decide_eq_false_iff_not, Bool.not_eq_true', Bool.not_eq_false', Int.not_lt, Int.not_le, ne_eq, Decidable.not_not] at h1
    try have h1b := inB_iff.1 h1
    have hk2 : k = b.hands.toNat := by omega
    subst hk2
    have hta : (sumI ((ownL b).take b.hands.toNat)) = allS b := by rw [allS, List.take_of_length_le (by rw [ownL_len]; exact Nat.le_refl _)]
    refine t_exit ?_
    refine tx_code ?_
    refine tx_inv ?_
    refine tx_blk ?_
    refine tn_code ?_
    refine t_seq ?_
    refine t_seq ?_
    refine t_reg ?_
    refine to_mv rfl rfl ?_
    refine to_eql rfl rfl rfl ?_
    refine to_fix (s := 62) (b' := true) rfl (decide_eq_true (by omega)) ?_
    refine to_nil ?_
    refine tn_code ?_
    refine t_ifT rfl ?_
    refine t_seq ?_
    refine t_reg ?_
    refine to_mv rfl rfl ?_
    refine to_eql rfl rfl rfl ?_
    refine to_fix (s := 64) (b' := true) rfl (rfl) ?_
    refine to_mv rfl rfl ?_
    refine to_gt rfl rfl ?_
    refine to_call0 rfl rfl (fun w s => law_known w (gl_up hg (belowH_of s))) rfl ?_
    refine to_pkT rfl rfl rfl ?_
    refine to_as rfl rfl ?_
    refine to_nil ?_
    refine tn_code ?_
    refine t_ret1 rfl rfl (res_tmp rfl) (fun w' s => ?_)
    rfl

set_option maxRecDepth 20000 in
theorem w_PayJust_sm (b : Bk) (a : Option Addr) (c : Nat) (pr one ot : Int) (w : World) (hr : Ro w 0 w.heap.size a b.lines.length c 10 (b.lines.map linC)) (hb : isBk b = true) (hs : isSum pr = true) (j1 j2 : Nat) (hj1 : one = (j1 : Int)) (hj2 : ot = (j2 : Int)) (hlt : j1 < j2) (hh2 : j2 < b.hands.toNat) (hap : 0 < allS b) (hsame : ownK b b.lines.length j1 = ownK b b.lines.length j2) (hg : Gl w) : Calls Tryz.prog 4 #[bkV b a c, (.int .i64 pr), (.int .i64 one), (.int .i64 ot)] w (RetV w (.bool true)) := by
  subst hj1
  subst hj2
  have hbb := isBk_b hb
  have hpb := isSum_b hs
  have hal := allS_le hb
  have hi1 : inB (j1 : Int) 0 (b.hands - 1) = true := inB_iff.2 (by omega)
  have hi2 : inB (j2 : Int) 0 (b.hands - 1) = true := inB_iff.2 (by omega)
  have hll : (restL (shF b pr) b.hands.toNat).length = b.hands.toNat := restL_len _ _
  have hz : ¬ allS b = 0 := by omega
  have hq : payShare b pr = ((restL (shF b pr) b.hands.toNat), 0) := by simp [payShare, hb, hs, hz, shF]
  have hsx := shF_sum (pr := pr) hb hap
  have hx1 := map_get (f := intC) (restL_get (g := shF b pr) (show j1 < b.hands.toNat by omega))
  have hx2 := map_get (f := intC) (restL_get (g := shF b pr) hh2)
  have hf1 := shF_b (pr := pr) hb hpb hap (show j1 < b.hands.toNat by omega)
  have hf2 := shF_b (pr := pr) hb hpb hap hh2
  have hsm2 := shF_same (pr := pr) hb hap hlt hh2 hsame
  refine calls_T0 (av := [_, _, _, _]) Tryz.func4 rfl rfl rfl ?_
  refine t_seq ?_
  refine t_reg ?_
  refine to_box rfl rfl (fun b4 => ?_)
  refine to_as rfl rfl ?_
  refine to_nil ?_
  refine tn_code ?_
  refine t_seq ?_
  refine t_seq ?_
  refine t_reg ?_
  first | refine to_lda rfl rfl rfl ?_ | refine to_ldea rfl (by assumption) rfl rfl ?_
  refine to_call0 rfl rfl (fun w s => law_right b a c w (rdw s)) rfl ?_
  refine to_fix (s := 19) (b' := true) rfl (hb) ?_
  refine to_not rfl rfl ?_
  refine to_mv rfl rfl ?_
  refine to_gt rfl rfl ?_
  refine to_mv rfl rfl ?_
  refine to_gt rfl rfl ?_
  refine to_call0 rfl rfl (fun w s => ref_Sum _ w) rfl ?_
  refine to_fix (s := 23) (b' := true) rfl (hs) ?_
  refine to_gt rfl rfl ?_
  refine to_not rfl rfl ?_
  refine to_pkF rfl rfl rfl ?_
  refine to_mv rfl rfl ?_
  refine to_gt rfl rfl ?_
  first | refine to_lda rfl rfl rfl ?_ | refine to_ldea rfl (by assumption) rfl rfl ?_
  refine to_gt rfl rfl ?_
  refine to_mv rfl rfl ?_
  refine to_gt rfl rfl ?_
  refine to_call0 rfl rfl (fun w s => ref_Hand b a c _ w (by omega)) rfl ?_
  refine to_fix (s := 29) (b' := true) rfl (hi1) ?_
  refine to_gt rfl rfl ?_
  refine to_not rfl rfl ?_
  refine to_pkF rfl rfl rfl ?_
  refine to_mv rfl rfl ?_
  refine to_gt rfl rfl ?_
  first | refine to_lda rfl rfl rfl ?_ | refine to_ldea rfl (by assumption) rfl rfl ?_
  refine to_gt rfl rfl ?_
  refine to_mv rfl rfl ?_
  refine to_gt rfl rfl ?_
  refine to_call0 rfl rfl (fun w s => ref_Hand b a c _ w (by omega)) rfl ?_
  refine to_fix (s := 35) (b' := true) rfl (hi2) ?_
  refine to_gt rfl rfl ?_
  refine to_not rfl rfl ?_
  refine to_pkF rfl rfl rfl ?_
  refine to_mv rfl rfl ?_
  refine to_gt rfl rfl ?_
  refine to_mv rfl rfl ?_
  refine to_gt rfl rfl ?_
  refine to_mv rfl rfl ?_
  refine to_gt rfl rfl ?_
  refine to_geq rfl rfl rfl ?_
  refine to_fix (s := 41) (b' := false) rfl (decide_eq_false (by omega)) ?_
  refine to_pkF rfl rfl rfl ?_
  refine to_nil ?_
  refine tn_code ?_
  refine t_ifF rfl ?_
  refine t_skip ?_
  refine tn_code ?_
  refine t_seq ?_
  refine t_reg ?_
  first | refine to_lda rfl rfl rfl ?_ | refine to_ldea rfl (by assumption) rfl rfl ?_
  refine to_mv rfl rfl ?_
  refine to_callR rfl rfl (fun w s => c_share (rdw s) hq) rfl (fun v47 lo47 w47 hlo47 hR47 => ?_)
  obtain ⟨pa47, pc47, rfl, hro47⟩ := hR47
  refine to_mv rfl rfl ?_
  refine to_ex rfl rfl rfl ?_
  refine to_ex rfl rfl rfl ?_
  refine to_as rfl rfl ?_
  refine to_as rfl rfl ?_
  refine to_nil ?_
  refine tn_code ?_
  refine t_seq ?_
  refine t_reg ?_
  refine to_as rfl rfl ?_
  refine to_nil ?_
  refine tn_code ?_
  refine t_seq ?_
  refine t_seq ?_
  refine t_reg ?_
  refine to_as rfl rfl ?_
  refine to_nil ?_
  refine tn_code ?_
  refine t_blk ?_
  refine t_loop2 (ι := Nat) (fun k => k ≤ b.hands.toNat) (fun k => [(1, (.int .i64 pr)), (2, (.int .i64 (j1 : Int))), (3, (.int .i64 (j2 : Int))), (4, (.pointer (some ⟨b4, 0, none⟩))), (9, .slice pa47 ((restL (shF b pr) b.hands.toNat)).length pc47), (10, (.int .i64 0)), (11, (.int .i64 (sumI ((ownL b).take k)))), (12, (.int .i64 (k : Int)))]) (fun k => [.snap lo47 w47.heap.size w47, .own b4 (isC (bkC b a c) 24), .snap 0 w.heap.size w]) (fun k => b.hands.toNat - k) (0) [.snap lo47 w47.heap.size w47, .own b4 (isC (bkC b a c) 24), .snap 0 w.heap.size w] (rfl) (Nat.zero_le _) (⟨rfl, rfl, rfl, rfl, rfl, rfl, rfl, rfl, trivial⟩) ?_
  rintro k hk
  show T _ _ _ ⟨_, [(1, (.int .i64 pr)), (2, (.int .i64 (j1 : Int))), (3, (.int .i64 (j2 : Int))), (4, (.pointer (some ⟨b4, 0, none⟩))), (9, .slice pa47 ((restL (shF b pr) b.hands.toNat)).length pc47), (10, (.int .i64 0)), (11, (.int .i64 (sumI ((ownL b).take k)))), (12, (.int .i64 (k : Int)))], _⟩ [.snap lo47 w47.heap.size w47, .own b4 (isC (bkC b a c) 24), .snap 0 w.heap.size w]
  refine t_seq ?_
  refine t_seq ?_
  refine t_reg ?_
  refine to_mv rfl rfl ?_
  first | refine to_fa rfl rfl rfl (by simp only [Nat.reduceAdd]; rfl) rfl ?_ | refine to_fae rfl rfl rfl (by simp only [Nat.reduceAdd]; rfl) rfl ?_
  first | refine to_lds rfl rfl rfl ?_ | refine to_ldes rfl (by assumption) rfl rfl ?_
  refine to_lss rfl rfl rfl ?_
  refine to_nil ?_
  refine tn_code ?_
  refine t_if rfl (fun h1 => ?_) (fun h1 => ?_)
  · try simp only [decide_eq_true_eq, decide_eq_false_iff_not, Bool.not_eq_true', Bool.not_eq_false', Int.not_lt, Int.not_le, ne_eq, Decidable.not_not] at h1
    try have h1b := inB_iff.1 h1
    have hkn : k < b.hands.toNat := by omega
    have hsb := sumI_bd (B := 100) (by decide) (xs := ownL b) (ownL_b hb) k
    have hob := ownK_b hb b.lines.length k
    refine t_skip ?_
    refine tn_code ?_
    refine t_seq ?_
    refine t_blk ?_
    refine t_reg ?_
    refine to_mv rfl rfl ?_
    first | refine to_lda rfl rfl rfl ?_ | refine to_ldea rfl (by assumption) rfl rfl ?_
    refine to_mv rfl rfl ?_
    refine to_call0 rfl rfl (fun w s => ref_Sheets b a c _ w (rdw s) hb) rfl ?_
    refine to_add rfl rfl (by omega) rfl ?_
    refine to_as rfl rfl ?_
    refine to_nil ?_
    refine tn_blk ?_
    refine tn_code ?_
    refine t_reg ?_
    refine to_mv rfl rfl ?_
    refine to_add rfl rfl (by omega) rfl ?_
    refine to_as rfl rfl ?_
    refine to_nil ?_
    exact tn_loop2 (k + 1) [.snap lo47 w47.heap.size w47, .own b4 (isC (bkC b a c) 24), .snap 0 w.heap.size w] (rfl) (by omega) (by omega) (⟨rfl, rfl, rfl, rfl, rfl, rfl, congrArg (fun z => some (Value.int .i64 z)) (sumI_take (ownL_get hkn)).symm, rfl, trivial⟩)
  · try simp only [decide_eq_true_eq, decide_eq_false_iff_not, Bool.not_eq_true', Bool.not_eq_false', Int.not_lt, Int.not_le, ne_eq, Decidable.not_not] at h1
    try have h1b := inB_iff.1 h1
    have hk2 : k = b.hands.toNat := by omega
    subst hk2
    have hta : (sumI ((ownL b).take b.hands.toNat)) = allS b := by rw [allS, List.take_of_length_le (by rw [ownL_len]; exact Nat.le_refl _)]
    refine t_exit ?_
    refine tx_code ?_
    refine tx_inv ?_
    refine tx_blk ?_
    refine tn_code ?_
    refine t_seq ?_
    refine t_seq ?_
    refine t_reg ?_
    refine to_mv rfl rfl ?_
    refine to_eql rfl rfl rfl ?_
    refine to_fix (s := 62) (b' := false) rfl (decide_eq_false (by omega)) ?_
    refine to_nil ?_
    refine tn_code ?_
    refine t_ifF rfl ?_
    refine t_skip ?_
    refine tn_code ?_
    refine t_seq ?_
    refine t_seq ?_
    refine t_reg ?_
    refine to_mv rfl rfl ?_
    refine to_neq rfl rfl rfl ?_
    refine to_fix (s := 69) (b' := false) rfl (rfl) ?_
    refine to_mv rfl rfl ?_
    refine to_gt rfl rfl ?_
    refine to_mv rfl rfl ?_
    refine to_gt rfl rfl ?_
    refine to_lenS rfl rfl ?_
    refine to_gt rfl rfl ?_
    first | refine to_fa rfl rfl rfl (by simp only [Nat.reduceAdd]; rfl) rfl ?_ | refine to_fae rfl rfl rfl (by simp only [Nat.reduceAdd]; rfl) rfl ?_
    refine to_gt rfl rfl ?_
    first | refine to_lds rfl rfl rfl ?_ | refine to_ldes rfl (by assumption) rfl rfl ?_
    refine to_gt rfl rfl ?_
    refine to_neq rfl rfl rfl ?_
    refine to_fix (s := 75) (b' := false) rfl (by simp [hll]; omega) ?_
    refine to_pkF rfl rfl rfl ?_
    refine to_nil ?_
    refine tn_code ?_
    refine t_ifF rfl ?_
    refine t_skip ?_
    refine tn_code ?_
    refine t_seq ?_
    refine t_reg ?_
    refine to_as rfl rfl ?_
    refine to_nil ?_
    refine tn_code ?_
    refine t_seq ?_
    refine t_seq ?_
    refine t_reg ?_
    refine to_as rfl rfl ?_
    refine to_nil ?_
    refine tn_code ?_
    refine t_blk ?_
    refine t_loop2 (ι := Nat) (fun k => k ≤ b.hands.toNat) (fun k => [(1, (.int .i64 pr)), (2, (.int .i64 (j1 : Int))), (3, (.int .i64 (j2 : Int))), (4, (.pointer (some ⟨b4, 0, none⟩))), (9, .slice pa47 (restL (shF b pr) b.hands.toNat).length pc47), (11, (.int .i64 (allS b))), (13, (.int .i64 (sumI ((restL (shF b pr) b.hands.toNat).take k)))), (14, (.int .i64 (k : Int)))]) (fun k => [.snap lo47 w47.heap.size w47, .own b4 (isC (bkC b a c) 24), .snap 0 w.heap.size w]) (fun k => b.hands.toNat - k) (0) [.snap lo47 w47.heap.size w47, .own b4 (isC (bkC b a c) 24), .snap 0 w.heap.size w] (rfl) (Nat.zero_le _) (⟨rfl, rfl, rfl, rfl, rfl, congrArg (fun z => some (Value.int .i64 z)) hta, rfl, rfl, trivial⟩) ?_
    rintro k hk
    show T _ _ _ ⟨_, [(1, (.int .i64 pr)), (2, (.int .i64 (j1 : Int))), (3, (.int .i64 (j2 : Int))), (4, (.pointer (some ⟨b4, 0, none⟩))), (9, .slice pa47 (restL (shF b pr) b.hands.toNat).length pc47), (11, (.int .i64 (allS b))), (13, (.int .i64 (sumI ((restL (shF b pr) b.hands.toNat).take k)))), (14, (.int .i64 (k : Int)))], _⟩ [.snap lo47 w47.heap.size w47, .own b4 (isC (bkC b a c) 24), .snap 0 w.heap.size w]
    refine t_seq ?_
    refine t_seq ?_
    refine t_reg ?_
    refine to_mv rfl rfl ?_
    refine to_mv rfl rfl ?_
    refine to_lenS rfl rfl ?_
    refine to_lss rfl rfl rfl ?_
    refine to_nil ?_
    refine tn_code ?_
    refine t_if rfl (fun h2 => ?_) (fun h2 => ?_)
    · try simp only [decide_eq_true_eq, decide_eq_false_iff_not, Bool.not_eq_true', Bool.not_eq_false', Int.not_lt, Int.not_le, ne_eq, Decidable.not_not] at h2
      try have h2b := inB_iff.1 h2
      have hkn : k < b.hands.toNat := by omega
      have hy := restL_get (g := shF b pr) hkn
      have hyy := map_get (f := intC) hy
      have hfb := shF_b (pr := pr) hb hpb hap hkn
      have hnr := shF_near (pr := pr) hb hap hkn
      have hnn := shF_none (pr := pr) hb hap hkn
      have hob := ownK_b hb b.lines.length k
      have hm1 := mul_bd (B := 959999) (C := 300) hfb.1 (by omega) (by omega) hal
      have hm2 := mul_bd (B := 959999) (C := 100) hpb.1 hpb.2 hob.1 (by omega)
      have hsb := sumI_bd (B := 959999) (by decide) (xs := (restL (shF b pr) b.hands.toNat)) (fun x hx => by simp only [restL, List.mem_map, List.mem_range] at hx; obtain ⟨j, hj, rfl⟩ := hx; have := shF_b (pr := pr) hb hpb hap hj; omega) k
      refine t_skip ?_
      refine tn_code ?_
      refine t_seq ?_
      refine t_blk ?_
      refine t_seq ?_
      refine t_reg ?_
      first | refine to_lda rfl rfl rfl ?_ | refine to_ldea rfl (by assumption) rfl rfl ?_
      refine to_mv rfl rfl ?_
      refine to_call0 rfl rfl (fun w s => ref_Sheets b a c _ w (rdw s) hb) rfl ?_
      refine to_as rfl rfl ?_
      refine to_nil ?_
      refine tn_code ?_
      refine t_seq ?_
      refine t_seq ?_
      refine t_reg ?_
      refine to_mv rfl rfl ?_
      refine to_mv rfl rfl ?_
      first | refine to_ix rfl rfl rfl (by first | omega | decide) (by first | omega | decide) rfl ?_ | refine to_ixi rfl rfl rfl (by omega) (by omega) (by omega) rfl ?_
      first | refine to_lds rfl rfl rfl ?_ | refine to_ldes rfl (by assumption) rfl rfl ?_
      refine to_lss rfl rfl rfl ?_
      refine to_fix (s := 90) (b' := false) rfl (decide_eq_false (by omega)) ?_
      refine to_mv rfl rfl ?_
      refine to_gt rfl rfl ?_
      refine to_mv rfl rfl ?_
      refine to_gt rfl rfl ?_
      refine to_mv rfl rfl ?_
      refine to_gt rfl rfl ?_
      first | refine to_ix rfl rfl rfl (by first | omega | decide) (by first | omega | decide) rfl ?_ | refine to_ixi rfl rfl rfl (by omega) (by omega) (by omega) rfl ?_
      refine to_gt rfl rfl ?_
      first | refine to_lds rfl rfl rfl ?_ | refine to_ldes rfl (by assumption) rfl rfl ?_
      refine to_gt rfl rfl ?_
      refine to_mv rfl rfl ?_
      refine to_gt rfl rfl ?_
      refine to_gtr rfl rfl rfl ?_
      refine to_fix (s := 97) (b' := false) rfl (decide_eq_false (by omega)) ?_
      refine to_pkF rfl rfl rfl ?_
      refine to_mv rfl rfl ?_
      refine to_gt rfl rfl ?_
      refine to_mv rfl rfl ?_
      refine to_gt rfl rfl ?_
      refine to_eql rfl rfl rfl ?_
      refine to_gt rfl rfl ?_
      refine to_mv rfl rfl ?_
      refine to_gs rfl rfl rfl (fun h3 => ?_) (fun h3 => ?_)
      · try simp only [decide_eq_true_eq, decide_eq_false_iff_not, Bool.not_eq_true', Bool.not_eq_false', Int.not_lt, Int.not_le, ne_eq, Decidable.not_not] at h3
        try have h3b := inB_iff.1 h3
        refine to_gt rfl rfl ?_
        refine to_mv rfl rfl ?_
        refine to_gt rfl rfl ?_
        refine to_mv rfl rfl ?_
        refine to_gt rfl rfl ?_
        first | refine to_ix rfl rfl rfl (by first | omega | decide) (by first | omega | decide) rfl ?_ | refine to_ixi rfl rfl rfl (by omega) (by omega) (by omega) rfl ?_
        refine to_gt rfl rfl ?_
        first | refine to_lds rfl rfl rfl ?_ | refine to_ldes rfl (by assumption) rfl rfl ?_
        refine to_gt rfl rfl ?_
        refine to_neq rfl rfl rfl ?_
        refine to_fix (s := 107) (b' := false) rfl (by simp [hnn (by omega)]) ?_
        refine to_gt rfl rfl ?_
        refine to_pkT rfl rfl rfl ?_
        refine to_pkF rfl rfl rfl ?_
        refine to_nil ?_
        refine tn_code ?_
        refine t_ifF rfl ?_
        refine t_skip ?_
        refine tn_code ?_
        refine t_seq ?_
        refine t_seq ?_
        refine t_reg ?_
        refine to_mv rfl rfl ?_
        refine to_mv rfl rfl ?_
        first | refine to_ix rfl rfl rfl (by first | omega | decide) (by first | omega | decide) rfl ?_ | refine to_ixi rfl rfl rfl (by omega) (by omega) (by omega) rfl ?_
        first | refine to_lds rfl rfl rfl ?_ | refine to_ldes rfl (by assumption) rfl rfl ?_
        refine to_mv rfl rfl ?_
        refine to_mul rfl rfl (by first | omega | exact mul_ok (by omega) (by omega) (by omega) (by omega)) rfl ?_
        refine to_mv rfl rfl ?_
        refine to_mv rfl rfl ?_
        refine to_mul rfl rfl (by first | omega | exact mul_ok (by omega) (by omega) (by omega) (by omega)) rfl ?_
        refine to_sub rfl rfl (by omega) rfl ?_
        refine to_as rfl rfl ?_
        refine to_nil ?_
        refine tn_code ?_
        refine t_seq ?_
        refine t_reg ?_
        refine to_mv rfl rfl ?_
        refine to_mv rfl rfl ?_
        refine to_neg rfl (by omega) rfl ?_
        refine to_leq rfl rfl rfl ?_
        refine to_fix (s := 123) (b' := false) rfl (decide_eq_false (by omega)) ?_
        refine to_mv rfl rfl ?_
        refine to_gt rfl rfl ?_
        refine to_mv rfl rfl ?_
        refine to_gt rfl rfl ?_
        refine to_mv rfl rfl ?_
        refine to_gt rfl rfl ?_
        refine to_geq rfl rfl rfl ?_
        refine to_fix (s := 127) (b' := false) rfl (decide_eq_false (by omega)) ?_
        refine to_pkF rfl rfl rfl ?_
        refine to_nil ?_
        refine tn_code ?_
        refine t_ifF rfl ?_
        refine t_skip ?_
        refine tn_code ?_
        refine t_reg ?_
        refine to_mv rfl rfl ?_
        refine to_mv rfl rfl ?_
        refine to_mv rfl rfl ?_
        first | refine to_ix rfl rfl rfl (by first | omega | decide) (by first | omega | decide) rfl ?_ | refine to_ixi rfl rfl rfl (by omega) (by omega) (by omega) rfl ?_
        first | refine to_lds rfl rfl rfl ?_ | refine to_ldes rfl (by assumption) rfl rfl ?_
        refine to_add rfl rfl (by omega) rfl ?_
        refine to_as rfl rfl ?_
        refine to_nil ?_
        refine tn_blk ?_
        refine tn_code ?_
        refine t_reg ?_
        refine to_mv rfl rfl ?_
        refine to_add rfl rfl (by omega) rfl ?_
        refine to_as rfl rfl ?_
        refine to_nil ?_
        exact tn_loop2 (k + 1) [.snap lo47 w47.heap.size w47, .own b4 (isC (bkC b a c) 24), .snap 0 w.heap.size w] (rfl) (by omega) (by omega) (⟨rfl, rfl, rfl, rfl, rfl, rfl, congrArg (fun z => some (Value.int .i64 z)) (sumI_take hy).symm, rfl, trivial⟩)
      · try simp only [decide_eq_true_eq, decide_eq_false_iff_not, Bool.not_eq_true', Bool.not_eq_false', Int.not_lt, Int.not_le, ne_eq, Decidable.not_not] at h3
        try have h3b := inB_iff.1 h3
        refine to_gf rfl rfl rfl rfl ?_
        refine to_gf rfl rfl rfl rfl ?_
        refine to_gf rfl rfl rfl rfl ?_
        refine to_gf rfl rfl rfl rfl ?_
        refine to_gf rfl rfl rfl rfl ?_
        refine to_gt rfl rfl ?_
        refine to_pkF rfl rfl rfl ?_
        refine to_pkF rfl rfl rfl ?_
        refine to_nil ?_
        refine tn_code ?_
        refine t_ifF rfl ?_
        refine t_skip ?_
        refine tn_code ?_
        refine t_seq ?_
        refine t_seq ?_
        refine t_reg ?_
        refine to_mv rfl rfl ?_
        refine to_mv rfl rfl ?_
        first | refine to_ix rfl rfl rfl (by first | omega | decide) (by first | omega | decide) rfl ?_ | refine to_ixi rfl rfl rfl (by omega) (by omega) (by omega) rfl ?_
        first | refine to_lds rfl rfl rfl ?_ | refine to_ldes rfl (by assumption) rfl rfl ?_
        refine to_mv rfl rfl ?_
        refine to_mul rfl rfl (by first | omega | exact mul_ok (by omega) (by omega) (by omega) (by omega)) rfl ?_
        refine to_mv rfl rfl ?_
        refine to_mv rfl rfl ?_
        refine to_mul rfl rfl (by first | omega | exact mul_ok (by omega) (by omega) (by omega) (by omega)) rfl ?_
        refine to_sub rfl rfl (by omega) rfl ?_
        refine to_as rfl rfl ?_
        refine to_nil ?_
        refine tn_code ?_
        refine t_seq ?_
        refine t_reg ?_
        refine to_mv rfl rfl ?_
        refine to_mv rfl rfl ?_
        refine to_neg rfl (by omega) rfl ?_
        refine to_leq rfl rfl rfl ?_
        refine to_fix (s := 123) (b' := false) rfl (decide_eq_false (by omega)) ?_
        refine to_mv rfl rfl ?_
        refine to_gt rfl rfl ?_
        refine to_mv rfl rfl ?_
        refine to_gt rfl rfl ?_
        refine to_mv rfl rfl ?_
        refine to_gt rfl rfl ?_
        refine to_geq rfl rfl rfl ?_
        refine to_fix (s := 127) (b' := false) rfl (decide_eq_false (by omega)) ?_
        refine to_pkF rfl rfl rfl ?_
        refine to_nil ?_
        refine tn_code ?_
        refine t_ifF rfl ?_
        refine t_skip ?_
        refine tn_code ?_
        refine t_reg ?_
        refine to_mv rfl rfl ?_
        refine to_mv rfl rfl ?_
        refine to_mv rfl rfl ?_
        first | refine to_ix rfl rfl rfl (by first | omega | decide) (by first | omega | decide) rfl ?_ | refine to_ixi rfl rfl rfl (by omega) (by omega) (by omega) rfl ?_
        first | refine to_lds rfl rfl rfl ?_ | refine to_ldes rfl (by assumption) rfl rfl ?_
        refine to_add rfl rfl (by omega) rfl ?_
        refine to_as rfl rfl ?_
        refine to_nil ?_
        refine tn_blk ?_
        refine tn_code ?_
        refine t_reg ?_
        refine to_mv rfl rfl ?_
        refine to_add rfl rfl (by omega) rfl ?_
        refine to_as rfl rfl ?_
        refine to_nil ?_
        exact tn_loop2 (k + 1) [.snap lo47 w47.heap.size w47, .own b4 (isC (bkC b a c) 24), .snap 0 w.heap.size w] (rfl) (by omega) (by omega) (⟨rfl, rfl, rfl, rfl, rfl, rfl, congrArg (fun z => some (Value.int .i64 z)) (sumI_take hy).symm, rfl, trivial⟩)
    · try simp only [decide_eq_true_eq, decide_eq_false_iff_not, Bool.not_eq_true', Bool.not_eq_false', Int.not_lt, Int.not_le, ne_eq, Decidable.not_not] at h2
      try have h2b := inB_iff.1 h2
      have hk2 : k = b.hands.toNat := by omega
      subst hk2
      have hxa : sumI ((restL (shF b pr) b.hands.toNat).take b.hands.toNat) = pr := by rw [List.take_of_length_le (by rw [restL_len]; exact Nat.le_refl _)]; exact hsx
      refine t_exit ?_
      refine tx_code ?_
      refine tx_inv ?_
      refine tx_blk ?_
      refine tn_code ?_
      refine t_seq ?_
      refine t_regD rfl (by kernel_rfl) (by kernel_rfl) ?_
      first | refine to_lda rfl rfl rfl ?_ | refine to_ldea rfl (by assumption) rfl rfl ?_
      refine to_mv rfl rfl ?_
      refine to_call0 rfl rfl (fun w s => ref_Sheets b a c _ w (rdw s) hb) rfl ?_
      first | refine to_lda rfl rfl rfl ?_ | refine to_ldea rfl (by assumption) rfl rfl ?_
      refine to_mv rfl rfl ?_
      refine to_call0 rfl rfl (fun w s => ref_Sheets b a c _ w (rdw s) hb) rfl ?_
      refine to_eql rfl rfl rfl ?_
      refine to_fix (s := 141) (b' := true) rfl (decide_eq_true hsame) ?_
      refine to_as rfl rfl ?_
      refine to_nil ?_
      refine tn_code ?_
      refine t_seq ?_
      refine t_regD rfl (by kernel_rfl) (by kernel_rfl) ?_
      refine to_mv rfl rfl ?_
      refine to_mv rfl rfl ?_
      refine to_eql rfl rfl rfl ?_
      refine to_fix (s := 144) (b' := true) rfl (decide_eq_true hxa) ?_
      refine to_mv rfl rfl ?_
      refine to_gt rfl rfl ?_
      refine to_mv rfl rfl ?_
      refine to_gt rfl rfl ?_
      refine to_not rfl rfl ?_
      refine to_gt rfl rfl ?_
      refine to_mv rfl rfl ?_
      refine to_gt rfl rfl ?_
      refine to_mv rfl rfl ?_
      refine to_gt rfl rfl ?_
      refine to_mv rfl rfl ?_
      refine to_gt rfl rfl ?_
      first | refine to_ix rfl rfl rfl (by first | omega | decide) (by first | omega | decide) rfl ?_ | refine to_ixi rfl rfl rfl (by omega) (by omega) (by omega) rfl ?_
      refine to_gt rfl rfl ?_
      first | refine to_lds rfl rfl rfl ?_ | refine to_ldes rfl (by assumption) rfl rfl ?_
      refine to_gt rfl rfl ?_
      refine to_mv rfl rfl ?_
      refine to_gt rfl rfl ?_
      refine to_mv rfl rfl ?_
      refine to_gt rfl rfl ?_
      first | refine to_ix rfl rfl rfl (by first | omega | decide) (by first | omega | decide) rfl ?_ | refine to_ixi rfl rfl rfl (by omega) (by omega) (by omega) rfl ?_
      refine to_gt rfl rfl ?_
      first | refine to_lds rfl rfl rfl ?_ | refine to_ldes rfl (by assumption) rfl rfl ?_
      refine to_gt rfl rfl ?_
      refine to_geq rfl rfl rfl ?_
      refine to_fix (s := 157) (b' := true) rfl (decide_eq_true (by omega)) ?_
      refine to_gt rfl rfl ?_
      refine to_mv rfl rfl ?_
      refine to_gt rfl rfl ?_
      refine to_mv rfl rfl ?_
      refine to_gt rfl rfl ?_
      refine to_mv rfl rfl ?_
      refine to_gt rfl rfl ?_
      first | refine to_ix rfl rfl rfl (by first | omega | decide) (by first | omega | decide) rfl ?_ | refine to_ixi rfl rfl rfl (by omega) (by omega) (by omega) rfl ?_
      refine to_gt rfl rfl ?_
      first | refine to_lds rfl rfl rfl ?_ | refine to_ldes rfl (by assumption) rfl rfl ?_
      refine to_gt rfl rfl ?_
      refine to_mv rfl rfl ?_
      refine to_gt rfl rfl ?_
      refine to_mv rfl rfl ?_
      refine to_gt rfl rfl ?_
      first | refine to_ix rfl rfl rfl (by first | omega | decide) (by first | omega | decide) rfl ?_ | refine to_ixi rfl rfl rfl (by omega) (by omega) (by omega) rfl ?_
      refine to_gt rfl rfl ?_
      first | refine to_lds rfl rfl rfl ?_ | refine to_ldes rfl (by assumption) rfl rfl ?_
      refine to_gt rfl rfl ?_
      refine to_sub rfl rfl (by omega) rfl ?_
      refine to_gt rfl rfl ?_
      refine to_leq rfl rfl rfl ?_
      refine to_fix (s := 168) (b' := true) rfl (decide_eq_true (by omega)) ?_
      refine to_gt rfl rfl ?_
      refine to_pkT rfl rfl rfl ?_
      refine to_gt rfl rfl ?_
      refine to_pkF rfl rfl rfl ?_
      refine to_pkT rfl rfl rfl ?_
      refine to_mv rfl rfl ?_
      refine to_gt rfl rfl ?_
      refine to_call0 rfl rfl (fun w s => law_known w (gl_up hg (belowH_of s))) rfl ?_
      refine to_pkT rfl rfl rfl ?_
      refine to_as rfl rfl ?_
      refine to_nil ?_
      refine tn_code ?_
      refine t_ret1 rfl rfl (res_tmp rfl) (fun w' s => ?_)
      rfl

set_option maxRecDepth 20000 in
theorem w_PayJust_df (b : Bk) (a : Option Addr) (c : Nat) (pr one ot : Int) (w : World) (hr : Ro w 0 w.heap.size a b.lines.length c 10 (b.lines.map linC)) (hb : isBk b = true) (hs : isSum pr = true) (j1 j2 : Nat) (hj1 : one = (j1 : Int)) (hj2 : ot = (j2 : Int)) (hlt : j1 < j2) (hh2 : j2 < b.hands.toNat) (hap : 0 < allS b) (hsame : ¬ ownK b b.lines.length j1 = ownK b b.lines.length j2) (hg : Gl w) : Calls Tryz.prog 4 #[bkV b a c, (.int .i64 pr), (.int .i64 one), (.int .i64 ot)] w (RetV w (.bool true)) := by
  subst hj1
  subst hj2
  have hbb := isBk_b hb
  have hpb := isSum_b hs
  have hal := allS_le hb
  have hi1 : inB (j1 : Int) 0 (b.hands - 1) = true := inB_iff.2 (by omega)
  have hi2 : inB (j2 : Int) 0 (b.hands - 1) = true := inB_iff.2 (by omega)
  have hll : (restL (shF b pr) b.hands.toNat).length = b.hands.toNat := restL_len _ _
  have hz : ¬ allS b = 0 := by omega
  have hq : payShare b pr = ((restL (shF b pr) b.hands.toNat), 0) := by simp [payShare, hb, hs, hz, shF]
  have hsx := shF_sum (pr := pr) hb hap
  have hx1 := map_get (f := intC) (restL_get (g := shF b pr) (show j1 < b.hands.toNat by omega))
  have hx2 := map_get (f := intC) (restL_get (g := shF b pr) hh2)
  have hf1 := shF_b (pr := pr) hb hpb hap (show j1 < b.hands.toNat by omega)
  have hf2 := shF_b (pr := pr) hb hpb hap hh2
  refine calls_T0 (av := [_, _, _, _]) Tryz.func4 rfl rfl rfl ?_
  refine t_seq ?_
  refine t_reg ?_
  refine to_box rfl rfl (fun b4 => ?_)
  refine to_as rfl rfl ?_
  refine to_nil ?_
  refine tn_code ?_
  refine t_seq ?_
  refine t_seq ?_
  refine t_reg ?_
  first | refine to_lda rfl rfl rfl ?_ | refine to_ldea rfl (by assumption) rfl rfl ?_
  refine to_call0 rfl rfl (fun w s => law_right b a c w (rdw s)) rfl ?_
  refine to_fix (s := 19) (b' := true) rfl (hb) ?_
  refine to_not rfl rfl ?_
  refine to_mv rfl rfl ?_
  refine to_gt rfl rfl ?_
  refine to_mv rfl rfl ?_
  refine to_gt rfl rfl ?_
  refine to_call0 rfl rfl (fun w s => ref_Sum _ w) rfl ?_
  refine to_fix (s := 23) (b' := true) rfl (hs) ?_
  refine to_gt rfl rfl ?_
  refine to_not rfl rfl ?_
  refine to_pkF rfl rfl rfl ?_
  refine to_mv rfl rfl ?_
  refine to_gt rfl rfl ?_
  first | refine to_lda rfl rfl rfl ?_ | refine to_ldea rfl (by assumption) rfl rfl ?_
  refine to_gt rfl rfl ?_
  refine to_mv rfl rfl ?_
  refine to_gt rfl rfl ?_
  refine to_call0 rfl rfl (fun w s => ref_Hand b a c _ w (by omega)) rfl ?_
  refine to_fix (s := 29) (b' := true) rfl (hi1) ?_
  refine to_gt rfl rfl ?_
  refine to_not rfl rfl ?_
  refine to_pkF rfl rfl rfl ?_
  refine to_mv rfl rfl ?_
  refine to_gt rfl rfl ?_
  first | refine to_lda rfl rfl rfl ?_ | refine to_ldea rfl (by assumption) rfl rfl ?_
  refine to_gt rfl rfl ?_
  refine to_mv rfl rfl ?_
  refine to_gt rfl rfl ?_
  refine to_call0 rfl rfl (fun w s => ref_Hand b a c _ w (by omega)) rfl ?_
  refine to_fix (s := 35) (b' := true) rfl (hi2) ?_
  refine to_gt rfl rfl ?_
  refine to_not rfl rfl ?_
  refine to_pkF rfl rfl rfl ?_
  refine to_mv rfl rfl ?_
  refine to_gt rfl rfl ?_
  refine to_mv rfl rfl ?_
  refine to_gt rfl rfl ?_
  refine to_mv rfl rfl ?_
  refine to_gt rfl rfl ?_
  refine to_geq rfl rfl rfl ?_
  refine to_fix (s := 41) (b' := false) rfl (decide_eq_false (by omega)) ?_
  refine to_pkF rfl rfl rfl ?_
  refine to_nil ?_
  refine tn_code ?_
  refine t_ifF rfl ?_
  refine t_skip ?_
  refine tn_code ?_
  refine t_seq ?_
  refine t_reg ?_
  first | refine to_lda rfl rfl rfl ?_ | refine to_ldea rfl (by assumption) rfl rfl ?_
  refine to_mv rfl rfl ?_
  refine to_callR rfl rfl (fun w s => c_share (rdw s) hq) rfl (fun v47 lo47 w47 hlo47 hR47 => ?_)
  obtain ⟨pa47, pc47, rfl, hro47⟩ := hR47
  refine to_mv rfl rfl ?_
  refine to_ex rfl rfl rfl ?_
  refine to_ex rfl rfl rfl ?_
  refine to_as rfl rfl ?_
  refine to_as rfl rfl ?_
  refine to_nil ?_
  refine tn_code ?_
  refine t_seq ?_
  refine t_reg ?_
  refine to_as rfl rfl ?_
  refine to_nil ?_
  refine tn_code ?_
  refine t_seq ?_
  refine t_seq ?_
  refine t_reg ?_
  refine to_as rfl rfl ?_
  refine to_nil ?_
  refine tn_code ?_
  refine t_blk ?_
  refine t_loop2 (ι := Nat) (fun k => k ≤ b.hands.toNat) (fun k => [(1, (.int .i64 pr)), (2, (.int .i64 (j1 : Int))), (3, (.int .i64 (j2 : Int))), (4, (.pointer (some ⟨b4, 0, none⟩))), (9, .slice pa47 ((restL (shF b pr) b.hands.toNat)).length pc47), (10, (.int .i64 0)), (11, (.int .i64 (sumI ((ownL b).take k)))), (12, (.int .i64 (k : Int)))]) (fun k => [.snap lo47 w47.heap.size w47, .own b4 (isC (bkC b a c) 24), .snap 0 w.heap.size w]) (fun k => b.hands.toNat - k) (0) [.snap lo47 w47.heap.size w47, .own b4 (isC (bkC b a c) 24), .snap 0 w.heap.size w] (rfl) (Nat.zero_le _) (⟨rfl, rfl, rfl, rfl, rfl, rfl, rfl, rfl, trivial⟩) ?_
  rintro k hk
  show T _ _ _ ⟨_, [(1, (.int .i64 pr)), (2, (.int .i64 (j1 : Int))), (3, (.int .i64 (j2 : Int))), (4, (.pointer (some ⟨b4, 0, none⟩))), (9, .slice pa47 ((restL (shF b pr) b.hands.toNat)).length pc47), (10, (.int .i64 0)), (11, (.int .i64 (sumI ((ownL b).take k)))), (12, (.int .i64 (k : Int)))], _⟩ [.snap lo47 w47.heap.size w47, .own b4 (isC (bkC b a c) 24), .snap 0 w.heap.size w]
  refine t_seq ?_
  refine t_seq ?_
  refine t_reg ?_
  refine to_mv rfl rfl ?_
  first | refine to_fa rfl rfl rfl (by simp only [Nat.reduceAdd]; rfl) rfl ?_ | refine to_fae rfl rfl rfl (by simp only [Nat.reduceAdd]; rfl) rfl ?_
  first | refine to_lds rfl rfl rfl ?_ | refine to_ldes rfl (by assumption) rfl rfl ?_
  refine to_lss rfl rfl rfl ?_
  refine to_nil ?_
  refine tn_code ?_
  refine t_if rfl (fun h1 => ?_) (fun h1 => ?_)
  · try simp only [decide_eq_true_eq, decide_eq_false_iff_not, Bool.not_eq_true', Bool.not_eq_false', Int.not_lt, Int.not_le, ne_eq, Decidable.not_not] at h1
    try have h1b := inB_iff.1 h1
    have hkn : k < b.hands.toNat := by omega
    have hsb := sumI_bd (B := 100) (by decide) (xs := ownL b) (ownL_b hb) k
    have hob := ownK_b hb b.lines.length k
    refine t_skip ?_
    refine tn_code ?_
    refine t_seq ?_
    refine t_blk ?_
    refine t_reg ?_
    refine to_mv rfl rfl ?_
    first | refine to_lda rfl rfl rfl ?_ | refine to_ldea rfl (by assumption) rfl rfl ?_
    refine to_mv rfl rfl ?_
    refine to_call0 rfl rfl (fun w s => ref_Sheets b a c _ w (rdw s) hb) rfl ?_
    refine to_add rfl rfl (by omega) rfl ?_
    refine to_as rfl rfl ?_
    refine to_nil ?_
    refine tn_blk ?_
    refine tn_code ?_
    refine t_reg ?_
    refine to_mv rfl rfl ?_
    refine to_add rfl rfl (by omega) rfl ?_
    refine to_as rfl rfl ?_
    refine to_nil ?_
    exact tn_loop2 (k + 1) [.snap lo47 w47.heap.size w47, .own b4 (isC (bkC b a c) 24), .snap 0 w.heap.size w] (rfl) (by omega) (by omega) (⟨rfl, rfl, rfl, rfl, rfl, rfl, congrArg (fun z => some (Value.int .i64 z)) (sumI_take (ownL_get hkn)).symm, rfl, trivial⟩)
  · try simp only [decide_eq_true_eq, decide_eq_false_iff_not, Bool.not_eq_true', Bool.not_eq_false', Int.not_lt, Int.not_le, ne_eq, Decidable.not_not] at h1
    try have h1b := inB_iff.1 h1
    have hk2 : k = b.hands.toNat := by omega
    subst hk2
    have hta : (sumI ((ownL b).take b.hands.toNat)) = allS b := by rw [allS, List.take_of_length_le (by rw [ownL_len]; exact Nat.le_refl _)]
    refine t_exit ?_
    refine tx_code ?_
    refine tx_inv ?_
    refine tx_blk ?_
    refine tn_code ?_
    refine t_seq ?_
    refine t_seq ?_
    refine t_reg ?_
    refine to_mv rfl rfl ?_
    refine to_eql rfl rfl rfl ?_
    refine to_fix (s := 62) (b' := false) rfl (decide_eq_false (by omega)) ?_
    refine to_nil ?_
    refine tn_code ?_
    refine t_ifF rfl ?_
    refine t_skip ?_
    refine tn_code ?_
    refine t_seq ?_
    refine t_seq ?_
    refine t_reg ?_
    refine to_mv rfl rfl ?_
    refine to_neq rfl rfl rfl ?_
    refine to_fix (s := 69) (b' := false) rfl (rfl) ?_
    refine to_mv rfl rfl ?_
    refine to_gt rfl rfl ?_
    refine to_mv rfl rfl ?_
    refine to_gt rfl rfl ?_
    refine to_lenS rfl rfl ?_
    refine to_gt rfl rfl ?_
    first | refine to_fa rfl rfl rfl (by simp only [Nat.reduceAdd]; rfl) rfl ?_ | refine to_fae rfl rfl rfl (by simp only [Nat.reduceAdd]; rfl) rfl ?_
    refine to_gt rfl rfl ?_
    first | refine to_lds rfl rfl rfl ?_ | refine to_ldes rfl (by assumption) rfl rfl ?_
    refine to_gt rfl rfl ?_
    refine to_neq rfl rfl rfl ?_
    refine to_fix (s := 75) (b' := false) rfl (by simp [hll]; omega) ?_
    refine to_pkF rfl rfl rfl ?_
    refine to_nil ?_
    refine tn_code ?_
    refine t_ifF rfl ?_
    refine t_skip ?_
    refine tn_code ?_
    refine t_seq ?_
    refine t_reg ?_
    refine to_as rfl rfl ?_
    refine to_nil ?_
    refine tn_code ?_
    refine t_seq ?_
    refine t_seq ?_
    refine t_reg ?_
    refine to_as rfl rfl ?_
    refine to_nil ?_
    refine tn_code ?_
    refine t_blk ?_
    refine t_loop2 (ι := Nat) (fun k => k ≤ b.hands.toNat) (fun k => [(1, (.int .i64 pr)), (2, (.int .i64 (j1 : Int))), (3, (.int .i64 (j2 : Int))), (4, (.pointer (some ⟨b4, 0, none⟩))), (9, .slice pa47 (restL (shF b pr) b.hands.toNat).length pc47), (11, (.int .i64 (allS b))), (13, (.int .i64 (sumI ((restL (shF b pr) b.hands.toNat).take k)))), (14, (.int .i64 (k : Int)))]) (fun k => [.snap lo47 w47.heap.size w47, .own b4 (isC (bkC b a c) 24), .snap 0 w.heap.size w]) (fun k => b.hands.toNat - k) (0) [.snap lo47 w47.heap.size w47, .own b4 (isC (bkC b a c) 24), .snap 0 w.heap.size w] (rfl) (Nat.zero_le _) (⟨rfl, rfl, rfl, rfl, rfl, congrArg (fun z => some (Value.int .i64 z)) hta, rfl, rfl, trivial⟩) ?_
    rintro k hk
    show T _ _ _ ⟨_, [(1, (.int .i64 pr)), (2, (.int .i64 (j1 : Int))), (3, (.int .i64 (j2 : Int))), (4, (.pointer (some ⟨b4, 0, none⟩))), (9, .slice pa47 (restL (shF b pr) b.hands.toNat).length pc47), (11, (.int .i64 (allS b))), (13, (.int .i64 (sumI ((restL (shF b pr) b.hands.toNat).take k)))), (14, (.int .i64 (k : Int)))], _⟩ [.snap lo47 w47.heap.size w47, .own b4 (isC (bkC b a c) 24), .snap 0 w.heap.size w]
    refine t_seq ?_
    refine t_seq ?_
    refine t_reg ?_
    refine to_mv rfl rfl ?_
    refine to_mv rfl rfl ?_
    refine to_lenS rfl rfl ?_
    refine to_lss rfl rfl rfl ?_
    refine to_nil ?_
    refine tn_code ?_
    refine t_if rfl (fun h2 => ?_) (fun h2 => ?_)
    · try simp only [decide_eq_true_eq, decide_eq_false_iff_not, Bool.not_eq_true', Bool.not_eq_false', Int.not_lt, Int.not_le, ne_eq, Decidable.not_not] at h2
      try have h2b := inB_iff.1 h2
      have hkn : k < b.hands.toNat := by omega
      have hy := restL_get (g := shF b pr) hkn
      have hyy := map_get (f := intC) hy
      have hfb := shF_b (pr := pr) hb hpb hap hkn
      have hnr := shF_near (pr := pr) hb hap hkn
      have hnn := shF_none (pr := pr) hb hap hkn
      have hob := ownK_b hb b.lines.length k
      have hm1 := mul_bd (B := 959999) (C := 300) hfb.1 (by omega) (by omega) hal
      have hm2 := mul_bd (B := 959999) (C := 100) hpb.1 hpb.2 hob.1 (by omega)
      have hsb := sumI_bd (B := 959999) (by decide) (xs := (restL (shF b pr) b.hands.toNat)) (fun x hx => by simp only [restL, List.mem_map, List.mem_range] at hx; obtain ⟨j, hj, rfl⟩ := hx; have := shF_b (pr := pr) hb hpb hap hj; omega) k
      refine t_skip ?_
      refine tn_code ?_
      refine t_seq ?_
      refine t_blk ?_
      refine t_seq ?_
      refine t_reg ?_
      first | refine to_lda rfl rfl rfl ?_ | refine to_ldea rfl (by assumption) rfl rfl ?_
      refine to_mv rfl rfl ?_
      refine to_call0 rfl rfl (fun w s => ref_Sheets b a c _ w (rdw s) hb) rfl ?_
      refine to_as rfl rfl ?_
      refine to_nil ?_
      refine tn_code ?_
      refine t_seq ?_
      refine t_seq ?_
      refine t_reg ?_
      refine to_mv rfl rfl ?_
      refine to_mv rfl rfl ?_
      first | refine to_ix rfl rfl rfl (by first | omega | decide) (by first | omega | decide) rfl ?_ | refine to_ixi rfl rfl rfl (by omega) (by omega) (by omega) rfl ?_
      first | refine to_lds rfl rfl rfl ?_ | refine to_ldes rfl (by assumption) rfl rfl ?_
      refine to_lss rfl rfl rfl ?_
      refine to_fix (s := 90) (b' := false) rfl (decide_eq_false (by omega)) ?_
      refine to_mv rfl rfl ?_
      refine to_gt rfl rfl ?_
      refine to_mv rfl rfl ?_
      refine to_gt rfl rfl ?_
      refine to_mv rfl rfl ?_
      refine to_gt rfl rfl ?_
      first | refine to_ix rfl rfl rfl (by first | omega | decide) (by first | omega | decide) rfl ?_ | refine to_ixi rfl rfl rfl (by omega) (by omega) (by omega) rfl ?_
      refine to_gt rfl rfl ?_
      first | refine to_lds rfl rfl rfl ?_ | refine to_ldes rfl (by assumption) rfl rfl ?_
      refine to_gt rfl rfl ?_
      refine to_mv rfl rfl ?_
      refine to_gt rfl rfl ?_
      refine to_gtr rfl rfl rfl ?_
      refine to_fix (s := 97) (b' := false) rfl (decide_eq_false (by omega)) ?_
      refine to_pkF rfl rfl rfl ?_
      refine to_mv rfl rfl ?_
      refine to_gt rfl rfl ?_
      refine to_mv rfl rfl ?_
      refine to_gt rfl rfl ?_
      refine to_eql rfl rfl rfl ?_
      refine to_gt rfl rfl ?_
      refine to_mv rfl rfl ?_
      refine to_gs rfl rfl rfl (fun h3 => ?_) (fun h3 => ?_)
      · try simp only [decide_eq_true_eq, decide_eq_false_iff_not, Bool.not_eq_true', Bool.not_eq_false', Int.not_lt, Int.not_le, ne_eq, Decidable.not_not] at h3
        try have h3b := inB_iff.1 h3
        refine to_gt rfl rfl ?_
        refine to_mv rfl rfl ?_
        refine to_gt rfl rfl ?_
        refine to_mv rfl rfl ?_
        refine to_gt rfl rfl ?_
        first | refine to_ix rfl rfl rfl (by first | omega | decide) (by first | omega | decide) rfl ?_ | refine to_ixi rfl rfl rfl (by omega) (by omega) (by omega) rfl ?_
        refine to_gt rfl rfl ?_
        first | refine to_lds rfl rfl rfl ?_ | refine to_ldes rfl (by assumption) rfl rfl ?_
        refine to_gt rfl rfl ?_
        refine to_neq rfl rfl rfl ?_
        refine to_fix (s := 107) (b' := false) rfl (by simp [hnn (by omega)]) ?_
        refine to_gt rfl rfl ?_
        refine to_pkT rfl rfl rfl ?_
        refine to_pkF rfl rfl rfl ?_
        refine to_nil ?_
        refine tn_code ?_
        refine t_ifF rfl ?_
        refine t_skip ?_
        refine tn_code ?_
        refine t_seq ?_
        refine t_seq ?_
        refine t_reg ?_
        refine to_mv rfl rfl ?_
        refine to_mv rfl rfl ?_
        first | refine to_ix rfl rfl rfl (by first | omega | decide) (by first | omega | decide) rfl ?_ | refine to_ixi rfl rfl rfl (by omega) (by omega) (by omega) rfl ?_
        first | refine to_lds rfl rfl rfl ?_ | refine to_ldes rfl (by assumption) rfl rfl ?_
        refine to_mv rfl rfl ?_
        refine to_mul rfl rfl (by first | omega | exact mul_ok (by omega) (by omega) (by omega) (by omega)) rfl ?_
        refine to_mv rfl rfl ?_
        refine to_mv rfl rfl ?_
        refine to_mul rfl rfl (by first | omega | exact mul_ok (by omega) (by omega) (by omega) (by omega)) rfl ?_
        refine to_sub rfl rfl (by omega) rfl ?_
        refine to_as rfl rfl ?_
        refine to_nil ?_
        refine tn_code ?_
        refine t_seq ?_
        refine t_reg ?_
        refine to_mv rfl rfl ?_
        refine to_mv rfl rfl ?_
        refine to_neg rfl (by omega) rfl ?_
        refine to_leq rfl rfl rfl ?_
        refine to_fix (s := 123) (b' := false) rfl (decide_eq_false (by omega)) ?_
        refine to_mv rfl rfl ?_
        refine to_gt rfl rfl ?_
        refine to_mv rfl rfl ?_
        refine to_gt rfl rfl ?_
        refine to_mv rfl rfl ?_
        refine to_gt rfl rfl ?_
        refine to_geq rfl rfl rfl ?_
        refine to_fix (s := 127) (b' := false) rfl (decide_eq_false (by omega)) ?_
        refine to_pkF rfl rfl rfl ?_
        refine to_nil ?_
        refine tn_code ?_
        refine t_ifF rfl ?_
        refine t_skip ?_
        refine tn_code ?_
        refine t_reg ?_
        refine to_mv rfl rfl ?_
        refine to_mv rfl rfl ?_
        refine to_mv rfl rfl ?_
        first | refine to_ix rfl rfl rfl (by first | omega | decide) (by first | omega | decide) rfl ?_ | refine to_ixi rfl rfl rfl (by omega) (by omega) (by omega) rfl ?_
        first | refine to_lds rfl rfl rfl ?_ | refine to_ldes rfl (by assumption) rfl rfl ?_
        refine to_add rfl rfl (by omega) rfl ?_
        refine to_as rfl rfl ?_
        refine to_nil ?_
        refine tn_blk ?_
        refine tn_code ?_
        refine t_reg ?_
        refine to_mv rfl rfl ?_
        refine to_add rfl rfl (by omega) rfl ?_
        refine to_as rfl rfl ?_
        refine to_nil ?_
        exact tn_loop2 (k + 1) [.snap lo47 w47.heap.size w47, .own b4 (isC (bkC b a c) 24), .snap 0 w.heap.size w] (rfl) (by omega) (by omega) (⟨rfl, rfl, rfl, rfl, rfl, rfl, congrArg (fun z => some (Value.int .i64 z)) (sumI_take hy).symm, rfl, trivial⟩)
      · try simp only [decide_eq_true_eq, decide_eq_false_iff_not, Bool.not_eq_true', Bool.not_eq_false', Int.not_lt, Int.not_le, ne_eq, Decidable.not_not] at h3
        try have h3b := inB_iff.1 h3
        refine to_gf rfl rfl rfl rfl ?_
        refine to_gf rfl rfl rfl rfl ?_
        refine to_gf rfl rfl rfl rfl ?_
        refine to_gf rfl rfl rfl rfl ?_
        refine to_gf rfl rfl rfl rfl ?_
        refine to_gt rfl rfl ?_
        refine to_pkF rfl rfl rfl ?_
        refine to_pkF rfl rfl rfl ?_
        refine to_nil ?_
        refine tn_code ?_
        refine t_ifF rfl ?_
        refine t_skip ?_
        refine tn_code ?_
        refine t_seq ?_
        refine t_seq ?_
        refine t_reg ?_
        refine to_mv rfl rfl ?_
        refine to_mv rfl rfl ?_
        first | refine to_ix rfl rfl rfl (by first | omega | decide) (by first | omega | decide) rfl ?_ | refine to_ixi rfl rfl rfl (by omega) (by omega) (by omega) rfl ?_
        first | refine to_lds rfl rfl rfl ?_ | refine to_ldes rfl (by assumption) rfl rfl ?_
        refine to_mv rfl rfl ?_
        refine to_mul rfl rfl (by first | omega | exact mul_ok (by omega) (by omega) (by omega) (by omega)) rfl ?_
        refine to_mv rfl rfl ?_
        refine to_mv rfl rfl ?_
        refine to_mul rfl rfl (by first | omega | exact mul_ok (by omega) (by omega) (by omega) (by omega)) rfl ?_
        refine to_sub rfl rfl (by omega) rfl ?_
        refine to_as rfl rfl ?_
        refine to_nil ?_
        refine tn_code ?_
        refine t_seq ?_
        refine t_reg ?_
        refine to_mv rfl rfl ?_
        refine to_mv rfl rfl ?_
        refine to_neg rfl (by omega) rfl ?_
        refine to_leq rfl rfl rfl ?_
        refine to_fix (s := 123) (b' := false) rfl (decide_eq_false (by omega)) ?_
        refine to_mv rfl rfl ?_
        refine to_gt rfl rfl ?_
        refine to_mv rfl rfl ?_
        refine to_gt rfl rfl ?_
        refine to_mv rfl rfl ?_
        refine to_gt rfl rfl ?_
        refine to_geq rfl rfl rfl ?_
        refine to_fix (s := 127) (b' := false) rfl (decide_eq_false (by omega)) ?_
        refine to_pkF rfl rfl rfl ?_
        refine to_nil ?_
        refine tn_code ?_
        refine t_ifF rfl ?_
        refine t_skip ?_
        refine tn_code ?_
        refine t_reg ?_
        refine to_mv rfl rfl ?_
        refine to_mv rfl rfl ?_
        refine to_mv rfl rfl ?_
        first | refine to_ix rfl rfl rfl (by first | omega | decide) (by first | omega | decide) rfl ?_ | refine to_ixi rfl rfl rfl (by omega) (by omega) (by omega) rfl ?_
        first | refine to_lds rfl rfl rfl ?_ | refine to_ldes rfl (by assumption) rfl rfl ?_
        refine to_add rfl rfl (by omega) rfl ?_
        refine to_as rfl rfl ?_
        refine to_nil ?_
        refine tn_blk ?_
        refine tn_code ?_
        refine t_reg ?_
        refine to_mv rfl rfl ?_
        refine to_add rfl rfl (by omega) rfl ?_
        refine to_as rfl rfl ?_
        refine to_nil ?_
        exact tn_loop2 (k + 1) [.snap lo47 w47.heap.size w47, .own b4 (isC (bkC b a c) 24), .snap 0 w.heap.size w] (rfl) (by omega) (by omega) (⟨rfl, rfl, rfl, rfl, rfl, rfl, congrArg (fun z => some (Value.int .i64 z)) (sumI_take hy).symm, rfl, trivial⟩)
    · try simp only [decide_eq_true_eq, decide_eq_false_iff_not, Bool.not_eq_true', Bool.not_eq_false', Int.not_lt, Int.not_le, ne_eq, Decidable.not_not] at h2
      try have h2b := inB_iff.1 h2
      have hk2 : k = b.hands.toNat := by omega
      subst hk2
      have hxa : sumI ((restL (shF b pr) b.hands.toNat).take b.hands.toNat) = pr := by rw [List.take_of_length_le (by rw [restL_len]; exact Nat.le_refl _)]; exact hsx
      refine t_exit ?_
      refine tx_code ?_
      refine tx_inv ?_
      refine tx_blk ?_
      refine tn_code ?_
      refine t_seq ?_
      refine t_regD rfl (by kernel_rfl) (by kernel_rfl) ?_
      first | refine to_lda rfl rfl rfl ?_ | refine to_ldea rfl (by assumption) rfl rfl ?_
      refine to_mv rfl rfl ?_
      refine to_call0 rfl rfl (fun w s => ref_Sheets b a c _ w (rdw s) hb) rfl ?_
      first | refine to_lda rfl rfl rfl ?_ | refine to_ldea rfl (by assumption) rfl rfl ?_
      refine to_mv rfl rfl ?_
      refine to_call0 rfl rfl (fun w s => ref_Sheets b a c _ w (rdw s) hb) rfl ?_
      refine to_eql rfl rfl rfl ?_
      refine to_fix (s := 141) (b' := false) rfl (decide_eq_false hsame) ?_
      refine to_as rfl rfl ?_
      refine to_nil ?_
      refine tn_code ?_
      refine t_seq ?_
      refine t_regD rfl (by kernel_rfl) (by kernel_rfl) ?_
      refine to_mv rfl rfl ?_
      refine to_mv rfl rfl ?_
      refine to_eql rfl rfl rfl ?_
      refine to_fix (s := 144) (b' := true) rfl (decide_eq_true hxa) ?_
      refine to_mv rfl rfl ?_
      refine to_gt rfl rfl ?_
      refine to_mv rfl rfl ?_
      refine to_gt rfl rfl ?_
      refine to_not rfl rfl ?_
      refine to_gt rfl rfl ?_
      refine to_mv rfl rfl ?_
      refine to_gf rfl rfl rfl rfl ?_
      refine to_gf rfl rfl rfl rfl ?_
      refine to_gf rfl rfl rfl rfl ?_
      refine to_gf rfl rfl rfl rfl ?_
      refine to_gf rfl rfl rfl rfl ?_
      refine to_gf rfl rfl rfl rfl ?_
      refine to_gf rfl rfl rfl rfl ?_
      refine to_gf rfl rfl rfl rfl ?_
      refine to_gf rfl rfl rfl rfl ?_
      refine to_gf rfl rfl rfl rfl ?_
      refine to_gf rfl rfl rfl rfl ?_
      refine to_gf rfl rfl rfl rfl ?_
      refine to_gf rfl rfl rfl rfl ?_
      refine to_gf rfl rfl rfl rfl ?_
      refine to_gf rfl rfl rfl rfl ?_
      refine to_gf rfl rfl rfl rfl ?_
      refine to_gf rfl rfl rfl rfl ?_
      refine to_gf rfl rfl rfl rfl ?_
      refine to_gf rfl rfl rfl rfl ?_
      refine to_gf rfl rfl rfl rfl ?_
      refine to_gf rfl rfl rfl rfl ?_
      refine to_gt rfl rfl ?_
      refine to_pkT rfl rfl rfl ?_
      refine to_pkT rfl rfl rfl ?_
      refine to_mv rfl rfl ?_
      refine to_gt rfl rfl ?_
      refine to_call0 rfl rfl (fun w s => law_known w (gl_up hg (belowH_of s))) rfl ?_
      refine to_pkT rfl rfl rfl ?_
      refine to_as rfl rfl ?_
      refine to_nil ?_
      refine tn_code ?_
      refine t_ret1 rfl rfl (res_tmp rfl) (fun w' s => ?_)
      rfl

theorem w_PayJust (b : Bk) (a : Option Addr) (c : Nat) (pr one ot : Int) (w : World) (hr : Ro w 0 w.heap.size a b.lines.length c 10 (b.lines.map linC)) (hg : Gl w) : Calls Tryz.prog 4 #[bkV b a c, .int .i64 pr, .int .i64 one, .int .i64 ot] w (RetV w (.bool true)) := by
  rcases bool_tf (isBk b) with hb | hb
  · rcases bool_tf (isSum pr) with hs | hs
    · rcases bool_tf (inB one 0 (b.hands - 1)) with h1 | h1
      · rcases bool_tf (inB ot 0 (b.hands - 1)) with h2 | h2
        · by_cases hge : one ≥ ot
          · exact w_PayJust_ge b a c pr one ot w hr hb hs h1 h2 hge hg
          · have e1 := inB_iff.1 h1
            have e2 := inB_iff.1 h2
            obtain ⟨j1, hj1⟩ := Int.eq_ofNat_of_zero_le e1.1
            obtain ⟨j2, hj2⟩ := Int.eq_ofNat_of_zero_le e2.1
            by_cases hz : allS b = 0
            · exact w_PayJust_z b a c pr one ot w hr hb hs j1 j2 hj1 hj2 (by omega) (by omega) hz hg
            · have hap : 0 < allS b := by have := allS_nn hb; omega
              by_cases hsame : ownK b b.lines.length j1 = ownK b b.lines.length j2
              · exact w_PayJust_sm b a c pr one ot w hr hb hs j1 j2 hj1 hj2 (by omega) (by omega) hap hsame hg
              · exact w_PayJust_df b a c pr one ot w hr hb hs j1 j2 hj1 hj2 (by omega) (by omega) hap hsame hg
        · exact w_PayJust_o2 b a c pr one ot w hr hb hs h1 h2 hg
      · exact w_PayJust_o1 b a c pr one ot w hr hb hs h1 hg
    · exact w_PayJust_sf b a c pr one ot w hr hb hs hg
  · exact w_PayJust_bf b a c pr one ot w hr hb hg

end Go.Proofs


namespace Go.Proofs.YtpnjgmioohofcabGreatDoor
open Go Go.Sx Go.RowKit Go.WideShapes Go.ChangeShapes

section
variable {H : Type} {enc : TypeId × Value → H}
set_option maxRecDepth 100000 in
theorem payJust_law (W : World) (base : Nat) (args : Array Value) (ds : List (DataW H)) (p : List MemPlace) (hval : ∀ (j : Nat) t v, Tryz.f4.params[j]? = some t → args[j]? = some v → Value.okWide Tryz.prog W .any base t v)
    (hA : DataW.TrodAll enc Tryz.prog W 0 (fun _ => true) true Tryz.f4.params.toList args.toList ds p) (hg : Gl W) : Calls Tryz.prog 4 args W (RetV W (.bool true)) := by
  obtain ⟨l⟩ := args
  rw [Tryz.params4] at hA hval
  obtain ⟨v0, l0, d0, e0, p0, q0, hl0, rfl, h0, hA0⟩ := trodAll_cons hA
  have hl0' : l = v0 :: l0 := hl0
  subst hl0'
  obtain ⟨v1, l1, d1, e1, p1, q1, hl1, rfl, h1, hA1⟩ := trodAll_cons hA0
  subst hl1
  obtain ⟨v2, l2, d2, e2, p2, q2, hl2, rfl, h2, hA2⟩ := trodAll_cons hA1
  subst hl2
  obtain ⟨v3, l3, d3, e3, p3, q3, hl3, rfl, h3, hA3⟩ := trodAll_cons hA2
  subst hl3
  obtain rfl := trodAll_nil hA3
  obtain ⟨b0, a0, c0, rfl, hr0⟩ := open_bk (hval 0 24 v0 rfl rfl) h0
  obtain ⟨n1, rfl, _⟩ := open_i u3 (hval 1 3 v1 rfl rfl) h1
  obtain ⟨n2, rfl, _⟩ := open_i u3 (hval 2 3 v2 rfl rfl) h2
  obtain ⟨n3, rfl, _⟩ := open_i u3 (hval 3 3 v3 rfl rfl) h3
  exact w_PayJust b0 a0 c0 n1 n2 n3 W hr0 hg
end

set_option maxRecDepth 100000 in
theorem payJust_lifted (os : Os) (started : os.Started) (H : Type) (enc : TypeId × Value → H) :
    ReturnsInHanded {} Tryz.checked os 4 .any (fun w args => (Rows.payJustSpec.pre enc Tryz.prog Tryz.f4 [] false w args ∧ laidMetH Tryz.prog laidL w) ∧ sizedMet enc Tryz.prog Tryz.f4 (OpenSpec.ofChange Rows.payJustSpec) false w args)
      (Rows.payJustSpec.post enc Tryz.prog Tryz.f4 false true false false) :=
  law_lifted started (by kernel_rfl) Tryz.func4 rfl rfl (by kernel_rfl) (fun ds h => by
      match ds, h with
      | [_, _, _, _], _ => rfl)
    (ChangeSpec.witness_shaped (enc := enc) (C := Tryz.checked) (os := os) (X := fun w _ => laidMetH Tryz.prog laidL w) false (World.laidAll Tryz.prog os laidL) #[.agg #[.int .i64 0, .int .i64 0, .int .i64 0, .int .i64 0, .int .i64 0, .int .i64 0, .slice none 0 0], .int .i64 0, .int .i64 0, .int .i64 0] 8 (World.laidAll_os _ _ _)
      (World.shaped_of_ZipB (by kernel_rfl) (by kernel_rfl)) (by kernel_rfl) (by kernel_rfl) (by kernel_rfl)
      (by rw [MakeChecks.laidMetH_plain _ _ _ (by kernel_rfl)]; exact laidMet_laidAll _ (by kernel_rfl) (by kernel_rfl)))
    (fun W base args ds p hval hA hg => payJust_law W base args ds p hval hA hg)

theorem payJust_holds : Rows.PayJustSaid :=
  OpenClaim.holds_of_wide 4 Tryz.f4 rfl rfl rfl rfl rfl rfl rfl ⟨rfl, rfl, rfl, rfl, rfl⟩ rfl rfl rfl rfl rfl (by kernel_rfl) Tryz.func4 (by kernel_rfl)
    (of_decide_eq_true (by kernel_rfl)) (by unfold Func.isWrapper; first | (rw [if_pos (by decide +kernel)]; kernel_rfl) | (rw [if_neg (by decide +kernel)]; exact ⟨rfl, rfl⟩))
    (fun os started H enc _ => payJust_lifted os started H enc)

theorem payJust_card : Rows.PayJustCardSaid :=
  Claim7.holds_tied_plain_at .later [] [.data, .data, .data, .data, .pinned] true (true, "5a6ea851d6db5332263f4202e8bb68f7d38141fb34fef9e77fb9ecad3099a87b") true
    payJust_holds (fun _ h => by cases h) (by kernel_rfl) (fun _ h => by cases h) payJust_row_tie rfl ⟨rfl, rfl⟩ (by kernel_rfl) rfl
    (fun f fn hf hfn => by
      obtain rfl : f = 4 := Option.some.inj ((show Tryz.prog.funcNamed "ephemerist/ephemeristlaw08.PayJust" = some 4 by kernel_rfl).symm.trans hf) |>.symm
      obtain rfl : fn = Tryz.f4 := (Option.some.inj (Tryz.func4.symm.trans hfn)).symm
      exact ⟨by kernel_rfl, fun j t ht => by
        rw [Tryz.params4] at ht
        have hm : t ∈ [24, 3, 3, 3] := by simpa using Array.mem_of_getElem? ht
        have hall : ([24, 3, 3, 3].all fun u => !Tryz.prog.wantsStandIn u) = true := by kernel_rfl
        exact (show Tryz.prog.wantsStandIn t = false by simpa using List.all_eq_true.1 hall t hm)⟩)
    (by kernel_rfl)
end Go.Proofs.YtpnjgmioohofcabGreatDoor

