import JvmDerived
import JvmDerived.Pilot.@@N@@Statement
import JvmDerived.Pilot.@@N@@Code
set_option linter.unusedVariables false
set_option linter.unusedSimpArgs false
namespace Jvm.OwnFlat
open Jvm Jvm.ClassFile Sem Op Lib Jvm.Free Jvm.Stand Jvm.LawKit Jvm.RoadKit
abbrev St : Type := (Nat → Int32) × (Nat → Int64) × (Nat → Int → Int32)
def gI (σ : St) (k : Nat) : Int32 := σ.1 k
def gL (σ : St) (k : Nat) : Int64 := σ.2.1 k
def gA (σ : St) (k : Nat) (i : Int) : Int32 := σ.2.2 k i
def sI (σ : St) (k : Nat) (v : Int32) : St := (fun q => if q = k then v else σ.1 q, σ.2.1, σ.2.2)
def sA (σ : St) (k : Nat) (i : Int) (v : Int32) : St := (σ.1, σ.2.1, fun q j => if q = k ∧ j = i then v else σ.2.2 q j)
def z0 : St := (fun _ => 0, fun _ => 0, fun _ _ => 0)
theorem b7s (σ : St) (k q : Nat) (v : Int32) : gI (sI σ k v) q = if q = k then v else gI σ q := rfl
theorem b8K (σ : St) (k q : Nat) (i : Int) (v : Int32) : gI (sA σ k i v) q = gI σ q := rfl
theorem b8P (σ : St) (k q : Nat) (v : Int32) : gL (sI σ k v) q = gL σ q := rfl
theorem b8V (σ : St) (k q : Nat) (i : Int) (v : Int32) : gL (sA σ k i v) q = gL σ q := rfl
theorem b7O (σ : St) (k q : Nat) (i j : Int) (v : Int32) : gA (sA σ k i v) q j = if q = k ∧ j = i then v else gA σ q j := rfl
def up (ad : Nat → Addr) : Value → Value
 | .ref k => .ref (ad k)
 | v => v
theorem a8N (ad : Nat → Addr) (v : Value) : (up ad v).category = v.category := by cases v <;> rfl
theorem b0R (ad : Nat → Addr) (st : List Value) : ((st.map (up ad)).map fun v => v.category) = st.map fun v => v.category := by
 rw [List.map_map]; exact List.map_congr_left fun v _ => a8N ad v
def WF (A : Array Slot) : Prop := (∀ i : Nat, A[i]? = some Slot.second → ∃ (j : Nat) (w : Value), i = j + 1 ∧ A[j]? = some (Slot.val w) ∧ w.category = 2) ∧ ∀ (i : Nat) (w : Value), A[i]? = some (Slot.val w) → w.category = 2 → A[i + 1]? = some Slot.second
def LocOK (ad : Nat → Addr) (L : List (Option Value)) (A : Array Slot) : Prop := A.size = L.length ∧ WF A ∧ ∀ (i : Nat) (v : Value), L[i]? = some (some v) → A[i]? = some (Slot.val (up ad v))
def b7K : Option (Option Value) → Bool
 | some (some v) => v.category == 2
 | _ => false
def st1 (L : List (Option Value)) (i : Nat) (v : Value) : List (Option Value) := (bif b7K L[i - 1]? then L.set (i - 1) none else L).set i (some v)
theorem b8D (v : Value) : v.category = 1 ∨ v.category = 2 := by cases v <;> simp [Value.category]
theorem b6s {A : Array Slot} {i : Nat} {v : Value} (hw : WF A) (hi : i < A.size) (hv : v.category = 1) :
  ∃ A', storeLocals A i v = some A' ∧ A'.size = A.size ∧ A'[i]? = some (Slot.val v) ∧ WF A' ∧
   ∀ k, k ≠ i → A'[k]? = A[k]? ∨ (k + 1 = i ∧ A[i]? = some .second) ∨ A[k]? = some .second := by
 obtain ⟨w1, w2⟩ := hw
 have hA : A[i]? = some A[i] := Array.getElem?_eq_getElem hi
 cases hc : A[i] with
 | second =>
  rw [hc] at hA
  obtain ⟨j, w, rfl, hj, hw2⟩ := w1 i hA
  have hj' : j < A.size := by omega
  refine ⟨(A.setIfInBounds j .unset).setIfInBounds (j + 1) (.val v), ?_, by simp, by simp [hi], ⟨fun k hk => ?_, fun k u hk hu => ?_⟩, fun k hk => ?_⟩
  ·simp [storeLocals, storeSelf, setAt, hc, hi, hj', hv]
  ·by_cases e1 : j + 1 = k
   ·subst e1; simp [hi] at hk
   ·by_cases e2 : j = k
    ·subst e2; simp [hj'] at hk
    ·rw [Array.getElem?_setIfInBounds_ne e1, Array.getElem?_setIfInBounds_ne e2] at hk
     obtain ⟨q, u, rfl, h1, h2⟩ := w1 k hk
     refine ⟨q, u, rfl, ?_, h2⟩
     have n1 : j + 1 ≠ q := fun z => by subst z; rw [hA] at h1; cases h1
     have n2 : j ≠ q := fun z => by omega
     rw [Array.getElem?_setIfInBounds_ne n1, Array.getElem?_setIfInBounds_ne n2]; exact h1
  ·by_cases e1 : j + 1 = k
   ·subst e1; simp [hi] at hk; subst hk; omega
   ·by_cases e2 : j = k
    ·subst e2; simp [hj'] at hk
    ·rw [Array.getElem?_setIfInBounds_ne e1, Array.getElem?_setIfInBounds_ne e2] at hk
     have := w2 k u hk hu
     have n1 : j + 1 ≠ k + 1 := by omega
     have n2 : j ≠ k + 1 := fun z => by subst z; rw [hj] at this; cases this
     rw [Array.getElem?_setIfInBounds_ne n1, Array.getElem?_setIfInBounds_ne n2]; exact this
  ·by_cases e2 : j = k
   ·subst e2; exact Or.inr (Or.inl ⟨rfl, hA⟩)
   ·rw [Array.getElem?_setIfInBounds_ne (Ne.symm hk), Array.getElem?_setIfInBounds_ne e2]; exact Or.inl rfl
 | unset =>
  rw [hc] at hA
  refine ⟨A.setIfInBounds i (.val v), by simp [storeLocals, storeSelf, setAt, hc, hi, hv], by simp, by simp [hi], ⟨fun k hk => ?_, fun k u hk hu => ?_⟩, fun k hk => by rw [Array.getElem?_setIfInBounds_ne (Ne.symm hk)]; exact Or.inl rfl⟩
  ·by_cases e1 : i = k
   ·subst e1; simp [hi] at hk
   ·rw [Array.getElem?_setIfInBounds_ne e1] at hk
    obtain ⟨q, u, rfl, h1, h2⟩ := w1 k hk
    have n1 : i ≠ q := fun z => by subst z; rw [hA] at h1; cases h1
    exact ⟨q, u, rfl, by rw [Array.getElem?_setIfInBounds_ne n1]; exact h1, h2⟩
  ·by_cases e1 : i = k
   ·subst e1; simp [hi] at hk; subst hk; omega
   ·rw [Array.getElem?_setIfInBounds_ne e1] at hk
    have := w2 k u hk hu
    have n1 : i ≠ k + 1 := fun z => by subst z; rw [hA] at this; cases this
    rw [Array.getElem?_setIfInBounds_ne n1]; exact this
 | val old =>
  rw [hc] at hA
  rcases b8D old with ho | ho
  ·refine ⟨A.setIfInBounds i (.val v), by simp [storeLocals, storeSelf, setAt, hc, hi, hv, ho], by simp, by simp [hi], ⟨fun k hk => ?_, fun k u hk hu => ?_⟩, fun k hk => by rw [Array.getElem?_setIfInBounds_ne (Ne.symm hk)]; exact Or.inl rfl⟩
   ·by_cases e1 : i = k
    ·subst e1; simp [hi] at hk
    ·rw [Array.getElem?_setIfInBounds_ne e1] at hk
     obtain ⟨q, u, rfl, h1, h2⟩ := w1 k hk
     have n1 : i ≠ q := fun z => by subst z; rw [hA] at h1; cases h1; omega
     exact ⟨q, u, rfl, by rw [Array.getElem?_setIfInBounds_ne n1]; exact h1, h2⟩
   ·by_cases e1 : i = k
    ·subst e1; simp [hi] at hk; subst hk; omega
    ·rw [Array.getElem?_setIfInBounds_ne e1] at hk
     have := w2 k u hk hu
     have n1 : i ≠ k + 1 := fun z => by subst z; rw [hA] at this; cases this
     rw [Array.getElem?_setIfInBounds_ne n1]; exact this
  ·have hs := w2 i old hA ho
   have hi' : i + 1 < A.size := (Array.getElem?_eq_some_iff.mp hs).1
   refine ⟨(A.setIfInBounds (i + 1) .unset).setIfInBounds i (.val v), by simp [storeLocals, storeSelf, setAt, hc, hi, hi', hv, ho], by simp, by simp [hi], ⟨fun k hk => ?_, fun k u hk hu => ?_⟩, fun k hk => ?_⟩
   ·by_cases e1 : i = k
    ·subst e1; simp [hi] at hk
    ·by_cases e2 : i + 1 = k
     ·subst e2; rw [Array.getElem?_setIfInBounds_ne e1] at hk; simp [hi'] at hk
     ·rw [Array.getElem?_setIfInBounds_ne e1, Array.getElem?_setIfInBounds_ne e2] at hk
      obtain ⟨q, u, rfl, h1, h2⟩ := w1 k hk
      have n1 : i ≠ q := fun z => by omega
      have n2 : i + 1 ≠ q := fun z => by subst z; rw [hs] at h1; cases h1
      exact ⟨q, u, rfl, by rw [Array.getElem?_setIfInBounds_ne n1, Array.getElem?_setIfInBounds_ne n2]; exact h1, h2⟩
   ·by_cases e1 : i = k
    ·subst e1; simp [hi] at hk; subst hk; omega
    ·by_cases e2 : i + 1 = k
     ·subst e2; rw [Array.getElem?_setIfInBounds_ne e1] at hk; simp [hi'] at hk
     ·rw [Array.getElem?_setIfInBounds_ne e1, Array.getElem?_setIfInBounds_ne e2] at hk
      have := w2 k u hk hu
      have n1 : i ≠ k + 1 := fun z => by subst z; rw [hA] at this; cases this
      have n2 : i + 1 ≠ k + 1 := by omega
      rw [Array.getElem?_setIfInBounds_ne n1, Array.getElem?_setIfInBounds_ne n2]; exact this
   ·by_cases e2 : i + 1 = k
    ·subst e2; exact Or.inr (Or.inr hs)
    ·rw [Array.getElem?_setIfInBounds_ne (Ne.symm hk), Array.getElem?_setIfInBounds_ne e2]; exact Or.inl rfl
theorem b6K {L : List (Option Value)} {i k : Nat} {v u : Value} (h : (st1 L i v)[k]? = some (some u)) : (k = i ∧ u = v) ∨ (k ≠ i ∧ L[k]? = some (some u) ∧ ¬ (k = i - 1 ∧ u.category = 2)) := by
 unfold st1 at h
 by_cases e : k = i
 ·subst e
  refine Or.inl ⟨rfl, ?_⟩
  have hl := (List.getElem?_eq_some_iff.mp h).1
  rw [List.getElem?_set_self (by simpa using hl)] at h
  exact (Option.some.inj (Option.some.inj h)).symm
 ·refine Or.inr ⟨e, ?_⟩
  rw [List.getElem?_set_ne (Ne.symm e)] at h
  by_cases e2 : k = i - 1
  ·subst e2
   cases hb : b7K L[i - 1]? with
   | true =>
    rw [hb] at h
    have hl := (List.getElem?_eq_some_iff.mp h).1
    rw [cond_true] at h hl
    rw [List.getElem?_set_self (by simpa using hl)] at h
    cases Option.some.inj h
   | false =>
    rw [hb, cond_false] at h
    refine ⟨h, fun q => ?_⟩
    rw [h] at hb
    simp [b7K, q.2] at hb
  ·cases hb : b7K L[i - 1]? with
   | true => rw [hb, cond_true, List.getElem?_set_ne (Ne.symm e2)] at h; exact ⟨h, fun q => e2 q.1⟩
   | false => rw [hb, cond_false] at h; exact ⟨h, fun q => e2 q.1⟩
theorem b6Y (L : List (Option Value)) (i : Nat) (v : Value) : (st1 L i v).length = L.length := by
 unfold st1; cases b7K L[i - 1]? <;> simp
theorem b3I {ad : Nat → Addr} {L : List (Option Value)} {A : Array Slot} (H : LocOK ad L A) {i : Nat} (hi : i < L.length) {v : Value} (hv : v.category = 1) :
  ∃ A', storeLocals A i (up ad v) = some A' ∧ LocOK ad (st1 L i v) A' := by
 obtain ⟨h1, h2, h3⟩ := H
 obtain ⟨A', q1, q2, q3, q4, q5⟩ := b6s h2 (by omega : i < A.size) ((a8N ad v).trans hv)
 refine ⟨A', q1, by rw [q2, b6Y]; exact h1, q4, fun k u hu => ?_⟩
 rcases b6K hu with ⟨rfl, rfl⟩ | ⟨e, hL, hn⟩
 ·exact q3
 ·have ha := h3 k u hL
  rcases q5 k e with q | ⟨q, q'⟩ | q
  ·rw [q]; exact ha
  ·obtain ⟨j, w, g1, g2, g3⟩ := h2.1 i q'
   have : j = k := by omega
   subst this
   rw [ha] at g2; cases g2
   rw [a8N] at g3
   exact absurd ⟨by omega, g3⟩ hn
  ·rw [ha] at q; cases q
def b8Y (L' L : List (Option Value)) : Prop := L'.length = L.length ∧ ∀ (i : Nat) (v : Value), L'[i]? = some (some v) → L[i]? = some (some v)
def lessB : List (Option Value) → List (Option Value) → Prop
 | [], [] => True
 | a :: r, b :: q => (a = none ∨ a = b) ∧ lessB r q
 | _, _ => False
theorem ls {a : Option Value} {r q : List (Option Value)} (h : lessB r q) : lessB (a :: r) (a :: q) := ⟨Or.inr rfl, h⟩
theorem ln {b : Option Value} {r q : List (Option Value)} (h : lessB r q) : lessB (none :: r) (b :: q) := ⟨Or.inl rfl, h⟩
theorem l0 : lessB [] [] := trivial
theorem lessB.less : ∀ {L' L : List (Option Value)}, lessB L' L → b8Y L' L
 | [], [], _ => ⟨rfl, fun i v h => by simp at h⟩
 | a :: r, b :: q, h => by
  obtain ⟨h1, h2⟩ := lessB.less h.2
  refine ⟨by simp [h1], fun i v hv => ?_⟩
  cases i with
  | zero =>
   simp only [List.getElem?_cons_zero, Option.some.injEq] at hv ⊢
   rcases h.1 with e | e
   ·rw [e] at hv; cases hv
   ·rw [← e]; exact hv
  | succ i => simp only [List.getElem?_cons_succ] at hv ⊢; exact h2 i v hv
 | [], _ :: _, h => h.elim
 | _ :: _, [], h => h.elim
theorem LocOK.less {ad : Nat → Addr} {L L' : List (Option Value)} {A : Array Slot} (H : LocOK ad L A) (q : b8Y L' L) : LocOK ad L' A := ⟨by rw [q.1]; exact H.1, H.2.1, fun i v h => H.2.2 i v (q.2 i v h)⟩
def b6z (v : Value) : List (Option Value) := if v.category = 2 then [some v, none] else [some v]
def ent (vs : List Value) (ml : Nat) : List (Option Value) := let q := vs.flatMap b6z; q ++ List.replicate (ml - q.length) none
def b0M (v : Value) : List Slot := if v.category = 2 then [.val v, .second] else [.val v]
theorem b5X (vs : List Value) : ∀ acc : Array Slot, (vs.foldl (fun acc v => if v.category = 2 then (acc.push (.val v)).push .second else acc.push (.val v)) acc).toList = acc.toList ++ vs.flatMap b0M := by
 induction vs with
 | nil => intro acc; simp
 | cons v r ih =>
  intro acc
  rw [List.foldl_cons, ih, List.flatMap_cons]
  by_cases h : v.category = 2 <;> simp [h, b0M]
theorem b7U (vs : List Value) (n : Nat) : WF (vs.flatMap b0M ++ List.replicate n Slot.unset).toArray := by
 suffices h : ∀ (q : List Slot), q = vs.flatMap b0M ++ List.replicate n Slot.unset → (∀ i : Nat, q[i]? = some Slot.second → ∃ (j : Nat) (w : Value), i = j + 1 ∧ q[j]? = some (Slot.val w) ∧ w.category = 2) ∧ ∀ (i : Nat) (w : Value), q[i]? = some (Slot.val w) → w.category = 2 → q[i + 1]? = some Slot.second by
  have := h _ rfl
  simpa [WF] using this
 induction vs with
 | nil =>
  intro q hq
  subst hq
  refine ⟨fun i hi => ?_, fun i w hi => ?_⟩ <;> simp [List.getElem?_replicate] at hi
 | cons v r ih =>
  intro q hq
  obtain ⟨g1, g2⟩ := ih _ rfl
  subst hq
  by_cases h : v.category = 2
  ·simp only [List.flatMap_cons, b0M, h, if_true, List.cons_append, List.nil_append]
   refine ⟨fun i hi => ?_, fun i w hi hw => ?_⟩
   ·match i with
    | 0 => simp at hi
    | 1 => exact ⟨0, v, rfl, rfl, h⟩
    | i + 2 =>
     obtain ⟨j, w, e, e1, e2⟩ := g1 i (by simpa using hi)
     exact ⟨j + 2, w, by omega, by simpa using e1, e2⟩
   ·match i with
    | 0 => rfl
    | 1 => simp at hi
    | i + 2 => simpa using g2 i w (by simpa using hi) hw
  ·simp only [List.flatMap_cons, b0M, h, if_false, List.cons_append, List.nil_append]
   refine ⟨fun i hi => ?_, fun i w hi hw => ?_⟩
   ·match i with
    | 0 => simp at hi
    | i + 1 =>
     obtain ⟨j, w, e, e1, e2⟩ := g1 i (by simpa using hi)
     exact ⟨j + 1, w, by omega, by simpa using e1, e2⟩
   ·match i with
    | 0 => simp at hi; subst hi; exact absurd hw h
    | i + 1 => simpa using g2 i w (by simpa using hi) hw
theorem b6T (ad : Nat → Addr) (vs : List Value) : ∀ (n i : Nat) (u : Value), (vs.flatMap b6z ++ List.replicate n none)[i]? = some (some u) → ((vs.map (up ad)).flatMap b0M ++ List.replicate n Slot.unset)[i]? = some (.val (up ad u)) := by
 induction vs with
 | nil => intro n i u h; simp [List.getElem?_replicate] at h
 | cons v r ih =>
  intro n i u h
  by_cases hc : v.category = 2
  ·have hc' : (up ad v).category = 2 := (a8N ad v).trans hc
   simp only [List.flatMap_cons, List.map_cons, b6z, b0M, hc, hc', if_true, List.cons_append, List.nil_append] at h ⊢
   match i with
   | 0 => simp at h ⊢; rw [h]
   | 1 => simp at h
   | i + 2 => simpa using ih n i u (by simpa using h)
  ·have hc' : ¬ (up ad v).category = 2 := by rw [a8N]; exact hc
   simp only [List.flatMap_cons, List.map_cons, b6z, b0M, hc, hc', if_false, List.cons_append, List.nil_append] at h ⊢
   match i with
   | 0 => simp at h ⊢; rw [h]
   | i + 1 => simpa using ih n i u (by simpa using h)
theorem b5G (ad : Nat → Addr) (vs : List Value) : ((vs.map (up ad)).flatMap b0M).length = (vs.flatMap b6z).length := by
 induction vs with
 | nil => rfl
 | cons v r ih =>
  have := a8N ad v
  by_cases hc : v.category = 2 <;> simp [b6z, b0M, hc, this, ih]
theorem b6I (ad : Nat → Addr) (vs : List Value) (ml : Nat) : LocOK ad (ent vs ml) (argsToLocals (vs.map (up ad)).toArray ml) := by
 have e : argsToLocals (vs.map (up ad)).toArray ml = ((vs.map (up ad)).flatMap b0M ++ List.replicate (ml - (vs.flatMap b6z).length) Slot.unset).toArray := by
  have q := b5X (vs.map (up ad)) #[]
  simp only [List.nil_append] at q
  have q3 : ((vs.map (up ad)).toArray.foldl (fun acc v => if v.category = 2 then (acc.push (Slot.val v)).push Slot.second else acc.push (Slot.val v)) #[]) = ((vs.map (up ad)).flatMap b0M).toArray := by
   apply Array.ext'
   rw [List.foldl_toArray]; simpa using q
  unfold argsToLocals
  simp only [q3]
  rw [List.size_toArray, b5G]
  simp
 rw [e]
 refine ⟨by simp only [ent, List.size_toArray, List.length_append, List.length_replicate, b5G], b7U _ _, fun i u h => ?_⟩
 have := b6T ad vs (ml - (vs.flatMap b6z).length) i u (by simpa [ent] using h)
 simpa using this
theorem ifs {α : Type} {c : Prop} [Decidable c] {a b r : α} (h : (if c then a else b) = r) : (c ∧ a = r) ∨ (¬ c ∧ b = r) := by
 by_cases q : c
 ·exact Or.inl ⟨q, (if_pos q).symm.trans h⟩
 ·exact Or.inr ⟨q, (if_neg q).symm.trans h⟩
theorem ifn {α : Type} {c : Prop} [Decidable c] {a : Option α} {r : α} (h : (if c then a else none) = some r) : c ∧ a = some r := by
 by_cases q : c
 ·exact ⟨q, (if_pos q).symm.trans h⟩
 ·cases (if_neg q).symm.trans h
theorem ble {a b : Nat} (h : Nat.ble a b = true) : a ≤ b := Nat.le_of_ble_eq_true h
theorem blt {a b : Nat} (h : Nat.blt a b = true) : a < b := Nat.le_of_ble_eq_true h
abbrev Cx (S : Type) : Type := Program × Launch × Env × Room × State × MethodId × Array Value × List Frame × Method × Code × (Nat → Addr) × (S → Heap → Prop) × (S → Nat × Nat) × Nat × Nat × Nat
def Go {S : Type} (X : Cx S) (r : Option Value × S) (pc : Nat) (L : List (Option Value)) (st : List Value) (x : S) : Prop :=
 match X with
 | (p, l, e, R, s, m, args, below, meth, c, ad, INV, CE, n0, kc, ks) =>
  ∀ (T : State) (locs : List Loc) (A : Array Slot), Stand p l e R s m args below meth c T locs (CE x).1 (CE x).2 → Fr n0 locs → INV x T.heap → LocOK ad L A →
   ∃ s₂, Steps p.tables e below (T.setTop (mkF m pc A (st.map (up ad)))) s₂ ∧ s₂.status = .running ∧ Ended s₂ below (.returned (r.1.map (up ad))) ∧ INV r.2 s₂.heap ∧
    ∃ L', Fr n0 L' ∧ s.WarmedH s₂.vm ∧ s.sameButNew ({ s₂ with vm := s.vm } : State) L' kc ks
def Ctx {S : Type} (X : Cx S) (Z : State) (own nm : String) (code : ByteArray) (ml : Nat) (ret : Option FieldType) : Prop :=
 match X with
 | (p, l, e, R, s, m, args, below, meth, c, ad, INV, CE, n0, kc, ks) =>
  p.tables.exec = Jvm.exec ∧ c.code = code ∧ c.maxLocals = ml ∧ s.vm.findClass own = some m.cls ∧ Z.Warmed39 s.vm ∧ meth.sig.returnType = ret ∧ meth.locks = false ∧ meth.name = nm
def hsz {S : Type} (X : Cx S) : Nat := X.2.2.2.2.1.heap.size
section Rules
variable {S : Type} {X : Cx S} {Z : State} {own nm : String} {code : ByteArray} {ml : Nat} {ret : Option FieldType} {r : Option Value × S} {pc : Nat} {L L' : List (Option Value)} {st : List Value} {x : S}
theorem a0b (K : Ctx X Z own nm code ml ret) {k : Fin 4} {v : Int32} (hd : decode code pc = .ok (.iload_n k, 1)) (hl : L[k.val]? = some (some (.int v))) (h : Go X r (pc + 1) L (.int v :: st) x) : Go X r pc L (st) x := by
 obtain ⟨p, l, e, R, s, m, args, below, meth, c, ad, INV, CE, n0, kc, ks⟩ := X
 obtain ⟨hx, hby, -⟩ := K
 intro T locs A Y N I LO
 obtain ⟨s₂, h1, h2⟩ := h T locs A Y N I LO
 exact ⟨s₂, XS.iloadN Y.here hx rfl (hb hby hd) (LO.2.2 _ _ hl) h1, h2⟩
theorem a0f (K : Ctx X Z own nm code ml ret) {k : Nat} {v : Int32} (hd : decode code pc = .ok (.iload k, 2)) (hl : L[k]? = some (some (.int v))) (h : Go X r (pc + 2) L (.int v :: st) x) : Go X r pc L (st) x := by
 obtain ⟨p, l, e, R, s, m, args, below, meth, c, ad, INV, CE, n0, kc, ks⟩ := X
 obtain ⟨hx, hby, -⟩ := K
 intro T locs A Y N I LO
 obtain ⟨s₂, h1, h2⟩ := h T locs A Y N I LO
 exact ⟨s₂, XS.iload Y.here hx rfl (hb hby hd) (LO.2.2 _ _ hl) h1, h2⟩
theorem a0a (K : Ctx X Z own nm code ml ret) {k : Fin 4} {v : Nat} (hd : decode code pc = .ok (.aload_n k, 1)) (hl : L[k.val]? = some (some (.ref v))) (h : Go X r (pc + 1) L (.ref v :: st) x) : Go X r pc L (st) x := by
 obtain ⟨p, l, e, R, s, m, args, below, meth, c, ad, INV, CE, n0, kc, ks⟩ := X
 obtain ⟨hx, hby, -⟩ := K
 intro T locs A Y N I LO
 obtain ⟨s₂, h1, h2⟩ := h T locs A Y N I LO
 exact ⟨s₂, XS.aloadN Y.here hx rfl (hb hby hd) (LO.2.2 _ _ hl) rfl h1, h2⟩
theorem a0H (K : Ctx X Z own nm code ml ret) {k v : Nat} (hd : decode code pc = .ok (.aload k, 2)) (hl : L[k]? = some (some (.ref v))) (h : Go X r (pc + 2) L (.ref v :: st) x) : Go X r pc L (st) x := by
 obtain ⟨p, l, e, R, s, m, args, below, meth, c, ad, INV, CE, n0, kc, ks⟩ := X
 obtain ⟨hx, hby, -⟩ := K
 intro T locs A Y N I LO
 obtain ⟨s₂, h1, h2⟩ := h T locs A Y N I LO
 exact ⟨s₂, XS.aload Y.here hx rfl (hb hby hd) (LO.2.2 _ _ hl) rfl h1, h2⟩
theorem a0c (K : Ctx X Z own nm code ml ret) {i : Int} {v : Int32} (hd : decode code pc = .ok (.iconst i, 1)) (hv : Int32.ofInt i = v) (h : Go X r (pc + 1) L (.int v :: st) x) : Go X r pc L (st) x := by
 obtain ⟨p, l, e, R, s, m, args, below, meth, c, ad, INV, CE, n0, kc, ks⟩ := X
 obtain ⟨hx, hby, -⟩ := K
 intro T locs A Y N I LO
 subst hv
 have LO₁ := LO
 have ⟨A₁, hA₁⟩ : ∃ A₁, A₁ = A := ⟨_, rfl⟩
 subst hA₁
 obtain ⟨s₂, h1, h2⟩ := h T locs A₁ Y N I LO₁
 exact ⟨s₂, XS.iconst Y.here hx rfl (hb hby hd) h1, h2⟩
theorem a0d (K : Ctx X Z own nm code ml ret) {i : Int} {v : Int32} (hd : decode code pc = .ok (.bipush i, 2)) (hv : (Int8.ofInt i).toInt32 = v) (h : Go X r (pc + 2) L (.int v :: st) x) : Go X r pc L (st) x := by
 obtain ⟨p, l, e, R, s, m, args, below, meth, c, ad, INV, CE, n0, kc, ks⟩ := X
 obtain ⟨hx, hby, -⟩ := K
 intro T locs A Y N I LO
 subst hv
 have LO₁ := LO
 have ⟨A₁, hA₁⟩ : ∃ A₁, A₁ = A := ⟨_, rfl⟩
 subst hA₁
 obtain ⟨s₂, h1, h2⟩ := h T locs A₁ Y N I LO₁
 exact ⟨s₂, XS.bipush Y.here hx rfl (hb hby hd) h1, h2⟩
theorem a0I (K : Ctx X Z own nm code ml ret) {i : Int} {v : Int32} (hd : decode code pc = .ok (.sipush i, 3)) (hv : (Int16.ofInt i).toInt32 = v) (h : Go X r (pc + 3) L (.int v :: st) x) : Go X r pc L (st) x := by
 obtain ⟨p, l, e, R, s, m, args, below, meth, c, ad, INV, CE, n0, kc, ks⟩ := X
 obtain ⟨hx, hby, -⟩ := K
 intro T locs A Y N I LO
 subst hv
 have LO₁ := LO
 have ⟨A₁, hA₁⟩ : ∃ A₁, A₁ = A := ⟨_, rfl⟩
 subst hA₁
 obtain ⟨s₂, h1, h2⟩ := h T locs A₁ Y N I LO₁
 exact ⟨s₂, XS.sipush Y.here hx rfl (hb hby hd) h1, h2⟩
theorem a0z (K : Ctx X Z own nm code ml ret) {v w : Int32} (hd : decode code pc = .ok (.iadd, 1)) (h : Go X r (pc + 1) L (.int (v + w) :: st) x) : Go X r pc L (.int w :: .int v :: st) x := by
 obtain ⟨p, l, e, R, s, m, args, below, meth, c, ad, INV, CE, n0, kc, ks⟩ := X
 obtain ⟨hx, hby, -⟩ := K
 intro T locs A Y N I LO
 obtain ⟨s₂, h1, h2⟩ := h T locs A Y N I LO
 exact ⟨s₂, XS.iadd Y.here hx rfl (hb hby hd) rfl h1, h2⟩
theorem a1l (K : Ctx X Z own nm code ml ret) {v w : Int32} (hd : decode code pc = .ok (.isub, 1)) (h : Go X r (pc + 1) L (.int (v - w) :: st) x) : Go X r pc L (.int w :: .int v :: st) x := by
 obtain ⟨p, l, e, R, s, m, args, below, meth, c, ad, INV, CE, n0, kc, ks⟩ := X
 obtain ⟨hx, hby, -⟩ := K
 intro T locs A Y N I LO
 obtain ⟨s₂, h1, h2⟩ := h T locs A Y N I LO
 exact ⟨s₂, XS.isub Y.here hx rfl (hb hby hd) rfl h1, h2⟩
theorem b0a (K : Ctx X Z own nm code ml ret) {v w : Int32} (hd : decode code pc = .ok (.imul, 1)) (h : Go X r (pc + 1) L (.int (v * w) :: st) x) : Go X r pc L (.int w :: .int v :: st) x := by
 obtain ⟨p, l, e, R, s, m, args, below, meth, c, ad, INV, CE, n0, kc, ks⟩ := X
 obtain ⟨hx, hby, -⟩ := K
 intro T locs A Y N I LO
 obtain ⟨s₂, h1, h2⟩ := h T locs A Y N I LO
 exact ⟨s₂, XS.imul Y.here hx rfl (hb hby hd) rfl h1, h2⟩
theorem b5C (K : Ctx X Z own nm code ml ret) {v w : Int32} (hd : decode code pc = .ok (.idiv, 1)) (hw : w ≠ 0) (h : Go X r (pc + 1) L (.int (v / w) :: st) x) : Go X r pc L (.int w :: .int v :: st) x := by
 obtain ⟨p, l, e, R, s, m, args, below, meth, c, ad, INV, CE, n0, kc, ks⟩ := X
 obtain ⟨hx, hby, -⟩ := K
 intro T locs A Y N I LO
 obtain ⟨s₂, h1, h2⟩ := h T locs A Y N I LO
 exact ⟨s₂, XS.idiv Y.here hx rfl (hb hby hd) rfl hw h1, h2⟩
theorem b3m (K : Ctx X Z own nm code ml ret) {v w : Int32} (hd : decode code pc = .ok (.irem, 1)) (hw : w ≠ 0) (h : Go X r (pc + 1) L (.int (v % w) :: st) x) : Go X r pc L (.int w :: .int v :: st) x := by
 obtain ⟨p, l, e, R, s, m, args, below, meth, c, ad, INV, CE, n0, kc, ks⟩ := X
 obtain ⟨hx, hby, -⟩ := K
 intro T locs A Y N I LO
 obtain ⟨s₂, h1, h2⟩ := h T locs A Y N I LO
 exact ⟨s₂, iremM Y hx rfl (hb hby hd) rfl hw h1, h2⟩
theorem b42 (K : Ctx X Z own nm code ml ret) {v : Int32} (hd : decode code pc = .ok (.ineg, 1)) (h : Go X r (pc + 1) L (.int (-v) :: st) x) : Go X r pc L (.int v :: st) x := by
 obtain ⟨p, l, e, R, s, m, args, below, meth, c, ad, INV, CE, n0, kc, ks⟩ := X
 obtain ⟨hx, hby, -⟩ := K
 intro T locs A Y N I LO
 obtain ⟨s₂, h1, h2⟩ := h T locs A Y N I LO
 exact ⟨s₂, XS.ineg Y.here hx rfl (hb hby hd) rfl h1, h2⟩
theorem b8G (K : Ctx X Z own nm code ml ret) {v : Int32} (hd : decode code pc = .ok (.i2c, 1)) (h : Go X r (pc + 1) L (.int (nar .char v) :: st) x) : Go X r pc L (.int v :: st) x := by
 obtain ⟨p, l, e, R, s, m, args, below, meth, c, ad, INV, CE, n0, kc, ks⟩ := X
 obtain ⟨hx, hby, -⟩ := K
 intro T locs A Y N I LO
 obtain ⟨s₂, h1, h2⟩ := h T locs A Y N I LO
 exact ⟨s₂, XT.i2c Y.here hx rfl (hb hby hd) rfl h1, h2⟩
theorem a8H (K : Ctx X Z own nm code ml ret) {v : Value} (hd : decode code pc = .ok (.pop, 1)) (hc : v.category = 1) (h : Go X r (pc + 1) L (st) x) : Go X r pc L (v :: st) x := by
 obtain ⟨p, l, e, R, s, m, args, below, meth, c, ad, INV, CE, n0, kc, ks⟩ := X
 obtain ⟨hx, hby, -⟩ := K
 intro T locs A Y N I LO
 obtain ⟨s₂, h1, h2⟩ := h T locs A Y N I LO
 exact ⟨s₂, XT.pop Y.here hx rfl (hb hby hd) rfl ((a8N _ _).trans hc) h1, h2⟩
theorem b0u (K : Ctx X Z own nm code ml ret) {v : Value} (hd : decode code pc = .ok (.dup, 1)) (hc : v.category = 1) (h : Go X r (pc + 1) L (v :: v :: st) x) : Go X r pc L (v :: st) x := by
 obtain ⟨p, l, e, R, s, m, args, below, meth, c, ad, INV, CE, n0, kc, ks⟩ := X
 obtain ⟨hx, hby, -⟩ := K
 intro T locs A Y N I LO
 obtain ⟨s₂, h1, h2⟩ := h T locs A Y N I LO
 exact ⟨s₂, XS.dup Y.here hx rfl (hb hby hd) rfl ((a8N _ _).trans hc) h1, h2⟩
theorem b52 (K : Ctx X Z own nm code ml ret) {v w : Value} (hd : decode code pc = .ok (.dup2, 1)) (hc : v.category = 1) (hc' : w.category = 1) (h : Go X r (pc + 1) L (v :: w :: v :: w :: st) x) : Go X r pc L (v :: w :: st) x := by
 obtain ⟨p, l, e, R, s, m, args, below, meth, c, ad, INV, CE, n0, kc, ks⟩ := X
 obtain ⟨hx, hby, -⟩ := K
 intro T locs A Y N I LO
 obtain ⟨s₂, h1, h2⟩ := h T locs A Y N I LO
 exact ⟨s₂, XT.dup2 Y.here hx rfl (hb hby hd) rfl ((a8N _ _).trans hc) ((a8N _ _).trans hc') h1, h2⟩
theorem a0m (K : Ctx X Z own nm code ml ret) {k : Fin 4} {v : Int32} (hd : decode code pc = .ok (.istore_n k, 1)) (hk : k.val < L.length) (hL : st1 L k.val (.int v) = L') (h : Go X r (pc + 1) L' (st) x) : Go X r pc L (.int v :: st) x := by
 obtain ⟨p, l, e, R, s, m, args, below, meth, c, ad, INV, CE, n0, kc, ks⟩ := X
 obtain ⟨hx, hby, -⟩ := K
 intro T locs A Y N I LO
 subst hL
 obtain ⟨A₁, hA₁, LO₁⟩ := b3I LO hk (v := .int v) rfl
 obtain ⟨s₂, h1, h2⟩ := h T locs A₁ Y N I LO₁
 exact ⟨s₂, XS.istoreN Y.here hx rfl (hb hby hd) rfl hA₁ h1, h2⟩
theorem a0q (K : Ctx X Z own nm code ml ret) {k : Nat} {v : Int32} (hd : decode code pc = .ok (.istore k, 2)) (hk : k < L.length) (hL : st1 L k (.int v) = L') (h : Go X r (pc + 2) L' (st) x) : Go X r pc L (.int v :: st) x := by
 obtain ⟨p, l, e, R, s, m, args, below, meth, c, ad, INV, CE, n0, kc, ks⟩ := X
 obtain ⟨hx, hby, -⟩ := K
 intro T locs A Y N I LO
 subst hL
 obtain ⟨A₁, hA₁, LO₁⟩ := b3I LO hk (v := .int v) rfl
 obtain ⟨s₂, h1, h2⟩ := h T locs A₁ Y N I LO₁
 exact ⟨s₂, XS.istore Y.here hx rfl (hb hby hd) rfl hA₁ h1, h2⟩
theorem b6c (K : Ctx X Z own nm code ml ret) {k v : Nat} (hd : decode code pc = .ok (.astore k, 2)) (hk : k < L.length) (hL : st1 L k (.ref v) = L') (h : Go X r (pc + 2) L' (st) x) : Go X r pc L (.ref v :: st) x := by
 obtain ⟨p, l, e, R, s, m, args, below, meth, c, ad, INV, CE, n0, kc, ks⟩ := X
 obtain ⟨hx, hby, -⟩ := K
 intro T locs A Y N I LO
 subst hL
 obtain ⟨A₁, hA₁, LO₁⟩ := b3I LO hk (v := .ref v) rfl
 obtain ⟨s₂, h1, h2⟩ := h T locs A₁ Y N I LO₁
 exact ⟨s₂, XS.astore Y.here hx rfl (hb hby hd) rfl rfl hA₁ h1, h2⟩
theorem a09 (K : Ctx X Z own nm code ml ret) {k : Nat} {i : Int} {v w : Int32} (hd : decode code pc = .ok (.iinc k i, 3)) (hl : L[k]? = some (some (.int v))) (hv : Int32.ofInt i = w) (hL : st1 L k (.int (v + w)) = L') (h : Go X r (pc + 3) L' (st) x) : Go X r pc L (st) x := by
 obtain ⟨p, l, e, R, s, m, args, below, meth, c, ad, INV, CE, n0, kc, ks⟩ := X
 obtain ⟨hx, hby, -⟩ := K
 intro T locs A Y N I LO
 subst hL
 subst hv
 obtain ⟨A₁, hA₁, LO₁⟩ := b3I LO (List.getElem?_eq_some_iff.mp hl).1 (v := .int (v + Int32.ofInt i)) rfl
 obtain ⟨s₂, h1, h2⟩ := h T locs A₁ Y N I LO₁
 exact ⟨s₂, XS.iinc Y.here hx rfl (hb hby hd) (LO.2.2 _ _ hl) hA₁ h1, h2⟩
theorem a0y (K : Ctx X Z own nm code ml ret) {o : Int} {pc' : Nat} (hd : decode code pc = .ok (.goto o, 3)) (hp : (pc : Int) + o = (pc' : Nat)) (h : Go X r (pc') L (st) x) : Go X r pc L (st) x := by
 obtain ⟨p, l, e, R, s, m, args, below, meth, c, ad, INV, CE, n0, kc, ks⟩ := X
 obtain ⟨hx, hby, -⟩ := K
 intro T locs A Y N I LO
 have ho : 0 ≤ (pc : Int) + o := by omega
 have hq : ((pc : Int) + o).toNat = pc' := by omega
 have LO₁ := LO
 have ⟨A₁, hA₁⟩ : ∃ A₁, A₁ = A := ⟨_, rfl⟩
 subst hA₁
 obtain ⟨s₂, h1, h2⟩ := h T locs A₁ Y N I LO₁
 exact ⟨s₂, XS.goto Y.here hx rfl rfl (hb hby hd) ho hq h1, h2⟩
theorem a0u (K : Ctx X Z own nm code ml ret) {cd : ClassFile.Cond} {v : Int32} {o : Int} {pc' : Nat} (hd : decode code pc = .ok (.ifCond cd o, 3)) (hp : (pc : Int) + o = (pc' : Nat)) (hc : ifCond.holds cd v = true) (h : Go X r (pc') L (st) x) : Go X r pc L (.int v :: st) x := by
 obtain ⟨p, l, e, R, s, m, args, below, meth, c, ad, INV, CE, n0, kc, ks⟩ := X
 obtain ⟨hx, hby, -⟩ := K
 intro T locs A Y N I LO
 have ho : 0 ≤ (pc : Int) + o := by omega
 have hq : ((pc : Int) + o).toNat = pc' := by omega
 have LO₁ := LO
 have ⟨A₁, hA₁⟩ : ∃ A₁, A₁ = A := ⟨_, rfl⟩
 subst hA₁
 obtain ⟨s₂, h1, h2⟩ := h T locs A₁ Y N I LO₁
 exact ⟨s₂, XS.ifYes Y.here hx rfl rfl (hb hby hd) rfl hc ho hq h1, h2⟩
theorem a0t (K : Ctx X Z own nm code ml ret) {cd : ClassFile.Cond} {v : Int32} {o : Int} (hd : decode code pc = .ok (.ifCond cd o, 3)) (hc : ifCond.holds cd v = false) (h : Go X r (pc + 3) L (st) x) : Go X r pc L (.int v :: st) x := by
 obtain ⟨p, l, e, R, s, m, args, below, meth, c, ad, INV, CE, n0, kc, ks⟩ := X
 obtain ⟨hx, hby, -⟩ := K
 intro T locs A Y N I LO
 obtain ⟨s₂, h1, h2⟩ := h T locs A Y N I LO
 exact ⟨s₂, XS.ifNo Y.here hx rfl (hb hby hd) rfl hc h1, h2⟩
theorem a0p (K : Ctx X Z own nm code ml ret) {cd : ClassFile.Cond} {v w : Int32} {o : Int} {pc' : Nat} (hd : decode code pc = .ok (.if_icmp cd o, 3)) (hp : (pc : Int) + o = (pc' : Nat)) (hc : if_icmp.holds cd v w = true) (h : Go X r (pc') L (st) x) : Go X r pc L (.int w :: .int v :: st) x := by
 obtain ⟨p, l, e, R, s, m, args, below, meth, c, ad, INV, CE, n0, kc, ks⟩ := X
 obtain ⟨hx, hby, -⟩ := K
 intro T locs A Y N I LO
 have ho : 0 ≤ (pc : Int) + o := by omega
 have hq : ((pc : Int) + o).toNat = pc' := by omega
 have LO₁ := LO
 have ⟨A₁, hA₁⟩ : ∃ A₁, A₁ = A := ⟨_, rfl⟩
 subst hA₁
 obtain ⟨s₂, h1, h2⟩ := h T locs A₁ Y N I LO₁
 exact ⟨s₂, XS.icmpYes Y.here hx rfl rfl (hb hby hd) rfl hc ho hq h1, h2⟩
theorem a0o (K : Ctx X Z own nm code ml ret) {cd : ClassFile.Cond} {v w : Int32} {o : Int} (hd : decode code pc = .ok (.if_icmp cd o, 3)) (hc : if_icmp.holds cd v w = false) (h : Go X r (pc + 3) L (st) x) : Go X r pc L (.int w :: .int v :: st) x := by
 obtain ⟨p, l, e, R, s, m, args, below, meth, c, ad, INV, CE, n0, kc, ks⟩ := X
 obtain ⟨hx, hby, -⟩ := K
 intro T locs A Y N I LO
 obtain ⟨s₂, h1, h2⟩ := h T locs A Y N I LO
 exact ⟨s₂, XS.icmpNo Y.here hx rfl (hb hby hd) rfl hc h1, h2⟩
end Rules
section Rules2
variable {S : Type} {X : Cx S} {Z : State} {own nm : String} {code : ByteArray} {ml : Nat} {ret : Option FieldType} {r : Option Value × S} {pc : Nat} {L L' : List (Option Value)} {st : List Value} {x : S}
theorem a0n (h : Go X r pc L' st x) (q : lessB L' L) : Go X r pc L st x := by
 obtain ⟨p, l, e, R, s, m, args, below, meth, c, ad, INV, CE, n0, kc, ks⟩ := X
 intro T locs A Y N I LO
 exact h T locs A Y N I (LO.less q.less)
theorem c1J {p : Program} {l : Launch} {e : Env} {R : Room} {s : State} {m : MethodId} {args : Array Value} {below : List Frame} {meth : Method} {c : Code} {T : State} {locs : List Loc} {cells slots : Nat}
  (X : Stand p l e R s m args below meth c T locs cells slots) (hx : p.tables.exec = Jvm.exec) {pc : Nat} {Ls : Array Slot} {z : Int32} {rest : List Value} (hret : meth.sig.returnType = some .int) (hd : decode c.code pc = .ok (.ireturn, 1)) {fs : List Frame}
  (hl : ∀ (f : JFrame) (acts : List Action), f.method = m → f.locked = none → f.entered = [] → (doReturn e (T.setTop f) acts (some (.int z))).1 = T.setFrames fs) : Steps p.tables e below (T.setTop (mkF m pc Ls (.int z :: rest))) (T.setFrames fs) := by
 have hm' : T.vm.method? m = some meth := X.method'
 have hn : narrow .int (.int z) = .int z := rfl
 show Steps p.tables e below (T.setTop { method := m, pc := pc, locals := Ls, stack := _ :: rest, locked := none }) _
 jvm_step X.here [X.here.top, hx, hd, hm', hret, hn]
 first | (intro acts; rw [hl _ acts rfl rfl rfl]) | rw [hl _ _ rfl rfl rfl]
 exact Steps.refl _
def Cap (X : Cx S) (x : S) : Prop :=
 match X with
 | (p, l, e, R, s, m, args, below, meth, c, ad, INV, CE, n0, kc, ks) => (CE x).1 ≤ kc ∧ (CE x).2 ≤ ks
theorem a0e (K : Ctx X Z own nm code ml (some .int)) {v : Int32} (hd : decode code pc = .ok (.ireturn, 1)) (hk : Cap X x) : Go X (some (.int v), x) pc L (.int v :: st) x := by
 obtain ⟨p, l, e, R, s, m, args, below, meth, c, ad, INV, CE, n0, kc, ks⟩ := X
 obtain ⟨hx, hby, -, -, -, hret, hlk, -⟩ := K
 intro T locs A Y N I LO
 obtain ⟨fs, hr, hrun, hended, hW, hsame⟩ := Y.leave (v := some (.int v)) (fun h => by rw [hret] at h; cases h) hlk
 exact ⟨_, c1J Y hx hret (hb hby hd) hr, hrun, hended, I, locs, N, hW, hsame.mono hk.1 hk.2⟩
theorem a0h (K : Ctx X Z own nm code ml ret) {v w : Int32} {t : FieldType} (hret' : ret = some t) (ht : t = .boolean ∨ t = .byte ∨ t = .char ∨ t = .short) (hd : decode code pc = .ok (.ireturn, 1)) (hw : nar t v = w) (hk : Cap X x) : Go X (some (.int w), x) pc L (.int v :: st) x := by
 obtain ⟨p, l, e, R, s, m, args, below, meth, c, ad, INV, CE, n0, kc, ks⟩ := X
 subst hret'
 subst hw
 obtain ⟨hx, hby, -, -, -, hret, hlk, -⟩ := K
 intro T locs A Y N I LO
 obtain ⟨fs, hr, hrun, hended, hW, hsame⟩ := Y.leave (v := some (.int (nar t v))) (fun h => by rw [hret] at h; cases h) hlk
 exact ⟨_, retN Y hx hret ht (hb hby hd) hr, hrun, hended, I, locs, N, hW, hsame.mono hk.1 hk.2⟩
theorem a0F (K : Ctx X Z own nm code ml none) (hd : decode code pc = .ok (.return_, 1)) (hk : Cap X x) : Go X (none, x) pc L [] x := by
 obtain ⟨p, l, e, R, s, m, args, below, meth, c, ad, INV, CE, n0, kc, ks⟩ := X
 obtain ⟨hx, hby, -, -, -, hret, hlk, -⟩ := K
 intro T locs A Y N I LO
 obtain ⟨fs, hr, hrun, hended, hW, hsame⟩ := Y.leave (v := none) (fun _ => rfl) hlk
 exact ⟨_, Y.returnOut hx hret (hb hby hd) hr, hrun, hended, I, locs, N, hW, hsame.mono hk.1 hk.2⟩
theorem b5U {a0 : Array Value} (K : Ctx X Z own nm code ml ret) {idx : Nat} {v : Int32} (hd : decode code pc = .ok (.ldc_w idx, 3)) (w : (Cond.constant own idx v).before a0 Z = true) (h : Go X r (pc + 3) L (.int v :: st) x) : Go X r pc L st x := by
 obtain ⟨p, l, e, R, s, m, args, below, meth, c, ad, INV, CE, n0, kc, ks⟩ := X
 obtain ⟨hx, hby, -, hown, hZ, -⟩ := K
 intro T locs A Y N I LO
 obtain ⟨s₂, h1, h2⟩ := h T locs A Y N I LO
 exact ⟨s₂, Y.ldcWI hx hown (mv hZ w) rfl (hb hby hd) h1, h2⟩
end Rules2
abbrev a3F : Type := Nat × String × String × Nat
abbrev a0T : Type := Nat × FieldType × Nat
def b3D (a j : Nat) (σ : St) (f : a3F) : Value :=
 match f.2.2.2 with
 | 0 => .int (gI σ f.1)
 | 1 => .long (gL σ f.1)
 | _ => if f.1 ≤ j then .ref (a + f.1) else .null
def ArI (Z : State) (h : Heap) (b : Nat) (ty : FieldType) (n : Nat) (g : Int → Int32) : Prop := ∃ c : Cell, Arr Z h b c ty ∧ c.slots.size = n ∧ ∀ i : Nat, i < n → c.slots[i]? = some (.int (g (i : Int)))
def Rep (Z : State) (C : String) (FS : List a3F) (FA : List a0T) (a j : Nat) (h : Heap) (σ : St) : Prop :=
 Exa Z h a C ∧ (∀ f ∈ FS, Fld Z h a C f.2.1 f.2.2.1 (b3D a j σ f)) ∧ ∀ q ∈ FA, q.1 ≤ j → ArI Z h (a + q.1) q.2.1 q.2.2 (gA σ q.1)
def b6A (Z : State) (a0 : Array Value) (C : String) (FS : List a3F) (kk : Nat) : Prop := (∀ f ∈ FS, Laid Z a0 C C f.2.1 f.2.2.1) ∧ (Cond.instantiable C kk).before a0 Z = true ∧ (Cond.initialized C).before a0 Z = true
def a07 (FS : List a3F) (FA : List a0T) (nA : Nat) : Bool :=
 decide ((FS.map fun f => f.2.1).Nodup) && decide ((FS.map fun f => f.1).Nodup) && decide ((FA.map fun q => q.1).Nodup) &&
 FS.all (fun f => decide ((parseFieldDescriptor f.2.2.1).map defaultValue = some (b3D 0 0 z0 f)) && (f.2.2.2 != 2 || decide (1 ≤ f.1))) &&
 FA.all (fun q => decide (1 ≤ q.1) && decide (q.1 ≤ nA) && decide (q.2.2 < 2 ^ 31))
theorem b0E {α β : Type} {f : α → β} : ∀ {l : List α}, (l.map f).Nodup → ∀ {x y : α}, x ∈ l → y ∈ l → f x = f y → x = y
 | [], _, _, _, hx, _, _ => nomatch hx
 | a :: l, h, x, y, hx, hy, e => by
  rw [List.map_cons, List.nodup_cons] at h
  rcases List.mem_cons.mp hx with rfl | hx' <;> rcases List.mem_cons.mp hy with rfl | hy'
  ·rfl
  ·exact absurd (List.mem_map.mpr ⟨y, hy', e.symm⟩) h.1
  ·exact absurd (List.mem_map.mpr ⟨x, hx', e⟩) h.1
  ·exact b0E h.2 hx' hy' e
section One
variable {Z : State} {a0 : Array Value} {C : String} {FS : List a3F} {FA : List a0T} {a : Nat} {j kk nA : Nat} {h h' : Heap} {σ : St}
theorem b5N (G : a07 FS FA nA = true) {f g : a3F} (hf : f ∈ FS) (hg : g ∈ FS) (e : f.2.1 = g.2.1) : f = g := by
 simp only [a07, Bool.and_eq_true, decide_eq_true_eq] at G
 exact b0E G.1.1.1.1 hf hg e
theorem b4Z (G : a07 FS FA nA = true) {f g : a3F} (hf : f ∈ FS) (hg : g ∈ FS) (e : f.1 = g.1) : f = g := by
 simp only [a07, Bool.and_eq_true, decide_eq_true_eq] at G
 exact b0E G.1.1.1.2 hf hg e
theorem b5O (G : a07 FS FA nA = true) {f g : a0T} (hf : f ∈ FA) (hg : g ∈ FA) (e : f.1 = g.1) : f = g := by
 simp only [a07, Bool.and_eq_true, decide_eq_true_eq] at G
 exact b0E G.1.1.2 hf hg e
theorem b11 (G : a07 FS FA nA = true) {f : a3F} (hf : f ∈ FS) : ∃ t, parseFieldDescriptor f.2.2.1 = some t ∧ defaultValue t = b3D 0 0 z0 f := by
 simp only [a07, Bool.and_eq_true, decide_eq_true_eq] at G
 have q := List.all_eq_true.mp G.1.2 f hf
 simp only [Bool.and_eq_true, decide_eq_true_eq, Option.map_eq_some_iff] at q
 exact q.1
theorem b0I (G : a07 FS FA nA = true) {q : a0T} (hq : q ∈ FA) : 1 ≤ q.1 ∧ q.1 ≤ nA ∧ q.2.2 < 2 ^ 31 := by
 simp only [a07, Bool.and_eq_true, decide_eq_true_eq] at G
 have := List.all_eq_true.mp G.2 q hq
 simp only [Bool.and_eq_true, decide_eq_true_eq] at this
 exact ⟨this.1.1, this.1.2, this.2⟩
theorem ArI.other {b : Nat} {ty : FieldType} {n sl : Nat} {v : Value} {g : Int → Int32} {x : Nat} (F : ArI Z h b ty n g) (W : Wr h h' x sl v) (q : b ≠ x) : ArI Z h' b ty n g := by
 obtain ⟨c, A, r⟩ := F; exact ⟨c, A.other W q, r⟩
theorem ArI.keep {b : Nat} {ty : FieldType} {n : Nat} {g : Int → Int32} {ws : List Addr} (F : ArI Z h b ty n g) (K : Keep h h' ws) (q : b ∉ ws) : ArI Z h' b ty n g := by
 obtain ⟨c, A, r⟩ := F; exact ⟨c, ⟨K.2.1 b c A.1 q, A.2⟩, r⟩
theorem ArI.ext {b : Nat} {ty : FieldType} {n : Nat} {g : Int → Int32} (F : ArI Z h b ty n g) (E : Ext h h') : ArI Z h' b ty n g := by
 obtain ⟨c, A, r⟩ := F; exact ⟨c, A.ext E, r⟩
theorem Rep.put (G : a07 FS FA nA = true) (hL : b6A Z a0 C FS kk) (Rp : Rep Z C FS FA a j h σ) {f : a3F} (hf : f ∈ FS) {v : Value} (W : Wr h h' a (RoadKit.slotOf Z C f.2.1 f.2.2.1) v) {j' : Nat} {σ' : St}
  (hv : b3D a j' σ' f = v) (ho : ∀ g ∈ FS, g ≠ f → b3D a j' σ' g = b3D a j σ g) (hA : ∀ q ∈ FA, q.1 ≤ j' → ArI Z h (a + q.1) q.2.1 q.2.2 (gA σ' q.1)) : Rep Z C FS FA a j' h' σ' := by
 obtain ⟨r1, r2, r3⟩ := Rp
 refine ⟨r1.wr W, fun g hg => ?_, fun q hq hqj => (hA q hq hqj).other W (by have := (b0I G hq).1; omega)⟩
 by_cases e : g = f
 ·subst e; rw [hv]; exact (r2 g hg).same W
 ·rw [ho g hg e]
  obtain ⟨t, ht, -⟩ := b11 G hg
  obtain ⟨t', ht', -⟩ := b11 G hf
  exact (r2 g hg).other W (Or.inr (slot_ne (hL.1 g hg) (hL.1 f hf) (fun z => e (b5N G hg hf z)) ht ht'))
theorem Rep.putI (G : a07 FS FA nA = true) (hL : b6A Z a0 C FS kk) (Rp : Rep Z C FS FA a j h σ) {k : Nat} {n d : String} (hf : (k, n, d, 0) ∈ FS) {v : Int32} (W : Wr h h' a (RoadKit.slotOf Z C n d) (.int v)) : Rep Z C FS FA a j h' (sI σ k v) := by
 refine Rp.put G hL hf W (by simp [b3D, b7s]) (fun g hg ne => ?_) Rp.2.2
 have hk : g.1 ≠ k := fun z => ne (b4Z G hg hf z)
 unfold b3D
 split <;> simp [b7s, b8P, hk]
theorem Rep.set (G : a07 FS FA nA = true) (Rp : Rep Z C FS FA a j h σ) {k : Nat} {ty : FieldType} {n : Nat} (hq : (k, ty, n) ∈ FA) (hk : k ≤ j) {i : Int32} (h0 : 0 ≤ i.toInt) (h1 : i.toInt < n) {v : Int32} (W : Wr h h' (a + k) i.toNatClampNeg (.int v)) : Rep Z C FS FA a j h' (sA σ k i.toInt v) := by
 obtain ⟨r1, r2, r3⟩ := Rp
 have hp := (b0I G hq).1
 refine ⟨r1.wr W, fun g hg => ?_, fun q hq' hqj => ?_⟩
 ·have e : b3D a j (sA σ k i.toInt v) g = b3D a j σ g := by unfold b3D; split <;> simp [b8K, b8V]
  rw [e]; exact (r2 g hg).other W (Or.inl (Nat.ne_of_lt (Nat.lt_add_of_pos_right hp)))
 ·by_cases e : q.1 = k
  ·have := b5O G hq' hq e
   subst this
   obtain ⟨c, A, s1, s2⟩ := r3 _ hq' hqj
   refine ⟨_, A.same W, by rw [sz_set]; exact s1, fun x hx => ?_⟩
   simp only [b7O, true_and]
   have hi : (i.toNatClampNeg : Int) = i.toInt := by simp only [Int32.toNatClampNeg]; omega
   by_cases u : (x : Int) = i.toInt
   ·have : i.toNatClampNeg = x := by omega
    subst this
    simp only [hi, if_true]
    simp [Cell.setSlot, s1, hx]
   ·have : i.toNatClampNeg ≠ x := by omega
    simp only [u, if_false]
    simp only [Cell.setSlot]
    rw [Array.getElem?_setIfInBounds_ne this]; exact s2 x hx
  ·have eq : gA (sA σ k i.toInt v) q.1 = gA σ q.1 := by funext y; simp [b7O, e]
   rw [eq]; exact (r3 q hq' hqj).other W (by omega)
theorem Rep.keep (Rp : Rep Z C FS FA a j h σ) {ws : List Addr} (K : Keep h h' ws) (q : ∀ k, a + k ∉ ws) : Rep Z C FS FA a j h' σ := by
 obtain ⟨r1, r2, r3⟩ := Rp
 exact ⟨r1.keep K, fun f hf => (r2 f hf).keep K (q 0), fun x hx hj => (r3 x hx hj).keep K (q _)⟩
theorem Rep.ext (Rp : Rep Z C FS FA a j h σ) (E : Ext h h') : Rep Z C FS FA a j h' σ := by
 obtain ⟨r1, r2, r3⟩ := Rp
 exact ⟨r1.ext E, fun f hf => (r2 f hf).ext E, fun x hx hj => (r3 x hx hj).ext E⟩
theorem Rep.keep' (G : a07 FS FA nA = true) (Rp : Rep Z C FS FA a j h σ) {ws : List Addr} (K : Keep h h' ws) (q : ∀ k, k ≤ nA → a + k ∉ ws) : Rep Z C FS FA a j h' σ := by
 obtain ⟨r1, r2, r3⟩ := Rp
 exact ⟨r1.keep K, fun f hf => (r2 f hf).keep K (q 0 (Nat.zero_le _)), fun x hx hj => (r3 x hx hj).keep K (q _ (b0I G hx).2.1)⟩
end One
def b6W (a nA : Nat) : List Addr := (List.range (nA + 1)).map fun k => a + k
theorem b4Y {a : Nat} {nA k : Nat} (h : k ≤ nA) : a + k ∈ b6W a nA := List.mem_map.mpr ⟨k, List.mem_range.mpr (by omega), rfl⟩
theorem b7u {a x nA : Nat} (h : x ∈ b6W a nA) : a ≤ x ∧ x ≤ a + nA := by
 obtain ⟨k, hk, rfl⟩ := List.mem_map.mp h
 have := List.mem_range.mp hk; omega
def b8U (Z : State) (C : String) (FS : List a3F) (FA : List a0T) (nA a : Nat) (h0 : Heap) (ce : Nat → Nat × Nat) : St × Nat → Heap → Prop := fun x h => Rep Z C FS FA a x.2 h x.1 ∧ Keep h0 h (b6W a nA) ∧ h.size = h0.size + (ce x.2).1
def b3Y (X : Cx (St × Nat)) (Z : State) (a0 : Array Value) (C : String) (FS : List a3F) (FA : List a0T) (nA kk : Nat) (l0 : Launch) (n1 a : Nat) (h0 : Heap) (ce : Nat → Nat × Nat) (rm : Room) (nm : String) (code : ByteArray) (ml : Nat) (ret : Option FieldType) : Prop :=
 Ctx X Z C nm code ml ret ∧ b6A Z a0 C FS kk ∧ a07 FS FA nA = true ∧
 match X with
 | (p, l, e, R, s, m, args, below, meth, c, ad, INV, CE, n0, kc, ks) => ad = (fun k => a + k) ∧ INV = b8U Z C FS FA nA a h0 ce ∧ CE = (fun x => ce x.2) ∧ n0 = n1 ∧ n1 ≤ a ∧ l = l0 ∧ R = rm ∧ kc = rm.cells ∧ ks = rm.slots ∧ ce nA = (rm.cells, rm.slots) ∧ s.heap = h0
section RulesC
variable {X : Cx (St × Nat)} {Z : State} {a0 : Array Value} {C : String} {FS : List a3F} {FA : List a0T} {nA kk : Nat} {l0 : Launch} {n1 a : Nat} {h0 : Heap} {ce : Nat → Nat × Nat} {rm : Room} {nm : String} {code : ByteArray} {ml : Nat} {ret : Option FieldType} {r : Option Value × (St × Nat)} {pc : Nat} {L : List (Option Value)} {st : List Value} {σ : St} {j : Nat}
theorem a0w (K : b3Y X Z a0 C FS FA nA kk l0 n1 a h0 ce rm nm code ml ret) : Cap X (σ, nA) := by
 obtain ⟨p, l, e, R, s, m, args, below, meth, c, ad, INV, CE, n0, kc, ks⟩ := X
 obtain ⟨-, -, -, rfl, rfl, rfl, rfl, -, rfl, rfl, rfl, rfl, hce, hs0⟩ := K
 show (ce nA).1 ≤ _ ∧ (ce nA).2 ≤ _
 rw [hce]; exact ⟨Nat.le_refl _, Nat.le_refl _⟩
theorem a0i (K : b3Y X Z a0 C FS FA nA kk l0 n1 a h0 ce rm nm code ml ret) : n1 ≤ a := by
 obtain ⟨p, l, e, R, s, m, args, below, meth, c, ad, INV, CE, n0, kc, ks⟩ := X
 obtain ⟨-, -, -, rfl, rfl, rfl, rfl, hn, -⟩ := K
 exact hn
theorem b6C (K : b3Y X Z a0 C FS FA nA kk l0 n1 a h0 ce rm nm code ml ret) {idx k : Nat} {n d : String} {q : Nat} (hd : decode code pc = .ok (.getfield idx, 3)) (w : (Cond.fieldLink C idx C n d).before a0 Z = true) (hf : (k, n, d, q) ∈ FS) {v : Value} (hv : up (fun k => a + k) v = b3D a j σ (k, n, d, q))
  (h : Go X r (pc + 3) L (v :: st) (σ, j)) : Go X r pc L (.ref 0 :: st) (σ, j) := by
 obtain ⟨p, l, e, R, s, m, args, below, meth, c, ad, INV, CE, n0, kc, ks⟩ := X
 obtain ⟨⟨hx, hby, -, hown, hZ, -⟩, hL, G, rfl, rfl, rfl, rfl, hn, rfl, rfl, rfl, rfl, hce, hs0⟩ := K
 intro T locs A Y N I LO
 obtain ⟨T', Y', e', st'⟩ := getF Y hx hZ hown (host := "") (Or.inl w) Via.refl rfl (I.1.2.1 _ hf) (g := mkF m pc A ((Value.ref 0 :: st).map (up fun k => a + k))) rfl rfl (hb hby hd)
 obtain ⟨s₂, h1, h2⟩ := h T' locs A Y' N (by rw [e']; exact I) LO
 refine ⟨s₂, st' _ ?_, h2⟩
 rw [List.map_cons, hv] at h1
 exact h1
theorem a0s (K : b3Y X Z a0 C FS FA nA kk l0 n1 a h0 ce rm nm code ml ret) {idx k : Nat} {n d : String} (hd : decode code pc = .ok (.getfield idx, 3)) (w : (Cond.fieldLink C idx C n d).before a0 Z = true) (hf : (k, n, d, 0) ∈ FS)
  (h : Go X r (pc + 3) L (.int (gI σ k) :: st) (σ, j)) : Go X r pc L (.ref 0 :: st) (σ, j) := b6C K hd w hf rfl h
theorem a0k (K : b3Y X Z a0 C FS FA nA kk l0 n1 a h0 ce rm nm code ml ret) {idx k : Nat} {n d : String} (hd : decode code pc = .ok (.getfield idx, 3)) (w : (Cond.fieldLink C idx C n d).before a0 Z = true) (hf : (k, n, d, 2) ∈ FS) (hk : Nat.ble k j = true)
  (h : Go X r (pc + 3) L (.ref k :: st) (σ, j)) : Go X r pc L (.ref 0 :: st) (σ, j) := b6C K hd w hf (by simp [up, b3D, Nat.le_of_ble_eq_true hk]) h
theorem a0R (K : b3Y X Z a0 C FS FA nA kk l0 n1 a h0 ce rm nm code ml ret) {idx k : Nat} {n d : String} {t : FieldType} (hd : decode code pc = .ok (.putfield idx, 3)) (w : (Cond.fieldLink C idx C n d).before a0 Z = true) (hf : (k, n, d, 0) ∈ FS)
  (wl : (Cond.lays C C n d).before a0 Z = true ∨ ((Cond.laysFinal C C n d).before a0 Z = true ∧ nm = "<init>")) (ht : parseFieldDescriptor d = some t) {v v' : Int32} (hn : narrow t (.int v) = .int v') (hfi : fits t (.int v') = true)
  (h : Go X r (pc + 3) L st (sI σ k v', j)) : Go X r pc L (.int v :: .ref 0 :: st) (σ, j) := by
 obtain ⟨p, l, e, R, s, m, args, below, meth, c, ad, INV, CE, n0, kc, ks⟩ := X
 obtain ⟨⟨hx, hby, -, hown, hZ, -, -, hnm⟩, hL, G, rfl, rfl, rfl, rfl, hge, rfl, rfl, rfl, rfl, hce, hs0⟩ := K
 intro T locs A Y N I LO
 obtain ⟨T', h', Y', e', W, st'⟩ := putFN Y hx hZ hown w Via.refl rfl (I.1.2.1 _ hf) I.1.1 (wl.imp id fun q => ⟨q.1, rfl, hnm.trans q.2⟩) hL.2.1 ht hn hfi (g := mkF m pc A ((Value.int v :: .ref 0 :: st).map (up fun k => a + k))) rfl rfl (hb hby hd)
 obtain ⟨s₂, h1, h2⟩ := h T' _ A Y' (N.app fun y hy => by cases List.mem_singleton.mp hy; exact hge) (by rw [e']; exact ⟨I.1.putI G hL hf W, I.2.1.wr W (Or.inl (b4Y (k := 0) (Nat.zero_le _))), by rw [W.size]; exact I.2.2⟩) LO
 exact ⟨s₂, st' _ h1, h2⟩
theorem inb {c : Cell} {n : Nat} {i : Int32} (S : c.slots.size = n) (h0 : 0 ≤ i.toInt) (h1 : i.toInt < n) : ¬ (i < 0 ∨ c.slots.size ≤ i.toNatClampNeg) := by
 have e0 : (0 : Int32).toInt = 0 := rfl
 rw [S, Int32.lt_iff_toInt_lt, e0]; simp only [Int32.toNatClampNeg]; omega
theorem b6B {c : Cell} {n : Nat} {g : Int → Int32} (H : ∀ i : Nat, i < n → c.slots[i]? = some (.int (g (i : Int)))) {i : Int32} (h0 : 0 ≤ i.toInt) (h1 : i.toInt < n) : c.slots[i.toNatClampNeg]? = some (.int (g i.toInt)) := by
 have e : (i.toNatClampNeg : Int) = i.toInt := by simp only [Int32.toNatClampNeg]; omega
 have := H i.toNatClampNeg (by omega)
 rw [e] at this; exact this
theorem a0j (K : b3Y X Z a0 C FS FA nA kk l0 n1 a h0 ce rm nm code ml ret) {k n : Nat} {i : Int32} (hd : decode code pc = .ok (.iaload, 1)) (hq : (k, .int, n) ∈ FA) (hk : Nat.ble k j = true) (hi : 0 ≤ i.toInt ∧ i.toInt < (n : Nat))
  (h : Go X r (pc + 1) L (.int (gA σ k i.toInt) :: st) (σ, j)) : Go X r pc L (.int i :: .ref k :: st) (σ, j) := by
 obtain ⟨p, l, e, R, s, m, args, below, meth, c, ad, INV, CE, n0, kc, ks⟩ := X
 obtain ⟨⟨hx, hby, -, hown, hZ, -⟩, hL, G, rfl, rfl, rfl, rfl, hn, rfl, rfl, rfl, rfl, hce, hs0⟩ := K
 intro T locs A Y N I LO
 obtain ⟨cl, F1, F2, F3⟩ := I.1.2.2 _ hq (Nat.le_of_ble_eq_true hk)
 obtain ⟨s₂, h1, h2⟩ := h T locs A Y N I LO
 exact ⟨s₂, Y.iaload hx F1.1 (State.isArrayOf_alike hZ.alike F1.2.1) F1.2.2 (inb F2 hi.1 hi.2) (b6B F3 hi.1 hi.2) (g := mkF m pc A ((Value.int i :: .ref k :: st).map (up fun k => a + k))) rfl rfl (hb hby hd) _ h1, h2⟩
theorem b6n (K : b3Y X Z a0 C FS FA nA kk l0 n1 a h0 ce rm nm code ml ret) {k n : Nat} {i : Int32} (hd : decode code pc = .ok (.caload, 1)) (hq : (k, .char, n) ∈ FA) (hk : Nat.ble k j = true) (hi : 0 ≤ i.toInt ∧ i.toInt < (n : Nat))
  (h : Go X r (pc + 1) L (.int (gA σ k i.toInt) :: st) (σ, j)) : Go X r pc L (.int i :: .ref k :: st) (σ, j) := by
 obtain ⟨p, l, e, R, s, m, args, below, meth, c, ad, INV, CE, n0, kc, ks⟩ := X
 obtain ⟨⟨hx, hby, -, hown, hZ, -⟩, hL, G, rfl, rfl, rfl, rfl, hn, rfl, rfl, rfl, rfl, hce, hs0⟩ := K
 intro T locs A Y N I LO
 obtain ⟨cl, F1, F2, F3⟩ := I.1.2.2 _ hq (Nat.le_of_ble_eq_true hk)
 obtain ⟨s₂, h1, h2⟩ := h T locs A Y N I LO
 exact ⟨s₂, Y.caload hx F1.1 (State.isArrayOf_alike hZ.alike F1.2.1) F1.2.2 (inb F2 hi.1 hi.2) (b6B F3 hi.1 hi.2) (g := mkF m pc A ((Value.int i :: .ref k :: st).map (up fun k => a + k))) rfl rfl (hb hby hd) _ h1, h2⟩
theorem a0r (K : b3Y X Z a0 C FS FA nA kk l0 n1 a h0 ce rm nm code ml ret) {k n : Nat} {i v : Int32} (hd : decode code pc = .ok (.iastore, 1)) (hq : (k, .int, n) ∈ FA) (hk : Nat.ble k j = true) (hi : 0 ≤ i.toInt ∧ i.toInt < (n : Nat))
  (h : Go X r (pc + 1) L st (sA σ k i.toInt v, j)) : Go X r pc L (.int v :: .int i :: .ref k :: st) (σ, j) := by
 obtain ⟨p, l, e, R, s, m, args, below, meth, c, ad, INV, CE, n0, kc, ks⟩ := X
 obtain ⟨⟨hx, hby, -, hown, hZ, -⟩, hL, G, rfl, rfl, rfl, rfl, hge, rfl, rfl, rfl, rfl, hce, hs0⟩ := K
 intro T locs A Y N I LO
 obtain ⟨cl, F1, F2, F3⟩ := I.1.2.2 _ hq (Nat.le_of_ble_eq_true hk)
 obtain ⟨T', h', Y', e', W, st'⟩ := stI Y hx hZ rfl F1 (x := v) (inb F2 hi.1 hi.2) (g := mkF m pc A ((Value.int v :: .int i :: .ref k :: st).map (up fun k => a + k))) rfl rfl (hb hby hd)
 obtain ⟨s₂, h1, h2⟩ := h T' _ A Y' (N.app fun y hy => by cases List.mem_singleton.mp hy; exact Nat.le_trans hge (Nat.le_add_right _ _)) (by rw [e']; exact ⟨I.1.set G hq (Nat.le_of_ble_eq_true hk) hi.1 hi.2 W, I.2.1.wr W (Or.inl (b4Y (b0I G hq).2.1)), by rw [W.size]; exact I.2.2⟩) LO
 exact ⟨s₂, st' _ h1, h2⟩
theorem b57 (K : b3Y X Z a0 C FS FA nA kk l0 n1 a h0 ce rm nm code ml ret) {k n : Nat} {i v v' : Int32} (hd : decode code pc = .ok (.castore, 1)) (hq : (k, .char, n) ∈ FA) (hk : Nat.ble k j = true) (hi : 0 ≤ i.toInt ∧ i.toInt < (n : Nat)) (hv : nar .char v = v')
  (h : Go X r (pc + 1) L st (sA σ k i.toInt v', j)) : Go X r pc L (.int v :: .int i :: .ref k :: st) (σ, j) := by
 obtain ⟨p, l, e, R, s, m, args, below, meth, c, ad, INV, CE, n0, kc, ks⟩ := X
 obtain ⟨⟨hx, hby, -, hown, hZ, -⟩, hL, G, rfl, rfl, rfl, rfl, hge, rfl, rfl, rfl, rfl, hce, hs0⟩ := K
 subst hv
 intro T locs A Y N I LO
 obtain ⟨cl, F1, F2, F3⟩ := I.1.2.2 _ hq (Nat.le_of_ble_eq_true hk)
 obtain ⟨T', h', Y', e', W, st'⟩ := stC Y hx hZ rfl F1 (x := v) (inb F2 hi.1 hi.2) (g := mkF m pc A ((Value.int v :: .int i :: .ref k :: st).map (up fun k => a + k))) rfl rfl (hb hby hd)
 obtain ⟨s₂, h1, h2⟩ := h T' _ A Y' (N.app fun y hy => by cases List.mem_singleton.mp hy; exact Nat.le_trans hge (Nat.le_add_right _ _)) (by rw [e']; exact ⟨I.1.set G hq (Nat.le_of_ble_eq_true hk) hi.1 hi.2 W, I.2.1.wr W (Or.inl (b4Y (b0I G hq).2.1)), by rw [W.size]; exact I.2.2⟩) LO
 exact ⟨s₂, st' _ h1, h2⟩
theorem b5B (K : b3Y X Z a0 C FS FA nA kk l0 n1 a h0 ce rm nm code ml ret) {idx k : Nat} (hd : decode code pc = .ok (.invokespecial idx, 3)) (w1 : (Cond.methodLink C idx Lib.objectInit).before a0 Z = true) (w2 : (Cond.instanceMethod Lib.objectInit).before a0 Z = true)
  (w3 : (Cond.code Lib.objectInit ⟨#[0xb1]⟩ 1 none).before a0 Z = true) (hml : L.length = ml) (hr1 : 1 ≤ rm.frames) (hr2 : (st.map fun v => v.category).sum + 12 ≤ rm.locals) (h : Go X r (pc + 3) L st (σ, j)) : Go X r pc L (.ref k :: st) (σ, j) := by
 obtain ⟨p, l, e, R, s, m, args, below, meth, c, ad, INV, CE, n0, kc, ks⟩ := X
 obtain ⟨⟨hx, hby, hcm, hown, hZ, -⟩, hL, G, rfl, rfl, rfl, rfl, hge, rfl, rfl, rfl, rfl, hce, hs0⟩ := K
 intro T locs A Y N I LO
 obtain ⟨T', Y', e', st'⟩ := initO Y hx hZ hown w1 w2 w3 rfl (g := mkF m pc A ((Value.ref k :: st).map (up fun k => a + k))) rfl (by rw [hcm, ← hml]; exact LO.1) rfl (hb hby hd) hr1 (W := (st.map fun v => v.category).sum) (by rw [b0R]; show 2 * 0 + _ ≤ _; omega) hr2
 obtain ⟨s₂, h1, h2⟩ := h T' locs A Y' N (by rw [e']; exact I) LO
 exact ⟨s₂, st' _ h1, h2⟩
theorem a0M (K : b3Y X Z a0 C FS FA nA kk l0 n1 a h0 ce rm nm code ml ret) {aty : ArrayType} {idx : Nat} {n d : String} {len : Int32} {t : FieldType} (hd : decode code pc = .ok (.newarray aty, 2)) (hd2 : decode code (pc + 2) = .ok (.putfield idx, 3)) (wa : (Cond.arrayClass (newarray.typeOf aty)).before a0 Z = true) (w : (Cond.fieldLink C idx C n d).before a0 Z = true)
  (hf : (j + 1, n, d, 2) ∈ FS) (wl : (Cond.lays C C n d).before a0 Z = true ∨ ((Cond.laysFinal C C n d).before a0 Z = true ∧ nm = "<init>")) (ht : parseFieldDescriptor d = some t) (hn : ∀ x, narrow t (.ref x) = .ref x) (hfi : ∀ x, fits t (.ref x) = true)
  (hint : newarray.typeOf aty = .int ∨ newarray.typeOf aty = .boolean ∨ newarray.typeOf aty = .char) {q : a0T} (hq : q ∈ FA) (hq1 : q.1 = j + 1) (hq2 : q.2.1 = newarray.typeOf aty) (hq3 : q.2.2 = len.toNatClampNeg) (hlen : ¬ len < 0) (hcap : len.toNatClampNeg * 8 ≤ 536870912)
  (hh : h0.size = a + 1) (hce1 : ce j = (j, (ce j).2)) (hce2 : ce (j + 1) = (j + 1, (ce j).2 + len.toNatClampNeg)) (hc1 : j + 1 ≤ rm.cells) (hc2 : (ce j).2 + len.toNatClampNeg ≤ rm.slots) (hz : ∀ i, gA σ (j + 1) i = 0)
  (h : Go X r (pc + 5) L st (σ, j + 1)) : Go X r pc L (.int len :: .ref 0 :: st) (σ, j) := by
 obtain ⟨p, l, e, R, s, m, args, below, meth, c, ad, INV, CE, n0, kc, ks⟩ := X
 obtain ⟨⟨hx, hby, -, hown, hZ, -, -, hnm⟩, hL, G, rfl, rfl, rfl, rfl, hge, rfl, rfl, rfl, rfl, hce, hs0⟩ := K
 intro T locs A Y N I LO
 have hY : Stand p l e R s m args below meth c T locs j (ce j).2 := by
  have := Y; simp only at this; rw [hce1] at this; exact this
 have hsz : T.heap.size = a + 1 + j := by have := I.2.2; simp only at this; rw [hce1] at this; omega
 obtain ⟨T1, h1, cA, Y1, e1, E1, A1, st1'⟩ := newP hY hx hZ wa rfl (g := mkF m pc A ((Value.int len :: .ref 0 :: st).map (up fun k => a + k))) rfl (hb hby hd) rfl hlen (Nat.le_refl _) hcap hc1 hc2
 rw [hsz] at A1 st1'
 have eA : a + 1 + j = a + (j + 1) := by omega
 rw [eA] at A1 st1'
 have R1 : Rep Z C FS FA a j h1 σ := I.1.ext E1
 obtain ⟨T2, h2, Y2, e2, W, st2'⟩ := putFN Y1 hx hZ hown w Via.refl e1 (R1.2.1 _ hf) R1.1 (wl.imp id fun q => ⟨q.1, rfl, hnm.trans q.2⟩) hL.2.1 ht (hn _) (hfi _) (g := mkF m (pc + 2) A (.ref (a + (j + 1)) :: ((Value.ref 0 :: st).map (up fun k => a + k)))) rfl rfl (hb hby hd2)
 have R2 : Rep Z C FS FA a (j + 1) h2 σ := by
  refine R1.put G hL hf W (by simp [b3D]) (fun g hg ne => ?_) (fun q' hq' hj => ?_)
  ·have hk : g.1 ≠ j + 1 := fun z => ne (b4Z G hg hf z)
   unfold b3D
   split
   ·rfl
   ·rfl
   ·by_cases z : g.1 ≤ j
    ·rw [if_pos z, if_pos (by omega)]
    ·rw [if_neg z, if_neg (by omega)]
  ·by_cases z : q'.1 ≤ j
   ·exact R1.2.2 q' hq' z
   ·have : q' = q := b5O G hq' hq (by omega)
    subst this
    rw [hq1, hq2, hq3]
    refine ⟨_, A1, sz_new _ _ _, fun i hi => ?_⟩
    rw [hz]
    rcases hint with e | e | e <;> rw [e] <;> simp [newA, hi, defaultValue]
 have hs1 : h1.size = a + 1 + (j + 1) := by
  have q1 := E1.1
  have q2 : T1.heap.size ≤ s.heap.size + (j + 1) := Y1.heapSize
  have q3 := A1.lt
  rw [e1, hs0, hh] at q2
  have q5 : a + (j + 1) < h1.size := q3
  have q6 : h1.size ≤ a + 1 + (j + 1) := q2
  omega
 obtain ⟨s₂, g1, g2⟩ := h T2 _ A (by show Stand _ _ _ _ _ _ _ _ _ _ _ _ (ce (j + 1)).1 (ce (j + 1)).2; rw [hce2]; exact Y2) (N.app fun y hy => by cases List.mem_singleton.mp hy; exact hge)
  (by rw [e2]; exact ⟨R2, (I.2.1.ext E1).wr W (Or.inl (b4Y (k := 0) (Nat.zero_le _))), by rw [W.size, hs1, hh]; show _ = _ + (ce (j + 1)).1; rw [hce2]⟩) LO
 exact ⟨s₂, st1' _ (st2' _ g1), g2⟩
end RulesC
def MetP (l : Launch) (Z : State) (y : MethodName) (code : ByteArray) (ml : Nat) (ret : Option FieldType) (rm : Room) (ws : List Jvm.Cond) (n0 : Nat) (h1 : Heap) (as : Array Value) (v : Option Value) (POST : Heap → Prop) : Prop :=
 MetFree l y (head1 (Jvm.Cond.code y code ml ret :: ws) rm) (fun b U => b = as ∧ Z.Warmed39 U.vm ∧ U.heap = h1) (fun _ _ _ _ _ => True) (fun _ U o U' => ∃ w L, o = .returned w ∧ (w = v ∧ Fr n0 L ∧ POST U'.heap) ∧ FrameEnd U o U' L rm.cells rm.slots)
theorem a97 {S : Type} {l : Launch} {Z : State} {y : MethodName} {code : ByteArray} {ml : Nat} {ret : Option FieldType} {rm : Room} {ws : List Jvm.Cond} {n0 : Nat} {h1 : Heap} {ad : Nat → Addr} {INV : S → Heap → Prop} {CE : S → Nat × Nat} {vs : List Value} {v : Option Value} {x x' : S} {L : List (Option Value)}
  (hp : plainName y.cls = true) (hL : ent vs ml = L) (hI : INV x h1) (hce : CE x = (0, 0))
  (H : ∀ (p : Program) (e : Env) (s : State) (m : MethodId) (below : List Frame) (meth : Method) (c : Code), s.heap = h1 → Ctx (S := S) (p, l, e, rm, s, m, (vs.map (up ad)).toArray, below, meth, c, ad, INV, CE, n0, rm.cells, rm.slots) Z y.cls y.name code ml ret →
   Go (S := S) (p, l, e, rm, s, m, (vs.map (up ad)).toArray, below, meth, c, ad, INV, CE, n0, rm.cells, rm.slots) (v, x') 0 L [] x) :
  MetP l Z y code ml ret rm ws n0 h1 (vs.map (up ad)).toArray (v.map (up ad)) (INV x') := by
 refine MetFree.of_bodySF (plainFor_of_name hp) hisR ?_
 intro p e s m args below meth c s₁ Bd hml0 hP hK
 obtain ⟨rfl, hZ, hh⟩ := hP
 have hown : s.vm.findClass y.cls = some m.cls := findClass_of_methodNamed Bd.named
 have hnm := (name_of_methodNamed Bd.named Bd.method).1
 have X0 : Stand p l e rm s m (vs.map (up ad)).toArray below meth c s₁ [] 0 0 := Stand.of_body Bd
 have e0 : s₁.heap = h1 := by rw [← hh, Bd.state]; rfl
 subst hL
 obtain ⟨s₂, g1, g2, g3, g4, L', g5, g6, g7⟩ := H p e s m below meth c hh ⟨Bd.exec, Bd.bytes, hml0, hown, hZ, Bd.returns, Bd.notSynchronized, hnm⟩ s₁ [] _ (by rw [hce]; exact X0) (Fr.nil n0) (by rw [e0]; exact hI) (b6I ad vs ml)
 exact ⟨s₂, _, g1, g2, g3, _, L', rfl, ⟨rfl, g5, g4⟩, ⟨_, rfl⟩, g6, g7⟩
theorem MetP.mono {l : Launch} {Z : State} {y : MethodName} {code : ByteArray} {ml : Nat} {ret : Option FieldType} {rm : Room} {ws : List Jvm.Cond} {n0 : Nat} {h1 : Heap} {as : Array Value} {v : Option Value} {P Q : Heap → Prop}
  (H : MetP l Z y code ml ret rm ws n0 h1 as v P) (hPQ : ∀ h, P h → Q h) : MetP l Z y code ml ret rm ws n0 h1 as v Q := by
 intro p e ha hc hk s m args below hf happ hP hK
 obtain ⟨n, o, q1, q2, q3, w, L, q4, ⟨q5, q6, q7⟩, q8⟩ := H p e ha hc hk s m args below hf happ hP hK
 exact ⟨n, o, q1, q2, q3, w, L, q4, ⟨q5, q6, hPQ _ q7⟩, q8⟩
theorem MetP.back {p : Program} {l : Launch} {e : Env} {R : Room} {s : State} {args : Array Value} {below : List Frame} {Z : State} {a0 : Array Value} {y : MethodName} {code : ByteArray} {ml : Nat} {ret : Option FieldType} {rm : Room} {n0 : Nat} {h1 : Heap} {as : Array Value} {v : Option Value} {POST : Heap → Prop} {len W : Nat}
  (H : MetP l Z y code ml ret rm [] n0 h1 as v POST) (hZ : Z.Warmed39 s.vm) (wc : (Jvm.Cond.code y code ml ret).before a0 Z = true) (wz : (Cond.initialized y.cls).before a0 Z = true) (hf : rm.frames + 1 ≤ R.frames) (hl : W + (ml + 11) + rm.locals ≤ R.locals) :
  Back l R p e below s args y len W (fun A b => b = as ∧ A.U.heap = h1 ∧ A.cells + rm.cells ≤ R.cells ∧ A.slots + rm.slots ≤ R.slots)
   (fun A _ w B => ∃ L, (w = v ∧ Fr n0 L ∧ POST B.U.heap) ∧ B.locs = A.locs ++ L ∧ B.cells = A.cells + rm.cells ∧ B.slots = A.slots + rm.slots) :=
 backOf (Q := fun w h' L => w = v ∧ Fr n0 L ∧ POST h') H hZ wc wz hf hl
def Con (l : Launch) (Z : State) (C : String) (FS : List a3F) (FA : List a0T) (nA n0 a : Nat) (y : MethodName) (code : ByteArray) (ml : Nat) (ret : Option FieldType) (rm : Room) (vs : List Value) (σ : St) (v : Option Value) (σ' : St) : Prop :=
 ∀ (ws : List Jvm.Cond) (h1 : Heap), Rep Z C FS FA a nA h1 σ → MetP l Z y code ml ret rm ws n0 h1 (vs.map (up fun k => a + k)).toArray (v.map (up fun k => a + k)) (fun h' => Rep Z C FS FA a nA h' σ' ∧ Keep h1 h' (b6W a nA) ∧ h'.size = h1.size)
def ce0 : Nat → Nat × Nat := fun _ => (0, 0)
theorem a0l {l : Launch} {Z : State} {a0 : Array Value} {C : String} {FS : List a3F} {FA : List a0T} {nA kk n0 a : Nat} {n d : String} {code : ByteArray} {ml : Nat} {ret : Option FieldType} {fr lo : Nat} {vs : List Value} {σ : St} {v : Option Value} {σ' : St} {L : List (Option Value)}
  (hp : plainName C = true) (hL : ent vs ml = L) (lw : b6A Z a0 C FS kk) (lg : a07 FS FA nA = true) (hge : n0 ≤ a)
  (H : ∀ (X : Cx (St × Nat)) (h1 : Heap), b3Y X Z a0 C FS FA nA kk l n0 a h1 ce0 ⟨fr, 0, 0, lo⟩ n code ml ret → Go X (v, (σ', nA)) 0 L [] (σ, nA)) :
  Con l Z C FS FA nA n0 a ⟨C, n, d⟩ code ml ret ⟨fr, 0, 0, lo⟩ vs σ v σ' := by
 intro ws h1 hR
 refine (a97 (S := St × Nat) (INV := b8U Z C FS FA nA a h1 ce0) (CE := fun x => ce0 x.2) (x := (σ, nA)) (x' := (σ', nA)) hp hL ⟨hR, Keep.refl _ _, rfl⟩ rfl ?_).mono (fun h q => ⟨q.1, q.2.1, q.2.2⟩)
 intro p e s m below meth c hs K
 exact H _ h1 ⟨K, lw, lg, rfl, rfl, rfl, rfl, hge, rfl, rfl, rfl, rfl, rfl, hs⟩
section Calls
variable {X : Cx (St × Nat)} {Z : State} {a0 : Array Value} {C : String} {FS : List a3F} {FA : List a0T} {nA kk : Nat} {l0 : Launch} {n1 a : Nat} {h0 : Heap} {ce : Nat → Nat × Nat} {rm rm' : Room} {nm : String} {code code' : ByteArray} {ml ml' : Nat} {ret ret' : Option FieldType} {r : Option Value × (St × Nat)} {pc : Nat} {L : List (Option Value)} {st st0 : List Value} {σ σ' : St}
theorem a0g (K : b3Y X Z a0 C FS FA nA kk l0 n1 a h0 ce rm nm code ml ret) {idx : Nat} {n d : String} {ps : List FieldType} {rt : Option FieldType} (hd : decode code pc = .ok (.invokevirtual idx, 3)) (w1 : (Cond.methodLink C idx ⟨C, n, d⟩).before a0 Z = true) (w2 : (Cond.instanceMethod ⟨C, n, d⟩).before a0 Z = true)
  (w3 : (Cond.privateMethod ⟨C, n, d⟩).before a0 Z = true) (w4 : (Jvm.Cond.code ⟨C, n, d⟩ code' ml' ret').before a0 Z = true) (hy : C ≠ "java/lang/invoke/MethodHandle" ∧ C ≠ "java/lang/invoke/VarHandle") (hpd : parseMethodDescriptor d = some ⟨ps, rt⟩) {vs : List Value} (hst : vs.reverse ++ .ref 0 :: st = st0) (hlen : vs.length = ps.length)
  {v : Option Value} (con : Con l0 Z C FS FA nA n1 a ⟨C, n, d⟩ code' ml' ret' rm' (.ref 0 :: vs) σ v σ') (hml : L.length = ml) (hr1 : rm'.frames + 1 ≤ rm.frames) (hr2 : (st.map fun v => v.category).sum + (ml' + 11) + rm'.locals ≤ rm.locals) (hr3 : rm'.cells = 0) (hr4 : rm'.slots = 0)
  (h : Go X r (pc + 3) L (v.toList ++ st) (σ', nA)) : Go X r pc L st0 (σ, nA) := by
 obtain ⟨p, l, e, R, s, m, args, below, meth, c, ad, INV, CE, n0, kc, ks⟩ := X
 obtain ⟨⟨hx, hby, hcm, hown, hZ, -⟩, hL, G, rfl, rfl, rfl, rfl, hge, rfl, rfl, rfl, rfl, hce, hs0⟩ := K
 intro T locs A Y N I LO
 subst hst
 obtain ⟨cell, hcell, hobj⟩ := I.1.1.cell
 obtain ⟨ci, ki, i1, i2, i3, i4, -⟩ := Cond.instantiable_spec (mvT (args := #[]) hZ hL.2.1)
 have hni : ki.isInterface = false := by simp only [Bool.or_eq_false_iff] at i4; exact i4.1
 have hpr : s.PrivateAt ⟨C, n, d⟩ := Cond.privateMethod_at (mvP hZ w3 (args := #[]))
 have hsel : (Cond.selects C ⟨C, n, d⟩ ⟨C, n, d⟩).before args s = true := selects_self_of_private (y := ⟨C, n, d⟩) i1 i2 hni hpr (mvT hZ w2) hy
 have hcA : (ce nA).1 + rm'.cells ≤ R.cells := by rw [hce, hr3]; exact Nat.le_refl _
 have hsA : (ce nA).2 + rm'.slots ≤ R.slots := by rw [hce, hr4]; exact Nat.le_refl _
 obtain ⟨w, vm₁, ⟨T', L', k', n'⟩, -, Y', ⟨Lc, ⟨q1, q2, q3, q4, q5⟩, l', y', z'⟩, st'⟩ := Y.privateBack hx (y := ⟨C, n, d⟩) hown (mvT hZ w1) (mvT hZ w2) hsel hpr (mvT hZ w4) hy
  (MetP.back (W := (st.map fun v => v.category).sum) (con [] T.heap I.1) hZ w4 hL.2.2 hr1 hr2) (g := mkF m pc A ((vs.reverse ++ .ref 0 :: st).map (up fun k => a + k))) rfl (by rw [hcm, ← hml]; exact LO.1) (Steps.refl _) (a := a) hcell hobj
  (argsL := vs.map (up fun k => a + k)) (rest := st.map (up fun k => a + k)) (lenOf hpd (by rw [List.length_map]; exact hlen)) (by simp [up]) (by rw [b0R]; show 2 * 0 + _ ≤ _; omega) (hb hby hd) (fun _ _ => ⟨by simp [up], rfl, hcA, hsA⟩)
 dsimp only [Pt.U, Pt.locs, Pt.cells, Pt.slots] at Y' l' y' z' st' q1 q3 q4 q5
 subst l' y' z' q1
 obtain ⟨s₂, h1, h2⟩ := h T' _ A (by show Stand _ _ _ _ _ _ _ _ _ _ _ _ (ce nA).1 (ce nA).2; simpa [hr3, hr4] using Y') (N.app q2) ⟨q3, I.2.1.trans q4 (fun x hx => Or.inl hx), by rw [q5]; exact I.2.2⟩ LO
 refine ⟨s₂, st'.trans ?_, h2⟩
 have e1 : (v.toList ++ st).map (up fun k => a + k) = (v.map (up fun k => a + k)).toList ++ st.map (up fun k => a + k) := by cases v <;> simp
 rw [e1] at h1
 exact h1
theorem b0S (K : b3Y X Z a0 C FS FA nA kk l0 n1 a h0 ce rm nm code ml ret) {idx : Nat} {n d : String} {ps : List FieldType} {rt : Option FieldType} (hd : decode code pc = .ok (.invokevirtual idx, 3)) (w1 : (Cond.methodLink C idx ⟨C, n, d⟩).before a0 Z = true) (w2 : (Cond.instanceMethod ⟨C, n, d⟩).before a0 Z = true)
  (w3 : (Cond.declares ⟨C, n, d⟩).before a0 Z = true) (w3' : (Cond.selects C ⟨C, n, d⟩ ⟨C, n, d⟩).before a0 Z = true) (w4 : (Jvm.Cond.code ⟨C, n, d⟩ code' ml' ret').before a0 Z = true) (hy : C ≠ "java/lang/invoke/MethodHandle" ∧ C ≠ "java/lang/invoke/VarHandle") (hpd : parseMethodDescriptor d = some ⟨ps, rt⟩) {vs : List Value} (hst : vs.reverse ++ .ref 0 :: st = st0) (hlen : vs.length = ps.length)
  {v : Option Value} (con : Con l0 Z C FS FA nA n1 a ⟨C, n, d⟩ code' ml' ret' rm' (.ref 0 :: vs) σ v σ') (hml : L.length = ml) (hr1 : rm'.frames + 1 ≤ rm.frames) (hr2 : (st.map fun v => v.category).sum + (ml' + 11) + rm'.locals ≤ rm.locals) (hr3 : rm'.cells = 0) (hr4 : rm'.slots = 0)
  (h : Go X r (pc + 3) L (v.toList ++ st) (σ', nA)) : Go X r pc L st0 (σ, nA) := by
 obtain ⟨p, l, e, R, s, m, args, below, meth, c, ad, INV, CE, n0, kc, ks⟩ := X
 obtain ⟨⟨hx, hby, hcm, hown, hZ, -⟩, hL, G, rfl, rfl, rfl, rfl, hge, rfl, rfl, rfl, rfl, hce, hs0⟩ := K
 intro T locs A Y N I LO
 subst hst
 obtain ⟨cq, kq, qa, qb, qc⟩ := isOf hZ rfl I.1.1
 have hcA : (ce nA).1 + rm'.cells ≤ R.cells := by rw [hce, hr3]; exact Nat.le_refl _
 have hsA : (ce nA).2 + rm'.slots ≤ R.slots := by rw [hce, hr4]; exact Nat.le_refl _
 obtain ⟨w, vm₁, ⟨T', L', k', n'⟩, -, Y', ⟨Lc, ⟨q1, q2, q3, q4, q5⟩, l', y', z'⟩, st'⟩ := Y.virtualBack hx (y := ⟨C, n, d⟩) (z := ⟨C, n, d⟩) hown (mvT hZ w1) (mvT hZ w3) (notFace_of_selects (args := #[]) (mvT hZ w3')) (mvT hZ w3') (mvT hZ w2) hy
  (MetP.back (W := (st.map fun v => v.category).sum) (con [] T.heap I.1) hZ w4 hL.2.2 hr1 hr2) qa qc (g := mkF m pc A ((vs.reverse ++ .ref 0 :: st).map (up fun k => a + k))) rfl (by rw [hcm, ← hml]; exact LO.1) (Steps.refl _)
  (argsL := vs.map (up fun k => a + k)) (rest := st.map (up fun k => a + k)) (lenOf hpd (by rw [List.length_map]; exact hlen)) (by simp [up]) (by rw [b0R]; show 2 * 0 + _ ≤ _; omega) (hb hby hd) (fun _ _ => ⟨by simp [up], rfl, hcA, hsA⟩)
 dsimp only [Pt.U, Pt.locs, Pt.cells, Pt.slots] at Y' l' y' z' st' q1 q3 q4 q5
 subst l' y' z' q1
 obtain ⟨s₂, h1, h2⟩ := h T' _ A (by show Stand _ _ _ _ _ _ _ _ _ _ _ _ (ce nA).1 (ce nA).2; simpa [hr3, hr4] using Y') (N.app q2) ⟨q3, I.2.1.trans q4 (fun x hx => Or.inl hx), by rw [q5]; exact I.2.2⟩ LO
 refine ⟨s₂, st'.trans ?_, h2⟩
 have e1 : (v.toList ++ st).map (up fun k => a + k) = (v.map (up fun k => a + k)).toList ++ st.map (up fun k => a + k) := by cases v <;> simp
 rw [e1] at h1
 exact h1
end Calls
def b8A (l : Launch) (Z : State) (C : String) (FS : List a3F) (FA : List a0T) (nA n0 a : Nat) (y : MethodName) (code : ByteArray) (ml : Nat) (rm : Room) (vs : List Value) (σ' : St) : Prop :=
 ∀ (ws : List Jvm.Cond) (h1 : Heap), h1.size = a + 1 → Rep Z C FS FA a 0 h1 z0 → MetP l Z y code ml none rm ws n0 h1 (vs.map (up fun k => a + k)).toArray none (fun h' => Rep Z C FS FA a nA h' σ' ∧ Keep h1 h' (b6W a nA) ∧ h'.size = h1.size + nA)
def ceI (FA : List a0T) : Nat → Nat × Nat := fun j => (j, ((FA.filter fun q => decide (q.1 ≤ j)).map fun q => q.2.2).sum)
theorem b5d {l : Launch} {Z : State} {a0 : Array Value} {C : String} {FS : List a3F} {FA : List a0T} {nA kk n0 a : Nat} {d : String} {code : ByteArray} {ml : Nat} {fr lo sl : Nat} {vs : List Value} {σ' : St} {L : List (Option Value)}
  (hp : plainName C = true) (hL : ent vs ml = L) (lw : b6A Z a0 C FS kk) (lg : a07 FS FA nA = true) (hge : n0 ≤ a) (hce : ceI FA nA = (nA, sl)) (hc0 : ceI FA 0 = (0, 0))
  (H : ∀ (X : Cx (St × Nat)) (h1 : Heap), h1.size = a + 1 → b3Y X Z a0 C FS FA nA kk l n0 a h1 (ceI FA) ⟨fr, nA, sl, lo⟩ "<init>" code ml none → Go X (none, (σ', nA)) 0 L [] (z0, 0)) :
  b8A l Z C FS FA nA n0 a ⟨C, "<init>", d⟩ code ml ⟨fr, nA, sl, lo⟩ vs σ' := by
 intro ws h1 hsz hR
 refine (a97 (S := St × Nat) (INV := b8U Z C FS FA nA a h1 (ceI FA)) (CE := fun x => ceI FA x.2) (x := (z0, 0)) (x' := (σ', nA)) (v := none) hp hL ⟨hR, Keep.refl _ _, by rw [hc0]; rfl⟩ hc0 ?_).mono (fun h q => ⟨q.1, q.2.1, by rw [q.2.2, hce]⟩)
 intro p e s m below meth c hs K
 exact H _ h1 hsz ⟨K, lw, lg, rfl, rfl, rfl, rfl, hge, rfl, rfl, rfl, rfl, hce, hs⟩
def adL (sc n0 nA : Nat) : Nat → Addr := fun i => if i = 100 then sc else n0 + i * (nA + 1)
def a5T (W : List (St × Nat)) : Nat := (W.map fun x => 1 + x.2).sum
def INVl (Z : State) (C : String) (FS : List a3F) (FA : List a0T) (nA n0 : Nat) (H0 : Heap) : List (St × Nat) → Heap → Prop := fun W h => (∀ i x, W[i]? = some x → Rep Z C FS FA (n0 + i * (nA + 1)) x.2 h x.1) ∧ h.size = n0 + a5T W ∧ Ext H0 h
def b5Z (X : Cx (List (St × Nat))) (Z : State) (a0 : Array Value) (C : String) (FS : List a3F) (FA : List a0T) (nA kk : Nat) (l0 : Launch) (n1 sc : Nat) (H0 : Heap) (ce : List (St × Nat) → Nat × Nat) (rm : Room) (kc1 ks1 : Nat) (own nm : String) (code : ByteArray) (ml : Nat) (ret : Option FieldType) : Prop :=
 Ctx X Z own nm code ml ret ∧ b6A Z a0 C FS kk ∧ a07 FS FA nA = true ∧
 match X with
 | (p, l, e, R, s, m, args, below, meth, c, ad, INV, CE, n0, kc, ks) => ad = adL sc n1 nA ∧ INV = INVl Z C FS FA nA n1 H0 ∧ CE = ce ∧ n0 = n1 ∧ H0.size = n1 ∧ l = l0 ∧ R = rm ∧ kc = kc1 ∧ ks = ks1
def ceJ (kk : Nat) (FA : List a0T) (js : List Nat) : Nat × Nat := ((js.map fun j => 1 + j).sum, (js.map fun j => kk + (ceI FA j).2).sum)
def ceL (kk : Nat) (FA : List a0T) : List (St × Nat) → Nat × Nat := fun W => ceJ kk FA (W.map Prod.snd)
theorem b8L (kk : Nat) (FA : List a0T) (W : List (St × Nat)) : (ceL kk FA W).1 = a5T W := by simp [ceL, ceJ, a5T, Function.comp_def]
theorem a0J {kk : Nat} {FA : List a0T} {W W' : List (St × Nat)} (h : W'.map Prod.snd = W.map Prod.snd) : ceL kk FA W' = ceL kk FA W := congrArg (ceJ kk FA) h
theorem a0N {kk c d : Nat} {FA : List a0T} {W : List (St × Nat)} {js : List Nat} (h : (ceJ kk FA js).1 ≤ c ∧ (ceJ kk FA js).2 ≤ d) (hj : W.map Prod.snd = js) : (ceL kk FA W).1 ≤ c := by subst hj; exact h.1
theorem a0O {kk c d : Nat} {FA : List a0T} {W : List (St × Nat)} {js : List Nat} (h : (ceJ kk FA js).1 ≤ c ∧ (ceJ kk FA js).2 ≤ d) (hj : W.map Prod.snd = js) : (ceL kk FA W).2 ≤ d := by subst hj; exact h.2
theorem b8W {kk c d : Nat} {FA : List a0T} {W : List (St × Nat)} {js : List Nat} (h : (ceJ kk FA js).1 + 1 ≤ c ∧ (ceJ kk FA js).2 + kk ≤ d) (hj : W.map Prod.snd = js) : (ceL kk FA W).1 + 1 ≤ c := by subst hj; exact h.1
theorem b8R {kk c d : Nat} {FA : List a0T} {W : List (St × Nat)} {js : List Nat} (h : (ceJ kk FA js).1 + 1 ≤ c ∧ (ceJ kk FA js).2 + kk ≤ d) (hj : W.map Prod.snd = js) : (ceL kk FA W).2 + kk ≤ d := by subst hj; exact h.2
def b7E (l : Launch) (Z : State) (C : String) (FS : List a3F) (FA : List a0T) (nA n0 sc : Nat) (H0 : Heap) (y : MethodName) (code : ByteArray) (ml : Nat) (ret : Option FieldType) (rm : Room) (vs : List Value) (W : List (St × Nat)) (v : Option Value) (W' : List (St × Nat)) : Prop :=
 ∀ (ws : List Jvm.Cond) (h1 : Heap), INVl Z C FS FA nA n0 H0 W h1 → MetP l Z y code ml ret rm ws n0 h1 (vs.map (up (adL sc n0 nA))).toArray (v.map (up (adL sc n0 nA))) (INVl Z C FS FA nA n0 H0 W')
def ceS : List (St × Nat) → Nat × Nat := fun _ => (0, 0)
theorem b0T {l : Launch} {Z : State} {a0 : Array Value} {C : String} {FS : List a3F} {FA : List a0T} {nA kk n0 sc : Nat} {H0 : Heap} {own n d : String} {code : ByteArray} {ml : Nat} {ret : Option FieldType} {fr lo : Nat} {vs : List Value} {W : List (St × Nat)} {v : Option Value} {W' : List (St × Nat)} {L : List (Option Value)}
  (hp : plainName own = true) (hL : ent vs ml = L) (lw : b6A Z a0 C FS kk) (lg : a07 FS FA nA = true) (hH : H0.size = n0)
  (H : ∀ (X : Cx (List (St × Nat))), b5Z X Z a0 C FS FA nA kk l n0 sc H0 ceS ⟨fr, 0, 0, lo⟩ 0 0 own n code ml ret → Go X (v, W') 0 L [] W) :
  b7E l Z C FS FA nA n0 sc H0 ⟨own, n, d⟩ code ml ret ⟨fr, 0, 0, lo⟩ vs W v W' := by
 intro ws h1 hR
 refine a97 (S := List (St × Nat)) (INV := INVl Z C FS FA nA n0 H0) (CE := ceS) (x := W) (x' := W') hp hL hR rfl ?_
 intro p e s m below meth c hs K
 exact H _ ⟨K, lw, lg, rfl, rfl, rfl, rfl, hH, rfl, rfl, rfl, rfl⟩
section RulesL
variable {X : Cx (List (St × Nat))} {Z : State} {a0 : Array Value} {C : String} {FS : List a3F} {FA : List a0T} {nA kk : Nat} {l0 : Launch} {n1 sc : Nat} {H0 : Heap} {ce : List (St × Nat) → Nat × Nat} {rm rm' : Room} {kc1 ks1 : Nat} {own nm : String} {code code' : ByteArray} {ml ml' : Nat} {ret ret' : Option FieldType} {r : Option Value × List (St × Nat)} {pc : Nat} {L : List (Option Value)} {st st0 : List Value} {W W' : List (St × Nat)}
theorem b2A (K : b5Z X Z a0 C FS FA nA kk l0 n1 sc H0 ce rm kc1 ks1 own nm code ml ret) (h1 : (ce W).1 ≤ kc1) (h2 : (ce W).2 ≤ ks1) : Cap X W := by
 obtain ⟨p, l, e, R, s, m, args, below, meth, c, ad, INV, CE, n0, kc, ks⟩ := X
 obtain ⟨-, -, -, rfl, rfl, rfl, rfl, -, rfl, rfl, rfl, rfl⟩ := K
 exact ⟨h1, h2⟩
theorem a58 (K : b5Z X Z a0 C FS FA nA kk l0 n1 sc H0 ce rm kc1 ks1 own nm code ml ret) : H0.size = n1 := by
 obtain ⟨p, l, e, R, s, m, args, below, meth, c, ad, INV, CE, n0, kc, ks⟩ := X
 obtain ⟨-, -, -, rfl, rfl, rfl, rfl, hH, -⟩ := K
 exact hH
theorem b8e {n0 nA i i' k x : Nat} (hi : i ≠ i') (hk : k ≤ nA) (hx : x ∈ b6W (n0 + i' * (nA + 1)) nA) : n0 + i * (nA + 1) + k ≠ x := by
 have := b7u hx
 intro e
 subst e
 rcases Nat.lt_or_gt_of_ne hi with q | q
 ·have : (i + 1) * (nA + 1) ≤ i' * (nA + 1) := Nat.mul_le_mul_right _ q
  rw [Nat.add_mul] at this; omega
 ·have : (i' + 1) * (nA + 1) ≤ i * (nA + 1) := Nat.mul_le_mul_right _ q
  rw [Nat.add_mul] at this; omega
theorem b56 {i : Nat} {x y : St × Nat} (hi : W[i]? = some x) (hxy : y.2 = x.2) : a5T (W.set i y) = a5T W := by
 induction W generalizing i with
 | nil => simp at hi
 | cons w r ih =>
  cases i with
  | zero => simp at hi; subst hi; simp [a5T, hxy]
  | succ i => simp at hi; have := ih hi; simp [a5T] at this ⊢; omega
theorem INVl.upd (G : a07 FS FA nA = true) {h h' : Heap} (I : INVl Z C FS FA nA n1 H0 W h) {i : Nat} {x y : St × Nat} (hi : W[i]? = some x) (hR : Rep Z C FS FA (n1 + i * (nA + 1)) y.2 h' y.1) (hK : Keep h h' (b6W (n1 + i * (nA + 1)) nA)) (hs : h'.size = n1 + a5T (W.set i y)) (hH : H0.size = n1) : INVl Z C FS FA nA n1 H0 (W.set i y) h' := by
 obtain ⟨g1, g2, g3⟩ := I
 refine ⟨fun k z hz => ?_, hs, ?_⟩
 ·by_cases e : k = i
  ·subst e
   rw [List.getElem?_set_self (List.getElem?_eq_some_iff.mp hi).1] at hz
   cases hz; exact hR
  ·rw [List.getElem?_set_ne (Ne.symm e)] at hz
   exact (g1 k z hz).keep' G hK fun q hq hm => b8e e hq hm rfl
 ·refine ⟨Nat.le_trans g3.1 hK.1, fun x c hx => hK.2.1 x c (g3.2 x c hx) fun hm => ?_⟩
  have := b7u hm
  have := (Array.getElem?_eq_some_iff.mp hx).1
  have : n1 ≤ n1 + i * (nA + 1) := Nat.le_add_right _ _
  omega
theorem b8g (K : b5Z X Z a0 C FS FA nA kk l0 n1 sc H0 (ceL kk FA) rm kc1 ks1 own nm code ml ret) {idx : Nat} (hd : decode code pc = .ok (.new idx, 3)) (w : (Cond.classLink own idx C).before a0 Z = true) (hW : a5T W = W.length * (nA + 1)) (hl : W.length ≠ 100) (hs : hsz X = n1)
  (hc0 : (ceI FA 0).2 = 0) (hr1 : (ceL kk FA W).1 + 1 ≤ rm.cells) (hr2 : (ceL kk FA W).2 + kk ≤ rm.slots) {i : Nat} (hi : W.length = i) (h : Go X r (pc + 3) L (.ref i :: st) (W ++ [(z0, 0)])) : Go X r pc L st W := by
 obtain ⟨p, l, e, R, s, m, args, below, meth, c, ad, INV, CE, n0, kc, ks⟩ := X
 have hs0 : s.heap.size = n1 := hs
 obtain ⟨⟨hx, hby, hcm, hown, hZ, -⟩, hL, G, rfl, rfl, rfl, rfl, hH, rfl, rfl, rfl, rfl⟩ := K
 subst hi
 intro T locs A Y N I LO
 obtain ⟨T', h', Y', e', E', A', D', -, st'⟩ := newO Y hx hZ hown w hL.2.1 hL.2.2 rfl (g := mkF m pc A (st.map (up (adL sc n0 nA)))) rfl (hb hby hd) hr1 hr2
 have hsz : T.heap.size = n0 + W.length * (nA + 1) := by rw [← hW]; exact I.2.1
 rw [hsz] at A' D' st'
 have hR : Rep Z C FS FA (n0 + W.length * (nA + 1)) 0 h' z0 := by
  refine ⟨A', fun f hf => ?_, fun q hq hq0 => absurd (b0I G hq).1 (by omega)⟩
  obtain ⟨t, ht, hdv⟩ := b11 G hf
  have := D' (hL.1 f hf) ht
  rw [hdv] at this
  have e1 : b3D (n0 + W.length * (nA + 1)) 0 z0 f = b3D 0 0 z0 f := by
   unfold b3D
   split
   ·rfl
   ·rfl
   ·rename_i hk0 hk1
    by_cases z : f.1 ≤ 0
    ·exfalso
     have hd2 := b11 G hf
     obtain ⟨t2, ht2, hv2⟩ := hd2
     unfold b3D at hv2
     split at hv2
     ·contradiction
     ·contradiction
     ·rw [if_pos z] at hv2; cases t2 <;> simp [defaultValue] at hv2
    ·rw [if_neg z, if_neg z]
  rw [e1]; exact this
 have hs2 : h'.size = n0 + a5T (W ++ [(z0, 0)]) := by
  have q1 : T'.heap.size ≤ s.heap.size + ((ceL kk FA W).1 + 1) := Y'.heapSize
  have q2 : n0 + W.length * (nA + 1) < h'.size := A'.lt
  have q3 : (ceL kk FA W).1 = W.length * (nA + 1) := (b8L _ _ _).trans hW
  rw [e', hs0, q3] at q1
  have q4 : a5T (W ++ [(z0, 0)]) = a5T W + 1 := by simp [a5T]
  rw [q4, hW]
  generalize W.length * (nA + 1) = P at q1 q2 ⊢
  have q5 : h'.size ≤ n0 + (P + 1) := q1
  omega
 obtain ⟨s₂, h1, h2⟩ := h T' locs A (by
   have q1 : (ceL kk FA (W ++ [(z0, 0)])) = ((ceL kk FA W).1 + 1, (ceL kk FA W).2 + kk) := by simp [ceL, ceJ, hc0]
   rw [q1]; exact Y') N (by
   rw [e']
   refine ⟨fun k z hz => ?_, hs2, ⟨Nat.le_trans I.2.2.1 E'.1, fun x c hx => E'.2 x c (I.2.2.2 x c hx)⟩⟩
   by_cases q : k < W.length
   ·rw [List.getElem?_append_left q] at hz; exact (I.1 k z hz).ext E'
   ·rw [List.getElem?_append_right (Nat.le_of_not_lt q)] at hz
    have : k - W.length = 0 := by
     have := (List.getElem?_eq_some_iff.mp hz).1; simpa using this
    have hk : k = W.length := by omega
    subst hk
    simp at hz; subst hz; exact hR) LO
 refine ⟨s₂, st' _ ?_, h2⟩
 have e2 : up (adL sc n0 nA) (.ref W.length) = .ref (n0 + W.length * (nA + 1)) := by simp [up, adL, hl]
 rw [List.map_cons, e2] at h1
 exact h1
theorem b7L (K : b5Z X Z a0 C FS FA nA kk l0 n1 sc H0 (ceL kk FA) rm kc1 ks1 own nm code ml ret) {idx : Nat} {d : String} {ps : List FieldType} {rt : Option FieldType} (hd : decode code pc = .ok (.invokespecial idx, 3)) (w1 : (Cond.methodLink own idx ⟨C, "<init>", d⟩).before a0 Z = true) (w2 : (Cond.instanceMethod ⟨C, "<init>", d⟩).before a0 Z = true)
  (w4 : (Jvm.Cond.code ⟨C, "<init>", d⟩ code' ml' none).before a0 Z = true) (hy : C ≠ "java/lang/invoke/MethodHandle" ∧ C ≠ "java/lang/invoke/VarHandle") (hpd : parseMethodDescriptor d = some ⟨ps, rt⟩) {vs : List Value} (hvs : ∀ v ∈ vs, v.isRef = false) {i : Nat} (hst : vs.reverse ++ .ref i :: st = st0) (hlen : vs.length = ps.length) {σ' : St} {W0 : List (St × Nat)} (hW : W = W0 ++ [(z0, 0)]) (hi : W0.length = i) (hi' : i ≠ 100) (hsz : a5T W0 = i * (nA + 1)) (hW' : W0 ++ [(σ', nA)] = W')
  (con : b8A l0 Z C FS FA nA n1 (n1 + i * (nA + 1)) ⟨C, "<init>", d⟩ code' ml' rm' (.ref 0 :: vs) σ') (hml : L.length = ml) (hr1 : rm'.frames + 1 ≤ rm.frames) (hr2 : (st.map fun v => v.category).sum + (ml' + 11) + rm'.locals ≤ rm.locals) (hr3 : rm'.cells = nA) (hr4 : rm'.slots = (ceI FA nA).2) (hc0 : (ceI FA 0).2 = 0) (hr5 : (ceL kk FA W').1 ≤ rm.cells) (hr6 : (ceL kk FA W').2 ≤ rm.slots)
  (h : Go X r (pc + 3) L st W') : Go X r pc L st0 W := by
 obtain ⟨p, l, e, R, s, m, args, below, meth, c, ad, INV, CE, n0, kc, ks⟩ := X
 obtain ⟨⟨hx, hby, hcm, hown, hZ, -⟩, hL, G, rfl, rfl, rfl, rfl, hH, rfl, rfl, rfl, rfl⟩ := K
 subst hi hW hst hW'
 intro T locs A Y N I LO
 have hWi : (W0 ++ [(z0, 0)])[W0.length]? = some (z0, 0) := by simp
 have hR := I.1 _ _ hWi
 have hT : T.heap.size = n0 + W0.length * (nA + 1) + 1 := by
  have q1 := I.2.1
  have q4 : a5T (W0 ++ [(z0, 0)]) = a5T W0 + 1 := by simp [a5T]
  omega
 have c1 : ceL kk FA (W0 ++ [(σ', nA)]) = ((ceL kk FA (W0 ++ [(z0, 0)])).1 + nA, (ceL kk FA (W0 ++ [(z0, 0)])).2 + (ceI FA nA).2) := by
  simp [ceL, ceJ, hc0]; omega
 have hup : ∀ v ∈ vs, up (adL sc n0 nA) v = up (fun k => n0 + W0.length * (nA + 1) + k) v := fun v hv => by
  have := hvs v hv
  cases v <;> simp [Value.isRef, up] at this ⊢
 have eup : vs.map (up (adL sc n0 nA)) = vs.map (up (fun k => n0 + W0.length * (nA + 1) + k)) := List.map_congr_left hup
 have e0 : up (adL sc n0 nA) (.ref W0.length) = .ref (n0 + W0.length * (nA + 1)) := by simp [up, adL, hi']
 obtain ⟨w, vm₁, ⟨T', L', k', n'⟩, -, Y', ⟨Lc, ⟨q1, q2, q3, q4, q5⟩, l', y', z'⟩, st'⟩ := Y.specialBack hx (y := ⟨C, "<init>", d⟩) rfl hown (mvT hZ w1) (mvT hZ w2) (mvT hZ w4) hy
  (MetP.back (W := (st.map fun v => v.category).sum) (con [] T.heap hT hR) hZ w4 hL.2.2 hr1 hr2) (g := mkF m pc A ((vs.reverse ++ .ref W0.length :: st).map (up (adL sc n0 nA)))) rfl (by rw [hcm, ← hml]; exact LO.1) (Steps.refl _) (a := n0 + W0.length * (nA + 1))
  (argsL := vs.map (up (adL sc n0 nA))) (rest := st.map (up (adL sc n0 nA))) (lenOf hpd (by rw [List.length_map]; exact hlen)) (by simp [e0]) (by rw [b0R]; show 2 * 0 + _ ≤ _; omega) (hb hby hd) (fun _ _ => ⟨by rw [eup]; simp [up], rfl, by show _ + rm'.cells ≤ _; rw [hr3]; rw [c1] at hr5; exact hr5, by show _ + rm'.slots ≤ _; rw [hr4]; rw [c1] at hr6; exact hr6⟩)
 dsimp only [Pt.U, Pt.locs, Pt.cells, Pt.slots] at Y' l' y' z' st' q1 q3 q4 q5
 subst l' y' z' q1
 have eW : (W0 ++ [(z0, 0)]).set W0.length (σ', nA) = W0 ++ [(σ', nA)] := by simp
 obtain ⟨s₂, h1, h2⟩ := h T' _ A (by rw [c1]; simpa [hr3, hr4] using Y') (N.app q2) (by
   have := I.upd G hWi (y := (σ', nA)) q3 q4 (by rw [q5, hT, eW]; simp [a5T] at hsz ⊢; omega) hH
   rw [eW] at this; exact this) LO
 exact ⟨s₂, st'.trans h1, h2⟩
theorem a0W (K : b5Z X Z a0 C FS FA nA kk l0 n1 sc H0 ce rm kc1 ks1 own nm code ml ret) {idx : Nat} {n d : String} {ps : List FieldType} {rt : Option FieldType} (hd : decode code pc = .ok (.invokevirtual idx, 3)) (w1 : (Cond.methodLink own idx ⟨C, n, d⟩).before a0 Z = true) (w2 : (Cond.instanceMethod ⟨C, n, d⟩).before a0 Z = true)
  (w3 : (Cond.declares ⟨C, n, d⟩).before a0 Z = true) (w3' : (Cond.selects C ⟨C, n, d⟩ ⟨C, n, d⟩).before a0 Z = true) (w4 : (Jvm.Cond.code ⟨C, n, d⟩ code' ml' ret').before a0 Z = true) (hy : C ≠ "java/lang/invoke/MethodHandle" ∧ C ≠ "java/lang/invoke/VarHandle") (hpd : parseMethodDescriptor d = some ⟨ps, rt⟩) {vs : List Value} (hvs : ∀ v ∈ vs, v.isRef = false) {i : Nat} (hi' : i ≠ 100) (hst : vs.reverse ++ .ref i :: st = st0) (hlen : vs.length = ps.length)
  {v : Option Value} (hv : ∀ u, v = some u → u.isRef = false) {σ σ' : St} (hi : W[i]? = some (σ, nA)) (hW' : W.set i (σ', nA) = W') (con : Con l0 Z C FS FA nA n1 (n1 + i * (nA + 1)) ⟨C, n, d⟩ code' ml' ret' rm' (.ref 0 :: vs) σ v σ') (hml : L.length = ml) (hr1 : rm'.frames + 1 ≤ rm.frames) (hr2 : (st.map fun v => v.category).sum + (ml' + 11) + rm'.locals ≤ rm.locals) (hr3 : rm'.cells = 0) (hr4 : rm'.slots = 0)
  (hce : ce W' = ce W) (hr5 : (ce W).1 ≤ rm.cells) (hr6 : (ce W).2 ≤ rm.slots) (h : Go X r (pc + 3) L (v.toList ++ st) W') : Go X r pc L st0 W := by
 obtain ⟨p, l, e, R, s, m, args, below, meth, c, ad, INV, CE, n0, kc, ks⟩ := X
 obtain ⟨⟨hx, hby, hcm, hown, hZ, -⟩, hL, G, rfl, rfl, rfl, rfl, hH, rfl, rfl, rfl, rfl⟩ := K
 subst hst hW'
 intro T locs A Y N I LO
 have hR := I.1 _ _ hi
 obtain ⟨cq, kq, qa, qb, qc⟩ := isOf hZ rfl hR.1
 have hup : ∀ v ∈ vs, up (adL sc n0 nA) v = up (fun k => n0 + i * (nA + 1) + k) v := fun v hv => by
  have := hvs v hv
  cases v <;> simp [Value.isRef, up] at this ⊢
 have eup : vs.map (up (adL sc n0 nA)) = vs.map (up (fun k => n0 + i * (nA + 1) + k)) := List.map_congr_left hup
 have e0 : up (adL sc n0 nA) (.ref i) = .ref (n0 + i * (nA + 1)) := by simp [up, adL, hi']
 obtain ⟨w, vm₁, ⟨T', L', k', n'⟩, -, Y', ⟨Lc, ⟨q1, q2, q3, q4, q5⟩, l', y', z'⟩, st'⟩ := Y.virtualBack hx (y := ⟨C, n, d⟩) (z := ⟨C, n, d⟩) hown (mvT hZ w1) (mvT hZ w3) (notFace_of_selects (args := #[]) (mvT hZ w3')) (mvT hZ w3') (mvT hZ w2) hy
  (MetP.back (W := (st.map fun v => v.category).sum) (con [] T.heap hR) hZ w4 hL.2.2 hr1 hr2) qa qc (g := mkF m pc A ((vs.reverse ++ .ref i :: st).map (up (adL sc n0 nA)))) rfl (by rw [hcm, ← hml]; exact LO.1) (Steps.refl _)
  (argsL := vs.map (up (adL sc n0 nA))) (rest := st.map (up (adL sc n0 nA))) (lenOf hpd (by rw [List.length_map]; exact hlen)) (by simp [e0]) (by rw [b0R]; show 2 * 0 + _ ≤ _; omega) (hb hby hd) (fun _ _ => ⟨by rw [eup]; simp [up], rfl, by show _ + rm'.cells ≤ _; rw [hr3]; exact hr5, by show _ + rm'.slots ≤ _; rw [hr4]; exact hr6⟩)
 dsimp only [Pt.U, Pt.locs, Pt.cells, Pt.slots] at Y' l' y' z' st' q1 q3 q4 q5
 subst l' y' z' q1
 obtain ⟨s₂, h1, h2⟩ := h T' _ A (by rw [hce]; simpa [hr3, hr4] using Y') (N.app q2) (I.upd G hi (y := (σ', nA)) q3 q4 (by rw [q5, b56 (y := (σ', nA)) hi rfl]; exact I.2.1) hH) LO
 refine ⟨s₂, st'.trans ?_, h2⟩
 have e1 : (v.toList ++ st).map (up (adL sc n0 nA)) = (v.map (up fun k => n0 + i * (nA + 1) + k)).toList ++ st.map (up (adL sc n0 nA)) := by
  cases v with
  | none => simp
  | some u => have := hv u rfl; cases u <;> simp [Value.isRef, up] at this ⊢
 rw [e1] at h1
 exact h1
theorem a2U (K : b5Z X Z a0 C FS FA nA kk l0 n1 sc H0 ce rm kc1 ks1 own nm code ml ret) {idx : Nat} {n d : String} {ps : List FieldType} {rt : Option FieldType} (hd : decode code pc = .ok (.invokestatic idx, 3)) (w1 : (Cond.methodLink own idx ⟨own, n, d⟩).before a0 Z = true) (w2 : (Cond.static ⟨own, n, d⟩).before a0 Z = true)
  (wz : (Cond.initialized own).before a0 Z = true) (w4 : (Jvm.Cond.code ⟨own, n, d⟩ code' ml' ret').before a0 Z = true) (hy : own ≠ "java/lang/invoke/MethodHandle" ∧ own ≠ "java/lang/invoke/VarHandle") (hpd : parseMethodDescriptor d = some ⟨ps, rt⟩) {vs : List Value} (hst : vs.reverse ++ st = st0) (hlen : vs.length = ps.length)
  {v : Option Value} (con : b7E l0 Z C FS FA nA n1 sc H0 ⟨own, n, d⟩ code' ml' ret' rm' vs W v W') (hml : L.length = ml) (hr1 : rm'.frames + 1 ≤ rm.frames) (hr2 : (st.map fun v => v.category).sum + (ml' + 11) + rm'.locals ≤ rm.locals) (hr3 : rm'.cells = 0) (hr4 : rm'.slots = 0)
  (hce : ce W' = ce W) (hr5 : (ce W).1 ≤ rm.cells) (hr6 : (ce W).2 ≤ rm.slots) (h : Go X r (pc + 3) L (v.toList ++ st) W') : Go X r pc L st0 W := by
 obtain ⟨p, l, e, R, s, m, args, below, meth, c, ad, INV, CE, n0, kc, ks⟩ := X
 obtain ⟨⟨hx, hby, hcm, hown, hZ, -⟩, hL, G, rfl, rfl, rfl, rfl, hH, rfl, rfl, rfl, rfl⟩ := K
 subst hst
 intro T locs A Y N I LO
 obtain ⟨w, vm₁, ⟨T', L', k', n'⟩, -, Y', ⟨Lc, ⟨q1, q2, q3⟩, l', y', z'⟩, st'⟩ := Jvm.LawKit.callS Y hx (y := ⟨own, n, d⟩) hown (mvT hZ w1) (mvT hZ w2) (mvT hZ wz) (mvT hZ w4) hy
  (MetP.back (W := (st.map fun v => v.category).sum) (con [] T.heap I) hZ w4 wz hr1 hr2) (g := mkF m pc A ((vs.reverse ++ st).map (up (adL sc n0 nA)))) rfl (by rw [hcm, ← hml]; exact LO.1)
  (argsL := vs.map (up (adL sc n0 nA))) (rest := st.map (up (adL sc n0 nA))) (lenOf hpd (by rw [List.length_map]; exact hlen)) (by simp) (by rw [b0R]; show 2 * 0 + _ ≤ _; omega) (hb hby hd) (fun _ _ => ⟨rfl, rfl, by show _ + rm'.cells ≤ _; rw [hr3]; exact hr5, by show _ + rm'.slots ≤ _; rw [hr4]; exact hr6⟩)
 dsimp only [Pt.U, Pt.locs, Pt.cells, Pt.slots] at Y' l' y' z' st' q1 q3
 subst l' y' z' q1
 obtain ⟨s₂, h1, h2⟩ := h T' _ A (by rw [hce]; simpa [hr3, hr4] using Y') (N.app q2) q3 LO
 refine ⟨s₂, st' _ ?_, h2⟩
 have e1 : (v.toList ++ st).map (up (adL sc n0 nA)) = (v.map (up (adL sc n0 nA))).toList ++ st.map (up (adL sc n0 nA)) := by cases v <;> simp
 rw [e1] at h1
 exact h1
end RulesL
end Jvm.OwnFlat
namespace Jvm.OwnFlat
open Jvm Jvm.ClassFile Jvm.RoadKit
theorem b8a {x y : Int32} : x < y ↔ x.toInt < y.toInt := Int32.lt_iff_toInt_lt
theorem b7V {x y : Int32} : x = y ↔ x.toInt = y.toInt := Int32.toInt_inj.symm
theorem b7R {x y : Int32} (h1 : -2147483648 ≤ x.toInt + y.toInt) (h2 : x.toInt + y.toInt < 2147483648) : (x + y).toInt = x.toInt + y.toInt := by
 have q := c_iadd x y; have r := rng32 (x + y); omega
theorem b8J {x : Int32} (h : x.toInt < 2147483647) : (x + 1).toInt = x.toInt + 1 := by
 have e : (1 : Int32).toInt = 1 := rfl
 have r := rng32 x
 rw [b7R (by omega) (by omega), e]
theorem b6X {A R : Type} {l : Nat → Int32 → A → Option R} {w : (Int32 → A → Option R) → Int32 → A → Option R} (hl : ∀ n i x, l (n + 1) i x = w (l n) i x) (N : Int) (hN : N < 2147483648) (P : Int → A → Prop) (Q : Option R → Prop)
  (step : ∀ (k : Int32 → A → Option R) i x, 0 ≤ i.toInt → i.toInt < N → P i.toInt x → (∀ x', P (i.toInt + 1) x' → Q (k (i + 1) x')) → Q (w k i x))
  (done : ∀ (k : Int32 → A → Option R) i x, i.toInt = N → P N x → Q (w k i x)) :
  ∀ (n : Nat) (i : Int32) (x : A), 0 ≤ i.toInt → i.toInt ≤ N → P i.toInt x → N - i.toInt < n → Q (l n i x) := by
 intro n
 induction n with
 | zero => intro i x h0 h1 hp hn; omega
 | succ n ih =>
  intro i x h0 h1 hp hn
  rw [hl]
  by_cases h : i.toInt < N
  ·refine step _ i x h0 h hp fun x' hx' => ?_
   have e := b8J (x := i) (by omega)
   refine ih (i + 1) x' (by omega) (by omega) (by rw [e]; exact hx') (by omega)
  ·have : i.toInt = N := by omega
   exact done _ i x this (this ▸ hp)
def b5y (body : Int → St → St) : Nat → St → St
 | 0, σ => σ
 | n + 1, σ => body n (b5y body n σ)
theorem b6m {R : Type} {l : Nat → Int32 → St → Option R} {w : (Int32 → St → Option R) → Int32 → St → Option R} (hl : ∀ n i x, l (n + 1) i x = w (l n) i x) (N : Nat) (hN : (N : Int) < 2147483648) (body : Int → St → St) (fin : St → Option R)
  (hw : ∀ (k : Int32 → St → Option R) (i : Int32) (σ : St), 0 ≤ i.toInt → i.toInt < N → w k i σ = k (i + 1) (body i.toInt σ)) (hd : ∀ (k : Int32 → St → Option R) (i : Int32) (σ : St), i.toInt = N → w k i σ = fin σ) (NF : Nat) (hF : N < NF) (σ : St) : l NF 0 σ = fin (b5y body N σ) := by
 refine b6X hl N hN (fun i x => x = b5y body i.toNat σ) (fun o => o = fin (b5y body N σ)) ?_ ?_ NF 0 σ (by decide) (by have e : (0 : Int32).toInt = 0 := rfl; omega) rfl (by have e : (0 : Int32).toInt = 0 := rfl; omega)
 ·intro k i x h0 h1 hp ih
  rw [hw k i x h0 h1]
  refine ih _ ?_
  subst hp
  have e : (i.toInt + 1).toNat = i.toInt.toNat + 1 := by omega
  rw [e]
  show _ = body _ _
  rw [Int.toNat_of_nonneg h0]
 ·intro k i x hi hp
  rw [hd k i x hi, hp]; rfl
def b3J (σ : St) (k : Nat) (N : Int) (g : Int → Int32) : St := (σ.1, σ.2.1, fun q j => if q = k ∧ 0 ≤ j ∧ j < N then g j else σ.2.2 q j)
theorem b5F (σ : St) (k : Nat) (g : Int → Int32) (N : Nat) : b5y (fun i σ => sA σ k i (g i)) N σ = b3J σ k N g := by
 induction N with
 | zero =>
  show σ = _
  obtain ⟨a, b, c⟩ := σ
  simp only [b3J]
  congr 2
  funext q j
  rw [if_neg]; intro h; have := h.2.1; have := h.2.2; omega
 | succ n ih =>
  show sA (b5y _ n σ) k n (g n) = _
  rw [ih]
  simp only [b3J, sA]
  congr 2
  funext q j
  by_cases h1 : q = k
  ·subst h1
   by_cases h2 : j = n
   ·subst h2; simp; omega
   ·simp only [h2, and_false, if_false, true_and]
    by_cases h3 : 0 ≤ j ∧ j < (n : Int)
    ·rw [if_pos h3, if_pos (by omega)]
    ·rw [if_neg h3, if_neg (by omega)]
  ·simp [h1]
theorem b4k {R : Type} {l : Nat → Int32 → St → Option R} {w : (Int32 → St → Option R) → Int32 → St → Option R} (hl : ∀ n i x, l (n + 1) i x = w (l n) i x) (N : Nat) (hN : (N : Int) < 2147483648) (k : Nat) (g : Int → Int32) (fin : St → Option R)
  (hw : ∀ (kk : Int32 → St → Option R) (i : Int32) (σ : St), 0 ≤ i.toInt → i.toInt < N → w kk i σ = kk (i + 1) (sA σ k i.toInt (g i.toInt))) (hd : ∀ (kk : Int32 → St → Option R) (i : Int32) (σ : St), i.toInt = N → w kk i σ = fin σ) (NF : Nat) (hF : N < NF) (σ : St) : l NF 0 σ = fin (b3J σ k N g) := by
 rw [b6m hl N hN (fun i σ => sA σ k i (g i)) fin hw hd NF hF σ, b5F]
end Jvm.OwnFlat
namespace Jvm.Pilot.@@N@@
open Jvm Jvm.ClassFile Sem Op Lib Jvm.Free Jvm.Stand Jvm.LawKit Jvm.RoadKit Jvm.OwnFlat Jvm.Pilot.@@N@@.Jvm.D
set_option maxRecDepth 65536
set_option maxHeartbeats 40000000
def HW (a0 : Array Value) (Z : State) : Prop := ∀ d ∈ tables_1, d.before a0 Z = true
abbrev HB (d : Jvm.Cond) : Prop := ∀ {a0 : Array Value} {Z : State}, HW a0 Z → d.before a0 Z = true
theorem hx (i : Nat) {d : Jvm.Cond} (h : tables_1[i]? = some d) : HB d := fun hw => hw _ (List.mem_of_getElem? h)
abbrev DD (c : ByteArray) (p : Nat) (i : Instr) (n : Nat) : Prop := decode c p = .ok (i, n)
abbrev DG1 (c : ByteArray) (p0 : Nat) (i0 : Instr) (n0 : Nat) : Prop := DD c p0 i0 n0
abbrev DG2 (c : ByteArray) (p0 : Nat) (i0 : Instr) (n0 p1 : Nat) (i1 : Instr) (n1 : Nat) : Prop := (DD c p0 i0 n0 ∧ DD c p1 i1 n1)
abbrev DG3 (c : ByteArray) (p0 : Nat) (i0 : Instr) (n0 p1 : Nat) (i1 : Instr) (n1 p2 : Nat) (i2 : Instr) (n2 : Nat) : Prop := ((DD c p0 i0 n0 ∧ DD c p1 i1 n1) ∧ DD c p2 i2 n2)
abbrev DG4 (c : ByteArray) (p0 : Nat) (i0 : Instr) (n0 p1 : Nat) (i1 : Instr) (n1 p2 : Nat) (i2 : Instr) (n2 p3 : Nat) (i3 : Instr) (n3 : Nat) : Prop := ((DD c p0 i0 n0 ∧ DD c p1 i1 n1) ∧ (DD c p2 i2 n2 ∧ DD c p3 i3 n3))
abbrev DG5 (c : ByteArray) (p0 : Nat) (i0 : Instr) (n0 p1 : Nat) (i1 : Instr) (n1 p2 : Nat) (i2 : Instr) (n2 p3 : Nat) (i3 : Instr) (n3 p4 : Nat) (i4 : Instr) (n4 : Nat) : Prop := (((DD c p0 i0 n0 ∧ DD c p1 i1 n1) ∧ DD c p2 i2 n2) ∧ (DD c p3 i3 n3 ∧ DD c p4 i4 n4))
abbrev DG6 (c : ByteArray) (p0 : Nat) (i0 : Instr) (n0 p1 : Nat) (i1 : Instr) (n1 p2 : Nat) (i2 : Instr) (n2 p3 : Nat) (i3 : Instr) (n3 p4 : Nat) (i4 : Instr) (n4 p5 : Nat) (i5 : Instr) (n5 : Nat) : Prop := (((DD c p0 i0 n0 ∧ DD c p1 i1 n1) ∧ DD c p2 i2 n2) ∧ ((DD c p3 i3 n3 ∧ DD c p4 i4 n4) ∧ DD c p5 i5 n5))
abbrev DG7 (c : ByteArray) (p0 : Nat) (i0 : Instr) (n0 p1 : Nat) (i1 : Instr) (n1 p2 : Nat) (i2 : Instr) (n2 p3 : Nat) (i3 : Instr) (n3 p4 : Nat) (i4 : Instr) (n4 p5 : Nat) (i5 : Instr) (n5 p6 : Nat) (i6 : Instr) (n6 : Nat) : Prop := (((DD c p0 i0 n0 ∧ DD c p1 i1 n1) ∧ (DD c p2 i2 n2 ∧ DD c p3 i3 n3)) ∧ ((DD c p4 i4 n4 ∧ DD c p5 i5 n5) ∧ DD c p6 i6 n6))
abbrev DG8 (c : ByteArray) (p0 : Nat) (i0 : Instr) (n0 p1 : Nat) (i1 : Instr) (n1 p2 : Nat) (i2 : Instr) (n2 p3 : Nat) (i3 : Instr) (n3 p4 : Nat) (i4 : Instr) (n4 p5 : Nat) (i5 : Instr) (n5 p6 : Nat) (i6 : Instr) (n6 p7 : Nat) (i7 : Instr) (n7 : Nat) : Prop := (((DD c p0 i0 n0 ∧ DD c p1 i1 n1) ∧ (DD c p2 i2 n2 ∧ DD c p3 i3 n3)) ∧ ((DD c p4 i4 n4 ∧ DD c p5 i5 n5) ∧ (DD c p6 i6 n6 ∧ DD c p7 i7 n7)))
theorem bsq {A B : Type} {x : Option A} {f : A → Option B} {b : B} (h : x.bind f = some b) : ∃ a, x = some a ∧ f a = some b := Option.bind_eq_some_iff.mp h
theorem nbq {n m : Nat} (h : Nat.ble n m = true) : n ≤ m := Nat.le_of_ble_eq_true h
abbrev b75 : Type := Int32 → Int32 → Int32 → Int32 → Int32 → Int32 → Int32 → Int32 → St → Option (Int32 × St)
abbrev b5A : Type := Int32 → Int32 → Int32 → Int32 → St → Option (Int32 × St)
abbrev b73 : Type := Int32 → Int32 → Int32 → St → Option (Int32 × St)
abbrev b4v : Type := Int32 → Int32 → St → Option (Int32 × St)
abbrev b6D : Type := Int32 → Int32 → St → Option (St)
abbrev b6H : Type := Int32 → St → Option (St)
abbrev vvI (x : Int32) : Option Value := some (.int x)
section Walk
variable {X : Cx (St × Nat)} {Z : State} {a0 : Array Value} {l : Launch} {n1 : Nat} {a : Addr} {h0 : Heap} {sc : Addr} {H0 : Heap}
abbrev cq0 : String := "(I)I"
abbrev cq1 : String := "(I)V"
abbrev cq2 : String := "(I)Z"
abbrev cq3 : String := "(II)I"
abbrev cq4 : String := "(III)I"
abbrev cq5 : String := "BoxedArrayLang"
abbrev cq6 : String := "BoxedArrayLangL3"
theorem w0 : HB (.methodLink cq6 7 ⟨cq6, "dig", cq0⟩) := hx 0 rfl
theorem w1 : HB (.static ⟨cq6, "dig", cq0⟩) := hx 1 rfl
theorem w2 : HB (.initialized cq6) := hx 2 rfl
theorem w3 : HB (.code ⟨cq6, "dig", cq0⟩ method_2_code 1 (some .int)) := hx 3 rfl
theorem w4 : HB (.classLink cq6 13 cq5) := hx 4 rfl
theorem w5 : HB (.instantiable cq5 39) := hx 5 rfl
theorem w6 : HB (.initialized cq5) := hx 6 rfl
theorem w7 : HB (.methodLink cq6 15 ⟨cq5, "<init>", "(II)V"⟩) := hx 7 rfl
theorem w8 : HB (.instanceMethod ⟨cq5, "<init>", "(II)V"⟩) := hx 8 rfl
theorem w9 : HB (.code ⟨cq5, "<init>", "(II)V"⟩ prog_1_method_1_code 4 none) := hx 9 rfl
theorem w10 : HB (.methodLink cq5 1 ⟨"java/lang/Object", "<init>", "()V"⟩) := hx 10 rfl
theorem w11 : HB (.instanceMethod ⟨"java/lang/Object", "<init>", "()V"⟩) := hx 11 rfl
theorem w12 : HB (.code ⟨"java/lang/Object", "<init>", "()V"⟩ object_method_1_code 1 none) := hx 12 rfl
theorem w13 : HB (.arrayClass Jvm.ClassFile.FieldType.int) := hx 13 rfl
theorem w14 : HB (.fieldLink cq5 7 cq5 "line" "[I") := hx 14 rfl
theorem w15 : HB (.lays cq5 cq5 "line" "[I") := hx 15 rfl
theorem w16 : HB (.fieldLink cq5 13 cq5 "hTally" "[I") := hx 16 rfl
theorem w17 : HB (.lays cq5 cq5 "hTally" "[I") := hx 17 rfl
theorem w18 : HB (.fieldLink cq5 16 cq5 "hRef" "[I") := hx 18 rfl
theorem w19 : HB (.lays cq5 cq5 "hRef" "[I") := hx 19 rfl
theorem w20 : HB (.fieldLink cq5 19 cq5 "hSize" "[I") := hx 20 rfl
theorem w21 : HB (.lays cq5 cq5 "hSize" "[I") := hx 21 rfl
theorem w22 : HB (.fieldLink cq5 22 cq5 "hDepth" "[I") := hx 22 rfl
theorem w23 : HB (.lays cq5 cq5 "hDepth" "[I") := hx 23 rfl
theorem w24 : HB (.fieldLink cq5 25 cq5 "cells" "[I") := hx 24 rfl
theorem w25 : HB (.lays cq5 cq5 "cells" "[I") := hx 25 rfl
theorem w26 : HB (.fieldLink cq5 28 cq5 "freeList" "[I") := hx 26 rfl
theorem w27 : HB (.lays cq5 cq5 "freeList" "[I") := hx 27 rfl
theorem w28 : HB (.fieldLink cq5 31 cq5 "relStack" "[I") := hx 28 rfl
theorem w29 : HB (.lays cq5 cq5 "relStack" "[I") := hx 29 rfl
theorem w30 : HB (.fieldLink cq5 34 cq5 "sel" "[I") := hx 30 rfl
theorem w31 : HB (.lays cq5 cq5 "sel" "[I") := hx 31 rfl
theorem w32 : HB (.fieldLink cq5 37 cq5 "tokKind" "[I") := hx 32 rfl
theorem w33 : HB (.lays cq5 cq5 "tokKind" "[I") := hx 33 rfl
theorem w34 : HB (.fieldLink cq5 40 cq5 "tokVal" "[I") := hx 34 rfl
theorem w35 : HB (.lays cq5 cq5 "tokVal" "[I") := hx 35 rfl
theorem w36 : HB (.fieldLink cq5 43 cq5 "nKind" "[I") := hx 36 rfl
theorem w37 : HB (.lays cq5 cq5 "nKind" "[I") := hx 37 rfl
theorem w38 : HB (.fieldLink cq5 46 cq5 "nGlyph" "[I") := hx 38 rfl
theorem w39 : HB (.lays cq5 cq5 "nGlyph" "[I") := hx 39 rfl
theorem w40 : HB (.fieldLink cq5 49 cq5 "nA" "[I") := hx 40 rfl
theorem w41 : HB (.lays cq5 cq5 "nA" "[I") := hx 41 rfl
theorem w42 : HB (.fieldLink cq5 52 cq5 "nB" "[I") := hx 42 rfl
theorem w43 : HB (.lays cq5 cq5 "nB" "[I") := hx 43 rfl
theorem w44 : HB (.fieldLink cq5 55 cq5 "pStack" "[I") := hx 44 rfl
theorem w45 : HB (.lays cq5 cq5 "pStack" "[I") := hx 45 rfl
theorem w46 : HB (.fieldLink cq5 58 cq5 "eNode" "[I") := hx 46 rfl
theorem w47 : HB (.lays cq5 cq5 "eNode" "[I") := hx 47 rfl
theorem w48 : HB (.fieldLink cq5 61 cq5 "ePhase" "[I") := hx 48 rfl
theorem w49 : HB (.lays cq5 cq5 "ePhase" "[I") := hx 49 rfl
theorem w50 : HB (.fieldLink cq5 64 cq5 "vStack" "[I") := hx 50 rfl
theorem w51 : HB (.lays cq5 cq5 "vStack" "[I") := hx 51 rfl
theorem w52 : HB (.fieldLink cq5 67 cq5 "mA" "[I") := hx 52 rfl
theorem w53 : HB (.lays cq5 cq5 "mA" "[I") := hx 53 rfl
theorem w54 : HB (.fieldLink cq5 70 cq5 "mB" "[I") := hx 54 rfl
theorem w55 : HB (.lays cq5 cq5 "mB" "[I") := hx 55 rfl
theorem w56 : HB (.arrayClass Jvm.ClassFile.FieldType.char) := hx 56 rfl
theorem w57 : HB (.fieldLink cq5 73 cq5 "text" "[C") := hx 57 rfl
theorem w58 : HB (.lays cq5 cq5 "text" "[C") := hx 58 rfl
theorem w59 : HB (.fieldLink cq5 77 cq5 "rA" "[I") := hx 59 rfl
theorem w60 : HB (.lays cq5 cq5 "rA" "[I") := hx 60 rfl
theorem w61 : HB (.fieldLink cq5 80 cq5 "rJ" "[I") := hx 61 rfl
theorem w62 : HB (.lays cq5 cq5 "rJ" "[I") := hx 62 rfl
theorem w63 : HB (.methodLink cq5 83 ⟨cq5, "clamp", cq4⟩) := hx 63 rfl
theorem w64 : HB (.instanceMethod ⟨cq5, "clamp", cq4⟩) := hx 64 rfl
theorem w65 : HB (.privateMethod ⟨cq5, "clamp", cq4⟩) := hx 65 rfl
theorem w66 : HB (.code ⟨cq5, "clamp", cq4⟩ prog_1_method_2_code 4 (some .int)) := hx 66 rfl
theorem w67 : HB (.fieldLink cq5 87 cq5 "itemLim" "I") := hx 67 rfl
theorem w68 : HB (.lays cq5 cq5 "itemLim" "I") := hx 68 rfl
theorem w69 : HB (.fieldLink cq5 91 cq5 "sizeLim" "I") := hx 69 rfl
theorem w70 : HB (.lays cq5 cq5 "sizeLim" "I") := hx 70 rfl
theorem w71 : HB (.fieldLink cq5 94 cq5 "freeTop" "I") := hx 71 rfl
theorem w72 : HB (.lays cq5 cq5 "freeTop" "I") := hx 72 rfl
theorem w73 : HB (.fieldLink cq5 97 cq5 "lineLen" "I") := hx 73 rfl
theorem w74 : HB (.lays cq5 cq5 "lineLen" "I") := hx 74 rfl
theorem w75 : HB (.fieldLink cq5 100 cq5 "textSel" "I") := hx 75 rfl
theorem w76 : HB (.lays cq5 cq5 "textSel" "I") := hx 76 rfl
theorem w77 : HB (.fieldLink cq5 103 cq5 "textLen" "I") := hx 77 rfl
theorem w78 : HB (.lays cq5 cq5 "textLen" "I") := hx 78 rfl
theorem w79 : HB (.methodLink cq6 18 ⟨cq5, "put", cq2⟩) := hx 79 rfl
theorem w80 : HB (.declares ⟨cq5, "put", cq2⟩) := hx 80 rfl
theorem w81 : HB (.instanceMethod ⟨cq5, "put", cq2⟩) := hx 81 rfl
theorem w82 : HB (.selects cq5 ⟨cq5, "put", cq2⟩ ⟨cq5, "put", cq2⟩) := hx 82 rfl
theorem w83 : HB (.code ⟨cq5, "put", cq2⟩ prog_1_method_5_code 2 (some .boolean)) := hx 83 rfl
theorem w84 : HB (.methodLink cq5 106 ⟨cq5, "allowedChar", cq2⟩) := hx 84 rfl
theorem w85 : HB (.instanceMethod ⟨cq5, "allowedChar", cq2⟩) := hx 85 rfl
theorem w86 : HB (.privateMethod ⟨cq5, "allowedChar", cq2⟩) := hx 86 rfl
theorem w87 : HB (.code ⟨cq5, "allowedChar", cq2⟩ prog_1_method_17_code 2 (some .boolean)) := hx 87 rfl
theorem w88 : HB (.methodLink cq5 152 ⟨cq5, "isDigit", cq2⟩) := hx 88 rfl
theorem w89 : HB (.instanceMethod ⟨cq5, "isDigit", cq2⟩) := hx 89 rfl
theorem w90 : HB (.privateMethod ⟨cq5, "isDigit", cq2⟩) := hx 90 rfl
theorem w91 : HB (.code ⟨cq5, "isDigit", cq2⟩ prog_1_method_18_code 2 (some .boolean)) := hx 91 rfl
theorem w92 : HB (.methodLink cq5 155 ⟨cq5, "isVarChar", cq2⟩) := hx 92 rfl
theorem w93 : HB (.instanceMethod ⟨cq5, "isVarChar", cq2⟩) := hx 93 rfl
theorem w94 : HB (.privateMethod ⟨cq5, "isVarChar", cq2⟩) := hx 94 rfl
theorem w95 : HB (.code ⟨cq5, "isVarChar", cq2⟩ prog_1_method_19_code 2 (some .boolean)) := hx 95 rfl
theorem w96 : HB (.methodLink cq5 158 ⟨cq5, "isGlyph", cq2⟩) := hx 96 rfl
theorem w97 : HB (.instanceMethod ⟨cq5, "isGlyph", cq2⟩) := hx 97 rfl
theorem w98 : HB (.privateMethod ⟨cq5, "isGlyph", cq2⟩) := hx 98 rfl
theorem w99 : HB (.code ⟨cq5, "isGlyph", cq2⟩ prog_1_method_22_code 2 (some .boolean)) := hx 99 rfl
theorem b85 : HB (.methodLink cq5 161 ⟨cq5, "isMonadicGlyph", cq2⟩) := hx 100 rfl
theorem b9r : HB (.instanceMethod ⟨cq5, "isMonadicGlyph", cq2⟩) := hx 101 rfl
theorem b9E : HB (.privateMethod ⟨cq5, "isMonadicGlyph", cq2⟩) := hx 102 rfl
theorem b88 : HB (.code ⟨cq5, "isMonadicGlyph", cq2⟩ prog_1_method_20_code 2 (some .boolean)) := hx 103 rfl
theorem b8B : HB (.methodLink cq5 164 ⟨cq5, "isDyadicGlyph", cq2⟩) := hx 104 rfl
theorem b8k : HB (.instanceMethod ⟨cq5, "isDyadicGlyph", cq2⟩) := hx 105 rfl
theorem b8F : HB (.privateMethod ⟨cq5, "isDyadicGlyph", cq2⟩) := hx 106 rfl
theorem b8v : HB (.code ⟨cq5, "isDyadicGlyph", cq2⟩ prog_1_method_21_code 2 (some .boolean)) := hx 107 rfl
theorem b9K : HB (.methodLink cq6 22 ⟨cq5, "run", "()I"⟩) := hx 108 rfl
theorem b9z : HB (.declares ⟨cq5, "run", "()I"⟩) := hx 109 rfl
theorem b9H : HB (.instanceMethod ⟨cq5, "run", "()I"⟩) := hx 110 rfl
theorem b9b : HB (.selects cq5 ⟨cq5, "run", "()I"⟩ ⟨cq5, "run", "()I"⟩) := hx 111 rfl
theorem b9g : HB (.code ⟨cq5, "run", "()I"⟩ prog_1_method_8_code 2 (some .int)) := hx 112 rfl
theorem b9W : HB (.methodLink cq5 110 ⟨cq5, "runLine", "()I"⟩) := hx 113 rfl
theorem b9U : HB (.instanceMethod ⟨cq5, "runLine", "()I"⟩) := hx 114 rfl
theorem c1Q : HB (.privateMethod ⟨cq5, "runLine", "()I"⟩) := hx 115 rfl
theorem c0Z : HB (.code ⟨cq5, "runLine", "()I"⟩ prog_1_method_23_code 2 (some .int)) := hx 116 rfl
theorem c0M : HB (.methodLink cq5 167 ⟨cq5, "tokenize", "()Z"⟩) := hx 117 rfl
theorem b9P : HB (.instanceMethod ⟨cq5, "tokenize", "()Z"⟩) := hx 118 rfl
theorem c0N : HB (.privateMethod ⟨cq5, "tokenize", "()Z"⟩) := hx 119 rfl
theorem c0V : HB (.code ⟨cq5, "tokenize", "()Z"⟩ prog_1_method_25_code 4 (some .boolean)) := hx 120 rfl
theorem b3w : HB (.fieldLink cq5 189 cq5 "tokCount" "I") := hx 121 rfl
theorem b77 : HB (.lays cq5 cq5 "tokCount" "I") := hx 122 rfl
theorem b9R : HB (.methodLink cq5 195 ⟨cq5, "addToken", cq1⟩) := hx 123 rfl
theorem b93 : HB (.instanceMethod ⟨cq5, "addToken", cq1⟩) := hx 124 rfl
theorem c0H : HB (.privateMethod ⟨cq5, "addToken", cq1⟩) := hx 125 rfl
theorem c1N : HB (.code ⟨cq5, "addToken", cq1⟩ prog_1_method_27_code 2 none) := hx 126 rfl
theorem b9V : HB (.methodLink cq5 192 ⟨cq5, "scanNumber", cq0⟩) := hx 127 rfl
theorem b9Y : HB (.instanceMethod ⟨cq5, "scanNumber", cq0⟩) := hx 128 rfl
theorem c1d : HB (.privateMethod ⟨cq5, "scanNumber", cq0⟩) := hx 129 rfl
theorem c1S : HB (.code ⟨cq5, "scanNumber", cq0⟩ prog_1_method_26_code 6 (some .int)) := hx 130 rfl
theorem c0f : HB (.methodLink cq5 171 ⟨cq5, "parse", "()Z"⟩) := hx 131 rfl
theorem c1U : HB (.instanceMethod ⟨cq5, "parse", "()Z"⟩) := hx 132 rfl
theorem c0q : HB (.privateMethod ⟨cq5, "parse", "()Z"⟩) := hx 133 rfl
theorem c1B : HB (.code ⟨cq5, "parse", "()Z"⟩ prog_1_method_29_code 4 (some .boolean)) := hx 134 rfl
theorem b6y : HB (.fieldLink cq5 198 cq5 "nodeCount" "I") := hx 135 rfl
theorem b8S : HB (.lays cq5 cq5 "nodeCount" "I") := hx 136 rfl
theorem b43 : HB (.fieldLink cq5 201 cq5 "pTop" "I") := hx 137 rfl
theorem b7A : HB (.lays cq5 cq5 "pTop" "I") := hx 138 rfl
theorem b67 : HB (.fieldLink cq5 180 cq5 "target" "I") := hx 139 rfl
theorem b8H : HB (.lays cq5 cq5 "target" "I") := hx 140 rfl
theorem b76 : HB (.fieldLink cq5 204 cq5 "root" "I") := hx 141 rfl
theorem b8C : HB (.lays cq5 cq5 "root" "I") := hx 142 rfl
theorem b6U : HB (.fieldLink cq5 207 cq5 "cur" "I") := hx 143 rfl
theorem b7Y : HB (.lays cq5 cq5 "cur" "I") := hx 144 rfl
theorem b79 : HB (.fieldLink cq5 210 cq5 "expecting" "Z") := hx 145 rfl
theorem b72 : HB (.lays cq5 cq5 "expecting" "Z") := hx 146 rfl
theorem c06 : HB (.methodLink cq5 214 ⟨cq5, "parseStart", cq0⟩) := hx 147 rfl
theorem c1f : HB (.instanceMethod ⟨cq5, "parseStart", cq0⟩) := hx 148 rfl
theorem c0G : HB (.privateMethod ⟨cq5, "parseStart", cq0⟩) := hx 149 rfl
theorem b96 : HB (.code ⟨cq5, "parseStart", cq0⟩ prog_1_method_30_code 4 (some .int)) := hx 150 rfl
theorem b8N : HB (.methodLink cq5 220 ⟨cq5, "kindAt", cq0⟩) := hx 151 rfl
theorem b8o : HB (.instanceMethod ⟨cq5, "kindAt", cq0⟩) := hx 152 rfl
theorem b8c : HB (.privateMethod ⟨cq5, "kindAt", cq0⟩) := hx 153 rfl
theorem b8s : HB (.code ⟨cq5, "kindAt", cq0⟩ prog_1_method_28_code 2 (some .int)) := hx 154 rfl
theorem b8i : HB (.methodLink cq5 223 ⟨cq5, "pushPending", cq2⟩) := hx 155 rfl
theorem b8n : HB (.instanceMethod ⟨cq5, "pushPending", cq2⟩) := hx 156 rfl
theorem b8z : HB (.privateMethod ⟨cq5, "pushPending", cq2⟩) := hx 157 rfl
theorem b8E : HB (.code ⟨cq5, "pushPending", cq2⟩ prog_1_method_36_code 2 (some .boolean)) := hx 158 rfl
theorem c1I : HB (.methodLink cq5 236 ⟨cq5, "parseFunction", cq3⟩) := hx 159 rfl
theorem c0R : HB (.instanceMethod ⟨cq5, "parseFunction", cq3⟩) := hx 160 rfl
theorem c1G : HB (.privateMethod ⟨cq5, "parseFunction", cq3⟩) := hx 161 rfl
theorem c1j : HB (.code ⟨cq5, "parseFunction", cq3⟩ prog_1_method_32_code 7 (some .int)) := hx 162 rfl
theorem b74 : HB (.methodLink cq5 229 ⟨cq5, "newNode", "(IIII)I"⟩) := hx 163 rfl
theorem b78 : HB (.instanceMethod ⟨cq5, "newNode", "(IIII)I"⟩) := hx 164 rfl
theorem b7Z : HB (.privateMethod ⟨cq5, "newNode", "(IIII)I"⟩) := hx 165 rfl
theorem b71 : HB (.code ⟨cq5, "newNode", "(IIII)I"⟩ prog_1_method_37_code 6 (some .int)) := hx 166 rfl
theorem c0g : HB (.methodLink cq5 226 ⟨cq5, "parseLiteral", cq0⟩) := hx 167 rfl
theorem c1z : HB (.instanceMethod ⟨cq5, "parseLiteral", cq0⟩) := hx 168 rfl
theorem c1i : HB (.privateMethod ⟨cq5, "parseLiteral", cq0⟩) := hx 169 rfl
theorem c1D : HB (.code ⟨cq5, "parseLiteral", cq0⟩ prog_1_method_33_code 4 (some .int)) := hx 170 rfl
theorem b9o : HB (.methodLink cq5 233 ⟨cq5, "takeOperand", cq3⟩) := hx 171 rfl
theorem b9q : HB (.instanceMethod ⟨cq5, "takeOperand", cq3⟩) := hx 172 rfl
theorem b9i : HB (.privateMethod ⟨cq5, "takeOperand", cq3⟩) := hx 173 rfl
theorem b8Z : HB (.code ⟨cq5, "takeOperand", cq3⟩ prog_1_method_31_code 3 (some .int)) := hx 174 rfl
theorem c0p : HB (.methodLink cq5 217 ⟨cq5, "parseAfter", cq0⟩) := hx 175 rfl
theorem c1b : HB (.instanceMethod ⟨cq5, "parseAfter", cq0⟩) := hx 176 rfl
theorem c0K : HB (.privateMethod ⟨cq5, "parseAfter", cq0⟩) := hx 177 rfl
theorem c1E : HB (.code ⟨cq5, "parseAfter", cq0⟩ prog_1_method_34_code 4 (some .int)) := hx 178 rfl
theorem c0X : HB (.methodLink cq5 239 ⟨cq5, "collapse", "()V"⟩) := hx 179 rfl
theorem b91 : HB (.instanceMethod ⟨cq5, "collapse", "()V"⟩) := hx 180 rfl
theorem c1l : HB (.privateMethod ⟨cq5, "collapse", "()V"⟩) := hx 181 rfl
theorem b9Q : HB (.code ⟨cq5, "collapse", "()V"⟩ prog_1_method_35_code 3 none) := hx 182 rfl
theorem b9X : HB (.methodLink cq5 174 ⟨cq5, "evaluate", "()I"⟩) := hx 183 rfl
theorem c0U : HB (.instanceMethod ⟨cq5, "evaluate", "()I"⟩) := hx 184 rfl
theorem c0m : HB (.privateMethod ⟨cq5, "evaluate", "()I"⟩) := hx 185 rfl
theorem c0c : HB (.code ⟨cq5, "evaluate", "()I"⟩ prog_1_method_38_code 7 (some .int)) := hx 186 rfl
theorem b3G : HB (.fieldLink cq5 242 cq5 "vTop" "I") := hx 187 rfl
theorem b69 : HB (.lays cq5 cq5 "vTop" "I") := hx 188 rfl
theorem b92 : HB (.methodLink cq5 248 ⟨cq5, "pushChildren", cq3⟩) := hx 189 rfl
theorem c0l : HB (.instanceMethod ⟨cq5, "pushChildren", cq3⟩) := hx 190 rfl
theorem c00 : HB (.privateMethod ⟨cq5, "pushChildren", cq3⟩) := hx 191 rfl
theorem c1v : HB (.code ⟨cq5, "pushChildren", cq3⟩ prog_1_method_39_code 3 (some .int)) := hx 192 rfl
theorem c1y : HB (.methodLink cq5 251 ⟨cq5, "leaf", cq0⟩) := hx 193 rfl
theorem c0a : HB (.instanceMethod ⟨cq5, "leaf", cq0⟩) := hx 194 rfl
theorem c08 : HB (.privateMethod ⟨cq5, "leaf", cq0⟩) := hx 195 rfl
theorem c0J : HB (.code ⟨cq5, "leaf", cq0⟩ prog_1_method_42_code 3 (some .int)) := hx 196 rfl
theorem c0O : HB (.methodLink cq5 260 ⟨cq5, "literal", cq3⟩) := hx 197 rfl
theorem b98 : HB (.instanceMethod ⟨cq5, "literal", cq3⟩) := hx 198 rfl
theorem b9S : HB (.privateMethod ⟨cq5, "literal", cq3⟩) := hx 199 rfl
theorem c1t : HB (.code ⟨cq5, "literal", cq3⟩ prog_1_method_43_code 6 (some .int)) := hx 200 rfl
theorem b63 : HB (.methodLink cq5 263 ⟨cq5, "alloc", "()I"⟩) := hx 201 rfl
theorem b68 : HB (.instanceMethod ⟨cq5, "alloc", "()I"⟩) := hx 202 rfl
theorem b66 : HB (.privateMethod ⟨cq5, "alloc", "()I"⟩) := hx 203 rfl
theorem b62 : HB (.code ⟨cq5, "alloc", "()I"⟩ prog_1_method_73_code 2 (some .int)) := hx 204 rfl
theorem b29 : HB (.methodLink cq5 114 ⟨cq5, "valid", cq2⟩) := hx 205 rfl
theorem b27 : HB (.instanceMethod ⟨cq5, "valid", cq2⟩) := hx 206 rfl
theorem b2O : HB (.privateMethod ⟨cq5, "valid", cq2⟩) := hx 207 rfl
theorem b2Q : HB (.code ⟨cq5, "valid", cq2⟩ prog_1_method_66_code 2 (some .boolean)) := hx 208 rfl
theorem b7c : HB (.methodLink cq5 266 ⟨cq5, "appendCell", "(II)V"⟩) := hx 209 rfl
theorem b60 : HB (.instanceMethod ⟨cq5, "appendCell", "(II)V"⟩) := hx 210 rfl
theorem b7a : HB (.privateMethod ⟨cq5, "appendCell", "(II)V"⟩) := hx 211 rfl
theorem b7g : HB (.code ⟨cq5, "appendCell", "(II)V"⟩ prog_1_method_77_code 5 none) := hx 212 rfl
theorem c0P : HB (.methodLink cq5 125 ⟨cq5, "itemSize", cq0⟩) := hx 213 rfl
theorem c0I : HB (.instanceMethod ⟨cq5, "itemSize", cq0⟩) := hx 214 rfl
theorem c1n : HB (.privateMethod ⟨cq5, "itemSize", cq0⟩) := hx 215 rfl
theorem c1C : HB (.code ⟨cq5, "itemSize", cq0⟩ prog_1_method_71_code 3 (some .int)) := hx 216 rfl
theorem b6P : HB (.methodLink cq5 309 ⟨cq5, "isBox", cq2⟩) := hx 217 rfl
theorem b6L : HB (.instanceMethod ⟨cq5, "isBox", cq2⟩) := hx 218 rfl
theorem b6O : HB (.privateMethod ⟨cq5, "isBox", cq2⟩) := hx 219 rfl
theorem b6J : HB (.code ⟨cq5, "isBox", cq2⟩ prog_1_method_67_code 2 (some .boolean)) := hx 220 rfl
theorem b8b : HB (.constant cq5 342 (100000)) := hx 221 rfl
theorem c1q : HB (.methodLink cq5 339 ⟨cq5, "heldDepth", cq0⟩) := hx 222 rfl
theorem c0A : HB (.instanceMethod ⟨cq5, "heldDepth", cq0⟩) := hx 223 rfl
theorem c1g : HB (.privateMethod ⟨cq5, "heldDepth", cq0⟩) := hx 224 rfl
theorem c1x : HB (.code ⟨cq5, "heldDepth", cq0⟩ prog_1_method_72_code 3 (some .int)) := hx 225 rfl
theorem b90 : HB (.methodLink cq5 257 ⟨cq5, "vPush", cq2⟩) := hx 226 rfl
theorem c1p : HB (.instanceMethod ⟨cq5, "vPush", cq2⟩) := hx 227 rfl
theorem b9N : HB (.privateMethod ⟨cq5, "vPush", cq2⟩) := hx 228 rfl
theorem c0S : HB (.code ⟨cq5, "vPush", cq2⟩ prog_1_method_41_code 2 (some .boolean)) := hx 229 rfl
theorem b99 : HB (.methodLink cq5 254 ⟨cq5, "applyNode", cq0⟩) := hx 230 rfl
theorem c1L : HB (.instanceMethod ⟨cq5, "applyNode", cq0⟩) := hx 231 rfl
theorem c1c : HB (.privateMethod ⟨cq5, "applyNode", cq0⟩) := hx 232 rfl
theorem c0s : HB (.code ⟨cq5, "applyNode", cq0⟩ prog_1_method_44_code 7 (some .int)) := hx 233 rfl
theorem c0Q : HB (.methodLink cq5 279 ⟨cq5, "monadic", cq3⟩) := hx 234 rfl
theorem c09 : HB (.instanceMethod ⟨cq5, "monadic", cq3⟩) := hx 235 rfl
theorem c1O : HB (.privateMethod ⟨cq5, "monadic", cq3⟩) := hx 236 rfl
theorem c0v : HB (.code ⟨cq5, "monadic", cq3⟩ prog_1_method_45_code 4 (some .int)) := hx 237 rfl
theorem b9L : HB (.methodLink cq5 282 ⟨cq5, "negate", cq0⟩) := hx 238 rfl
theorem b9Z : HB (.instanceMethod ⟨cq5, "negate", cq0⟩) := hx 239 rfl
theorem c04 : HB (.privateMethod ⟨cq5, "negate", cq0⟩) := hx 240 rfl
theorem c1s : HB (.code ⟨cq5, "negate", cq0⟩ prog_1_method_46_code 6 (some .int)) := hx 241 rfl
theorem b8f : HB (.methodLink cq5 297 ⟨cq5, "checkLimits", cq0⟩) := hx 242 rfl
theorem b8y : HB (.instanceMethod ⟨cq5, "checkLimits", cq0⟩) := hx 243 rfl
theorem b8r : HB (.privateMethod ⟨cq5, "checkLimits", cq0⟩) := hx 244 rfl
theorem b8u : HB (.code ⟨cq5, "checkLimits", cq0⟩ prog_1_method_62_code 2 (some .int)) := hx 245 rfl
theorem b59 : HB (.methodLink cq5 186 ⟨cq5, "release", cq1⟩) := hx 246 rfl
theorem b58 : HB (.instanceMethod ⟨cq5, "release", cq1⟩) := hx 247 rfl
theorem b5V : HB (.privateMethod ⟨cq5, "release", cq1⟩) := hx 248 rfl
theorem b5Y : HB (.code ⟨cq5, "release", cq1⟩ prog_1_method_79_code 5 none) := hx 249 rfl
theorem c0n : HB (.methodLink cq5 343 ⟨cq5, "freeArray", cq3⟩) := hx 250 rfl
theorem c1K : HB (.instanceMethod ⟨cq5, "freeArray", cq3⟩) := hx 251 rfl
theorem c01 : HB (.privateMethod ⟨cq5, "freeArray", cq3⟩) := hx 252 rfl
theorem c0T : HB (.code ⟨cq5, "freeArray", cq3⟩ prog_1_method_80_code 8 (some .int)) := hx 253 rfl
theorem b7l : HB (.methodLink cq5 333 ⟨cq5, "heldOf", cq0⟩) := hx 254 rfl
theorem b7h : HB (.instanceMethod ⟨cq5, "heldOf", cq0⟩) := hx 255 rfl
theorem b7k : HB (.privateMethod ⟨cq5, "heldOf", cq0⟩) := hx 256 rfl
theorem b64 : HB (.code ⟨cq5, "heldOf", cq0⟩ prog_1_method_69_code 2 (some .int)) := hx 257 rfl
theorem b94 : HB (.methodLink cq5 285 ⟨cq5, "enclose", cq0⟩) := hx 258 rfl
theorem c02 : HB (.instanceMethod ⟨cq5, "enclose", cq0⟩) := hx 259 rfl
theorem b9O : HB (.privateMethod ⟨cq5, "enclose", cq0⟩) := hx 260 rfl
theorem b9T : HB (.code ⟨cq5, "enclose", cq0⟩ prog_1_method_47_code 4 (some .int)) := hx 261 rfl
theorem b7H : HB (.methodLink cq5 183 ⟨cq5, "retain", cq1⟩) := hx 262 rfl
theorem b7p : HB (.instanceMethod ⟨cq5, "retain", cq1⟩) := hx 263 rfl
theorem b7D : HB (.privateMethod ⟨cq5, "retain", cq1⟩) := hx 264 rfl
theorem b7q : HB (.code ⟨cq5, "retain", cq1⟩ prog_1_method_74_code 2 none) := hx 265 rfl
theorem c1e : HB (.methodLink cq5 121 ⟨cq5, "boxOf", cq0⟩) := hx 266 rfl
theorem c1k : HB (.instanceMethod ⟨cq5, "boxOf", cq0⟩) := hx 267 rfl
theorem c1m : HB (.privateMethod ⟨cq5, "boxOf", cq0⟩) := hx 268 rfl
theorem c1V : HB (.code ⟨cq5, "boxOf", cq0⟩ prog_1_method_68_code 2 (some .int)) := hx 269 rfl
theorem b9m : HB (.methodLink cq5 270 ⟨cq5, "dyadic", cq4⟩) := hx 270 rfl
theorem b9C : HB (.instanceMethod ⟨cq5, "dyadic", cq4⟩) := hx 271 rfl
theorem b80 : HB (.privateMethod ⟨cq5, "dyadic", cq4⟩) := hx 272 rfl
theorem b9c : HB (.code ⟨cq5, "dyadic", cq4⟩ prog_1_method_51_code 6 (some .int)) := hx 273 rfl
theorem c1F : HB (.methodLink cq5 315 ⟨cq5, "catenate", cq3⟩) := hx 274 rfl
theorem c0E : HB (.instanceMethod ⟨cq5, "catenate", cq3⟩) := hx 275 rfl
theorem c1A : HB (.privateMethod ⟨cq5, "catenate", cq3⟩) := hx 276 rfl
theorem c0W : HB (.code ⟨cq5, "catenate", cq3⟩ prog_1_method_54_code 7 (some .int)) := hx 277 rfl
theorem b9d : HB (.methodLink cq5 327 ⟨cq5, "appendCopy", "(II)V"⟩) := hx 278 rfl
theorem b9n : HB (.instanceMethod ⟨cq5, "appendCopy", "(II)V"⟩) := hx 279 rfl
theorem b9A : HB (.privateMethod ⟨cq5, "appendCopy", "(II)V"⟩) := hx 280 rfl
theorem b9v : HB (.code ⟨cq5, "appendCopy", "(II)V"⟩ prog_1_method_78_code 3 none) := hx 281 rfl
theorem c0z : HB (.methodLink cq5 128 ⟨cq5, "retainCell", cq1⟩) := hx 282 rfl
theorem c1R : HB (.instanceMethod ⟨cq5, "retainCell", cq1⟩) := hx 283 rfl
theorem c0r : HB (.privateMethod ⟨cq5, "retainCell", cq1⟩) := hx 284 rfl
theorem c0t : HB (.code ⟨cq5, "retainCell", cq1⟩ prog_1_method_75_code 3 none) := hx 285 rfl
theorem c1u : HB (.methodLink cq5 177 ⟨cq5, "commit", cq1⟩) := hx 286 rfl
theorem b95 : HB (.instanceMethod ⟨cq5, "commit", cq1⟩) := hx 287 rfl
theorem c0F : HB (.privateMethod ⟨cq5, "commit", cq1⟩) := hx 288 rfl
theorem c1o : HB (.code ⟨cq5, "commit", cq1⟩ prog_1_method_24_code 3 none) := hx 289 rfl
theorem b9p : HB (.methodLink cq6 26 ⟨cq5, "tally", cq0⟩) := hx 290 rfl
theorem b9x : HB (.declares ⟨cq5, "tally", cq0⟩) := hx 291 rfl
theorem b9F : HB (.instanceMethod ⟨cq5, "tally", cq0⟩) := hx 292 rfl
theorem b9t : HB (.selects cq5 ⟨cq5, "tally", cq0⟩ ⟨cq5, "tally", cq0⟩) := hx 293 rfl
theorem b9k : HB (.code ⟨cq5, "tally", cq0⟩ prog_1_method_11_code 2 (some .int)) := hx 294 rfl
theorem b7d : HB (.methodLink cq5 142 ⟨cq5, "defined", cq2⟩) := hx 295 rfl
theorem b61 : HB (.declares ⟨cq5, "defined", cq2⟩) := hx 296 rfl
theorem b7b : HB (.instanceMethod ⟨cq5, "defined", cq2⟩) := hx 297 rfl
theorem b7i : HB (.selects cq5 ⟨cq5, "defined", cq2⟩ ⟨cq5, "defined", cq2⟩) := hx 298 rfl
theorem b65 : HB (.code ⟨cq5, "defined", cq2⟩ prog_1_method_10_code 2 (some .boolean)) := hx 299 rfl
theorem b8Q : HB (.methodLink cq6 29 ⟨cq5, "size", cq0⟩) := hx 300 rfl
theorem b8d : HB (.declares ⟨cq5, "size", cq0⟩) := hx 301 rfl
theorem b8X : HB (.instanceMethod ⟨cq5, "size", cq0⟩) := hx 302 rfl
theorem b8h : HB (.selects cq5 ⟨cq5, "size", cq0⟩ ⟨cq5, "size", cq0⟩) := hx 303 rfl
theorem b8p : HB (.code ⟨cq5, "size", cq0⟩ prog_1_method_12_code 2 (some .int)) := hx 304 rfl
theorem b9w : HB (.methodLink cq6 32 ⟨cq5, "depth", cq0⟩) := hx 305 rfl
theorem b87 : HB (.declares ⟨cq5, "depth", cq0⟩) := hx 306 rfl
theorem b9s : HB (.instanceMethod ⟨cq5, "depth", cq0⟩) := hx 307 rfl
theorem b9f : HB (.selects cq5 ⟨cq5, "depth", cq0⟩ ⟨cq5, "depth", cq0⟩) := hx 308 rfl
theorem b82 : HB (.code ⟨cq5, "depth", cq0⟩ prog_1_method_13_code 2 (some .int)) := hx 309 rfl
theorem b9a : HB (.methodLink cq6 35 ⟨cq5, "textLength", cq0⟩) := hx 310 rfl
theorem b9I : HB (.declares ⟨cq5, "textLength", cq0⟩) := hx 311 rfl
theorem b9D : HB (.instanceMethod ⟨cq5, "textLength", cq0⟩) := hx 312 rfl
theorem b9J : HB (.selects cq5 ⟨cq5, "textLength", cq0⟩ ⟨cq5, "textLength", cq0⟩) := hx 313 rfl
theorem b9j : HB (.code ⟨cq5, "textLength", cq0⟩ prog_1_method_14_code 2 (some .int)) := hx 314 rfl
theorem b86 : HB (.methodLink cq5 145 ⟨cq5, "prepareText", cq2⟩) := hx 315 rfl
theorem b9h : HB (.instanceMethod ⟨cq5, "prepareText", cq2⟩) := hx 316 rfl
theorem b9G : HB (.privateMethod ⟨cq5, "prepareText", cq2⟩) := hx 317 rfl
theorem b84 : HB (.code ⟨cq5, "prepareText", cq2⟩ prog_1_method_83_code 2 (some .boolean)) := hx 318 rfl
theorem c0D : HB (.methodLink cq5 349 ⟨cq5, "render", cq1⟩) := hx 319 rfl
theorem c1H : HB (.instanceMethod ⟨cq5, "render", cq1⟩) := hx 320 rfl
theorem c1w : HB (.privateMethod ⟨cq5, "render", cq1⟩) := hx 321 rfl
theorem c0w : HB (.code ⟨cq5, "render", cq1⟩ prog_1_method_84_code 6 none) := hx 322 rfl
theorem c0d : HB (.methodLink cq5 355 ⟨cq5, "renderCell", cq3⟩) := hx 323 rfl
theorem b9M : HB (.instanceMethod ⟨cq5, "renderCell", cq3⟩) := hx 324 rfl
theorem c0b : HB (.privateMethod ⟨cq5, "renderCell", cq3⟩) := hx 325 rfl
theorem c1M : HB (.code ⟨cq5, "renderCell", cq3⟩ prog_1_method_85_code 4 (some .int)) := hx 326 rfl
theorem b6t : HB (.methodLink cq5 352 ⟨cq5, "emit", cq1⟩) := hx 327 rfl
theorem b6r : HB (.instanceMethod ⟨cq5, "emit", cq1⟩) := hx 328 rfl
theorem b6h : HB (.privateMethod ⟨cq5, "emit", cq1⟩) := hx 329 rfl
theorem b6w : HB (.code ⟨cq5, "emit", cq1⟩ prog_1_method_87_code 2 none) := hx 330 rfl
theorem c03 : HB (.methodLink cq5 358 ⟨cq5, "emitInt", cq1⟩) := hx 331 rfl
theorem c0i : HB (.instanceMethod ⟨cq5, "emitInt", cq1⟩) := hx 332 rfl
theorem c0B : HB (.privateMethod ⟨cq5, "emitInt", cq1⟩) := hx 333 rfl
theorem c0o : HB (.code ⟨cq5, "emitInt", cq1⟩ prog_1_method_86_code 3 none) := hx 334 rfl
theorem b7I : HB (.methodLink cq6 38 ⟨cq5, "textChar", "(II)C"⟩) := hx 335 rfl
theorem b7o : HB (.declares ⟨cq5, "textChar", "(II)C"⟩) := hx 336 rfl
theorem b7M : HB (.instanceMethod ⟨cq5, "textChar", "(II)C"⟩) := hx 337 rfl
theorem b7B : HB (.selects cq5 ⟨cq5, "textChar", "(II)C"⟩ ⟨cq5, "textChar", "(II)C"⟩) := hx 338 rfl
theorem b7W : HB (.code ⟨cq5, "textChar", "(II)C"⟩ prog_1_method_15_code 3 (some .char)) := hx 339 rfl
theorem b8M : HB (.methodLink cq6 42 ⟨cq6, "first", cq0⟩) := hx 340 rfl
theorem b8l : HB (.static ⟨cq6, "first", cq0⟩) := hx 341 rfl
theorem b8T : HB (.code ⟨cq6, "first", cq0⟩ method_4_code 1 (some .int)) := hx 342 rfl
theorem c05 : HB (.methodLink cq5 276 ⟨cq5, "reduce", cq3⟩) := hx 343 rfl
theorem c1T : HB (.instanceMethod ⟨cq5, "reduce", cq3⟩) := hx 344 rfl
theorem c0k : HB (.privateMethod ⟨cq5, "reduce", cq3⟩) := hx 345 rfl
theorem c0h : HB (.code ⟨cq5, "reduce", cq3⟩ prog_1_method_59_code 8 (some .int)) := hx 346 rfl
theorem b9u : HB (.methodLink cq5 300 ⟨cq5, "valueOfItem", cq3⟩) := hx 347 rfl
theorem b81 : HB (.instanceMethod ⟨cq5, "valueOfItem", cq3⟩) := hx 348 rfl
theorem b89 : HB (.privateMethod ⟨cq5, "valueOfItem", cq3⟩) := hx 349 rfl
theorem b9y : HB (.code ⟨cq5, "valueOfItem", cq3⟩ prog_1_method_61_code 5 (some .int)) := hx 350 rfl
theorem b8q : HB (.methodLink cq5 117 ⟨cq5, "cellAt", cq3⟩) := hx 351 rfl
theorem b8j : HB (.instanceMethod ⟨cq5, "cellAt", cq3⟩) := hx 352 rfl
theorem b8x : HB (.privateMethod ⟨cq5, "cellAt", cq3⟩) := hx 353 rfl
theorem b8m : HB (.code ⟨cq5, "cellAt", cq3⟩ prog_1_method_70_code 3 (some .int)) := hx 354 rfl
theorem b7j : HB (.methodLink cq5 291 ⟨cq5, "scalar", cq0⟩) := hx 355 rfl
theorem b7f : HB (.instanceMethod ⟨cq5, "scalar", cq0⟩) := hx 356 rfl
theorem b7m : HB (.privateMethod ⟨cq5, "scalar", cq0⟩) := hx 357 rfl
theorem b7e : HB (.code ⟨cq5, "scalar", cq0⟩ prog_1_method_60_code 3 (some .int)) := hx 358 rfl
theorem c0Y : HB (.methodLink cq5 312 ⟨cq5, "arith", cq4⟩) := hx 359 rfl
theorem c1P : HB (.instanceMethod ⟨cq5, "arith", cq4⟩) := hx 360 rfl
theorem c0j : HB (.privateMethod ⟨cq5, "arith", cq4⟩) := hx 361 rfl
theorem c0C : HB (.code ⟨cq5, "arith", cq4⟩ prog_1_method_52_code 12 (some .int)) := hx 362 rfl
theorem b97 : HB (.methodLink cq5 324 ⟨cq5, "combine", cq4⟩) := hx 363 rfl
theorem c07 : HB (.instanceMethod ⟨cq5, "combine", cq4⟩) := hx 364 rfl
theorem c0L : HB (.privateMethod ⟨cq5, "combine", cq4⟩) := hx 365 rfl
theorem c0x : HB (.code ⟨cq5, "combine", cq4⟩ prog_1_method_53_code 4 (some .int)) := hx 366 rfl
theorem b8w : HB (.methodLink cq6 45 ⟨cq6, "len", cq0⟩) := hx 367 rfl
theorem b8O : HB (.static ⟨cq6, "len", cq0⟩) := hx 368 rfl
theorem b8I : HB (.code ⟨cq6, "len", cq0⟩ method_3_code 1 (some .int)) := hx 369 rfl
theorem c1h : HB (.methodLink cq6 48 ⟨cq5, "match", "(II)Z"⟩) := hx 370 rfl
theorem c0u : HB (.declares ⟨cq5, "match", "(II)Z"⟩) := hx 371 rfl
theorem c0y : HB (.instanceMethod ⟨cq5, "match", "(II)Z"⟩) := hx 372 rfl
theorem c1r : HB (.selects cq5 ⟨cq5, "match", "(II)Z"⟩ ⟨cq5, "match", "(II)Z"⟩) := hx 373 rfl
theorem c0e : HB (.code ⟨cq5, "match", "(II)Z"⟩ prog_1_method_16_code 3 (some .boolean)) := hx 374 rfl
theorem b9B : HB (.methodLink cq5 148 ⟨cq5, "matchHandles", "(II)Z"⟩) := hx 375 rfl
theorem b9l : HB (.instanceMethod ⟨cq5, "matchHandles", "(II)Z"⟩) := hx 376 rfl
theorem b9e : HB (.privateMethod ⟨cq5, "matchHandles", "(II)Z"⟩) := hx 377 rfl
theorem b83 : HB (.code ⟨cq5, "matchHandles", "(II)Z"⟩ prog_1_method_81_code 7 (some .boolean)) := hx 378 rfl
abbrev cC : String := "BoxedArrayLang"
def cFS : List a3F := [(1, "line", "[I", 2), (2, "hTally", "[I", 2), (3, "hRef", "[I", 2), (4, "hSize", "[I", 2), (5, "hDepth", "[I", 2), (6, "cells", "[I", 2), (7, "freeList", "[I", 2), (8, "relStack", "[I", 2), (9, "sel", "[I", 2), (10, "tokKind", "[I", 2), (11, "tokVal", "[I", 2), (12, "nKind", "[I", 2), (13, "nGlyph", "[I", 2), (14, "nA", "[I", 2), (15, "nB", "[I", 2), (16, "pStack", "[I", 2), (17, "eNode", "[I", 2), (18, "ePhase", "[I", 2), (19, "vStack", "[I", 2), (20, "mA", "[I", 2), (21, "mB", "[I", 2), (22, "text", "[C", 2), (23, "rA", "[I", 2), (24, "rJ", "[I", 2), (114, "itemLim", "I", 0), (115, "sizeLim", "I", 0), (117, "lineLen", "I", 0), (124, "freeTop", "I", 0), (129, "tokCount", "I", 0), (134, "nodeCount", "I", 0), (136, "pTop", "I", 0), (137, "expecting", "Z", 0), (138, "cur", "I", 0), (139, "root", "I", 0), (140, "target", "I", 0), (144, "vTop", "I", 0), (149, "textLen", "I", 0), (150, "textSel", "I", 0)]
def cFA : List a0T := [(1, .int, 32), (2, .int, 1024), (3, .int, 1024), (4, .int, 1024), (5, .int, 1024), (6, .int, 8192), (7, .int, 1024), (8, .int, 256), (9, .int, 5), (10, .int, 33), (11, .int, 33), (12, .int, 33), (13, .int, 33), (14, .int, 33), (15, .int, 33), (16, .int, 33), (17, .int, 80), (18, .int, 80), (19, .int, 40), (20, .int, 64), (21, .int, 64), (22, .char, 256), (23, .int, 64), (24, .int, 64)]
theorem b3N : (1, "line", "[I", 2) ∈ cFS := List.mem_of_getElem? (i := 0) rfl
theorem a0L : (2, "hTally", "[I", 2) ∈ cFS := List.mem_of_getElem? (i := 1) rfl
theorem b0Q : (3, "hRef", "[I", 2) ∈ cFS := List.mem_of_getElem? (i := 2) rfl
theorem a1N : (4, "hSize", "[I", 2) ∈ cFS := List.mem_of_getElem? (i := 3) rfl
theorem a1r : (5, "hDepth", "[I", 2) ∈ cFS := List.mem_of_getElem? (i := 4) rfl
theorem a4a : (6, "cells", "[I", 2) ∈ cFS := List.mem_of_getElem? (i := 5) rfl
theorem a5K : (7, "freeList", "[I", 2) ∈ cFS := List.mem_of_getElem? (i := 6) rfl
theorem a5Y : (8, "relStack", "[I", 2) ∈ cFS := List.mem_of_getElem? (i := 7) rfl
theorem a2R : (9, "sel", "[I", 2) ∈ cFS := List.mem_of_getElem? (i := 8) rfl
theorem a1V : (10, "tokKind", "[I", 2) ∈ cFS := List.mem_of_getElem? (i := 9) rfl
theorem a3B : (11, "tokVal", "[I", 2) ∈ cFS := List.mem_of_getElem? (i := 10) rfl
theorem a56 : (12, "nKind", "[I", 2) ∈ cFS := List.mem_of_getElem? (i := 11) rfl
theorem b2D : (13, "nGlyph", "[I", 2) ∈ cFS := List.mem_of_getElem? (i := 12) rfl
theorem b4x : (14, "nA", "[I", 2) ∈ cFS := List.mem_of_getElem? (i := 13) rfl
theorem b50 : (15, "nB", "[I", 2) ∈ cFS := List.mem_of_getElem? (i := 14) rfl
theorem b2J : (16, "pStack", "[I", 2) ∈ cFS := List.mem_of_getElem? (i := 15) rfl
theorem a8w : (17, "eNode", "[I", 2) ∈ cFS := List.mem_of_getElem? (i := 16) rfl
theorem a3t : (18, "ePhase", "[I", 2) ∈ cFS := List.mem_of_getElem? (i := 17) rfl
theorem a4T : (19, "vStack", "[I", 2) ∈ cFS := List.mem_of_getElem? (i := 18) rfl
theorem b6S : (20, "mA", "[I", 2) ∈ cFS := List.mem_of_getElem? (i := 19) rfl
theorem b6Z : (21, "mB", "[I", 2) ∈ cFS := List.mem_of_getElem? (i := 20) rfl
theorem b4B : (22, "text", "[C", 2) ∈ cFS := List.mem_of_getElem? (i := 21) rfl
theorem b6k : (23, "rA", "[I", 2) ∈ cFS := List.mem_of_getElem? (i := 22) rfl
theorem b5L : (24, "rJ", "[I", 2) ∈ cFS := List.mem_of_getElem? (i := 23) rfl
theorem a8x : (114, "itemLim", "I", 0) ∈ cFS := List.mem_of_getElem? (i := 24) rfl
theorem a8D : (115, "sizeLim", "I", 0) ∈ cFS := List.mem_of_getElem? (i := 25) rfl
theorem a1i : (117, "lineLen", "I", 0) ∈ cFS := List.mem_of_getElem? (i := 26) rfl
theorem a1a : (124, "freeTop", "I", 0) ∈ cFS := List.mem_of_getElem? (i := 27) rfl
theorem a0B : (129, "tokCount", "I", 0) ∈ cFS := List.mem_of_getElem? (i := 28) rfl
theorem a1b : (134, "nodeCount", "I", 0) ∈ cFS := List.mem_of_getElem? (i := 29) rfl
theorem a11 : (136, "pTop", "I", 0) ∈ cFS := List.mem_of_getElem? (i := 30) rfl
theorem a30 : (137, "expecting", "Z", 0) ∈ cFS := List.mem_of_getElem? (i := 31) rfl
theorem b2x : (138, "cur", "I", 0) ∈ cFS := List.mem_of_getElem? (i := 32) rfl
theorem b3C : (139, "root", "I", 0) ∈ cFS := List.mem_of_getElem? (i := 33) rfl
theorem a4Y : (140, "target", "I", 0) ∈ cFS := List.mem_of_getElem? (i := 34) rfl
theorem a1e : (144, "vTop", "I", 0) ∈ cFS := List.mem_of_getElem? (i := 35) rfl
theorem a1y : (149, "textLen", "I", 0) ∈ cFS := List.mem_of_getElem? (i := 36) rfl
theorem a8y : (150, "textSel", "I", 0) ∈ cFS := List.mem_of_getElem? (i := 37) rfl
theorem b3B : ((1, .int, 32) : a0T) ∈ cFA := List.mem_of_getElem? (i := 0) rfl
theorem a0K : ((2, .int, 1024) : a0T) ∈ cFA := List.mem_of_getElem? (i := 1) rfl
theorem a7Q : ((3, .int, 1024) : a0T) ∈ cFA := List.mem_of_getElem? (i := 2) rfl
theorem a1B : ((4, .int, 1024) : a0T) ∈ cFA := List.mem_of_getElem? (i := 3) rfl
theorem a1n : ((5, .int, 1024) : a0T) ∈ cFA := List.mem_of_getElem? (i := 4) rfl
theorem a3N : ((6, .int, 8192) : a0T) ∈ cFA := List.mem_of_getElem? (i := 5) rfl
theorem a46 : ((7, .int, 1024) : a0T) ∈ cFA := List.mem_of_getElem? (i := 6) rfl
theorem a5a : ((8, .int, 256) : a0T) ∈ cFA := List.mem_of_getElem? (i := 7) rfl
theorem a2T : ((9, .int, 5) : a0T) ∈ cFA := List.mem_of_getElem? (i := 8) rfl
theorem a1W : ((10, .int, 33) : a0T) ∈ cFA := List.mem_of_getElem? (i := 9) rfl
theorem a3c : ((11, .int, 33) : a0T) ∈ cFA := List.mem_of_getElem? (i := 10) rfl
theorem a5t : ((12, .int, 33) : a0T) ∈ cFA := List.mem_of_getElem? (i := 11) rfl
theorem b2v : ((13, .int, 33) : a0T) ∈ cFA := List.mem_of_getElem? (i := 12) rfl
theorem b4T : ((14, .int, 33) : a0T) ∈ cFA := List.mem_of_getElem? (i := 13) rfl
theorem b5M : ((15, .int, 33) : a0T) ∈ cFA := List.mem_of_getElem? (i := 14) rfl
theorem b2k : ((16, .int, 33) : a0T) ∈ cFA := List.mem_of_getElem? (i := 15) rfl
theorem a8r : ((17, .int, 80) : a0T) ∈ cFA := List.mem_of_getElem? (i := 16) rfl
theorem a3i : ((18, .int, 80) : a0T) ∈ cFA := List.mem_of_getElem? (i := 17) rfl
theorem a4X : ((19, .int, 40) : a0T) ∈ cFA := List.mem_of_getElem? (i := 18) rfl
theorem b6G : ((20, .int, 64) : a0T) ∈ cFA := List.mem_of_getElem? (i := 19) rfl
theorem b6Q : ((21, .int, 64) : a0T) ∈ cFA := List.mem_of_getElem? (i := 20) rfl
theorem b4R : ((22, .char, 256) : a0T) ∈ cFA := List.mem_of_getElem? (i := 21) rfl
theorem b6q : ((23, .int, 64) : a0T) ∈ cFA := List.mem_of_getElem? (i := 22) rfl
theorem b5K : ((24, .int, 64) : a0T) ∈ cFA := List.mem_of_getElem? (i := 23) rfl
theorem a0E : a07 cFS cFA 24 = true := by decide +kernel
theorem cj_ : (ceJ 39 cFA []).1 ≤ 64 ∧ (ceJ 39 cFA []).2 ≤ 29248 := by decide +kernel
theorem a0v : (ceJ 39 cFA [24]).1 ≤ 64 ∧ (ceJ 39 cFA [24]).2 ≤ 29248 := by decide +kernel
theorem cn_ : (ceJ 39 cFA []).1 + 1 ≤ 64 ∧ (ceJ 39 cFA []).2 + 39 ≤ 29248 := by decide +kernel
theorem b7N : (14548 : Nat) = (ceI cFA 24).2 := by decide +kernel
theorem b7y : (ceI cFA 0).2 = 0 := by decide +kernel
theorem a1m {a0 : Array Value} {Z : State} (hw : HW a0 Z) : b6A Z a0 cC cFS 39 := by
 refine ⟨fun f hf => ?_, w5 hw, w6 hw⟩
 simp only [cFS, List.mem_cons, List.not_mem_nil, or_false] at hf
 rcases hf with rfl | rfl | rfl | rfl | rfl | rfl | rfl | rfl | rfl | rfl | rfl | rfl | rfl | rfl | rfl | rfl | rfl | rfl | rfl | rfl | rfl | rfl | rfl | rfl | rfl | rfl | rfl | rfl | rfl | rfl | rfl | rfl | rfl | rfl | rfl | rfl | rfl | rfl
 ·exact Or.inl (w15 hw)
 ·exact Or.inl (w17 hw)
 ·exact Or.inl (w19 hw)
 ·exact Or.inl (w21 hw)
 ·exact Or.inl (w23 hw)
 ·exact Or.inl (w25 hw)
 ·exact Or.inl (w27 hw)
 ·exact Or.inl (w29 hw)
 ·exact Or.inl (w31 hw)
 ·exact Or.inl (w33 hw)
 ·exact Or.inl (w35 hw)
 ·exact Or.inl (w37 hw)
 ·exact Or.inl (w39 hw)
 ·exact Or.inl (w41 hw)
 ·exact Or.inl (w43 hw)
 ·exact Or.inl (w45 hw)
 ·exact Or.inl (w47 hw)
 ·exact Or.inl (w49 hw)
 ·exact Or.inl (w51 hw)
 ·exact Or.inl (w53 hw)
 ·exact Or.inl (w55 hw)
 ·exact Or.inl (w58 hw)
 ·exact Or.inl (w60 hw)
 ·exact Or.inl (w62 hw)
 ·exact Or.inl (w68 hw)
 ·exact Or.inl (w70 hw)
 ·exact Or.inl (w74 hw)
 ·exact Or.inl (w72 hw)
 ·exact Or.inl (b77 hw)
 ·exact Or.inl (b8S hw)
 ·exact Or.inl (b7A hw)
 ·exact Or.inl (b72 hw)
 ·exact Or.inl (b7Y hw)
 ·exact Or.inl (b8C hw)
 ·exact Or.inl (b8H hw)
 ·exact Or.inl (b69 hw)
 ·exact Or.inl (w78 hw)
 ·exact Or.inl (w76 hw)
theorem pnC : plainName cC = true := by first | (simp [plainName, overriddenIn]; done) | decide +kernel
theorem pnL : plainName "BoxedArrayLangL3" = true := by first | (simp [plainName, overriddenIn]; done) | decide +kernel
theorem hyC : cC ≠ "java/lang/invoke/MethodHandle" ∧ cC ≠ "java/lang/invoke/VarHandle" := by decide
theorem hyL : "BoxedArrayLangL3" ≠ "java/lang/invoke/MethodHandle" ∧ "BoxedArrayLangL3" ≠ "java/lang/invoke/VarHandle" := by decide
theorem a1o : parseFieldDescriptor "I" = some .int := by decide +kernel
theorem b6F : parseFieldDescriptor "Z" = some .boolean := by decide +kernel
theorem a1p : parseFieldDescriptor "[I" = some (.array .int) := by decide +kernel
theorem b7G : parseFieldDescriptor "[C" = some (.array .char) := by decide +kernel
theorem a1D : parseMethodDescriptor "(I)Z" = some ⟨[.int], some .boolean⟩ := by decide +kernel
theorem a9E : parseMethodDescriptor "(I)V" = some ⟨[.int], none⟩ := by decide +kernel
theorem a3e : parseMethodDescriptor "(I)I" = some ⟨[.int], some .int⟩ := by decide +kernel
theorem b4S : parseMethodDescriptor "(II)I" = some ⟨[.int, .int], some .int⟩ := by decide +kernel
theorem c1a : parseMethodDescriptor "()V" = some ⟨[], none⟩ := by decide +kernel
theorem b70 : parseMethodDescriptor "(IIII)I" = some ⟨[.int, .int, .int, .int], some .int⟩ := by decide +kernel
theorem b6i : parseMethodDescriptor "(II)V" = some ⟨[.int, .int], none⟩ := by decide +kernel
theorem b7n : parseMethodDescriptor "(III)I" = some ⟨[.int, .int, .int], some .int⟩ := by decide +kernel
theorem b6b : parseMethodDescriptor "()I" = some ⟨[], some .int⟩ := by decide +kernel
theorem b8t : parseMethodDescriptor "(II)Z" = some ⟨[.int, .int], some .boolean⟩ := by decide +kernel
theorem b7x : parseMethodDescriptor "()Z" = some ⟨[], some .boolean⟩ := by decide +kernel
theorem b54 : parseMethodDescriptor "(II)C" = some ⟨[.int, .int], some .char⟩ := by decide +kernel
abbrev c5 : ByteArray := prog_1_method_66_code
theorem b2G : DG8 c5 0 (.iload_n 1) 1 1 (.ifCond .lt 14) 3 4 (.iload_n 1) 1 5 (.sipush 1024) 3 8 (.if_icmp .ge 7) 3 15 (.iconst 0) 1 11 (.iconst 1) 1 12 (.goto 4) 3 := by decide +kernel
theorem b6R : DG1 c5 16 .ireturn 1 := by decide +kernel
abbrev c4 : ByteArray := prog_1_method_10_code
theorem b3a : DG8 c4 0 (.iload_n 1) 1 1 (.ifCond .lt 8) 3 4 (.iload_n 1) 1 5 (.iconst 4) 1 6 (.if_icmp .le 5) 3 11 (.aload_n 0) 1 12 (.aload_n 0) 1 13 (.getfield 34) 3 := by decide +kernel
theorem b4o : DG6 c4 16 (.iload_n 1) 1 17 .iaload 1 18 (.invokevirtual 114) 3 21 .ireturn 1 9 (.iconst 0) 1 10 .ireturn 1 := by decide +kernel
abbrev c7 : ByteArray := prog_1_method_87_code
theorem b3d : DG8 c7 0 (.aload_n 0) 1 1 (.getfield 103) 3 4 (.ifCond .lt 34) 3 7 (.aload_n 0) 1 8 (.getfield 103) 3 11 (.sipush 256) 3 14 (.if_icmp .ge 24) 3 17 (.aload_n 0) 1 := by decide +kernel
theorem b4m : DG8 c7 18 (.getfield 73) 3 21 (.aload_n 0) 1 22 (.getfield 103) 3 25 (.iload_n 1) 1 26 .i2c 1 27 .castore 1 28 (.aload_n 0) 1 29 .dup 1 := by decide +kernel
theorem b2z : DG5 c7 30 (.getfield 103) 3 33 (.iconst 1) 1 34 .iadd 1 35 (.putfield 103) 3 38 .return_ 1 := by decide +kernel
abbrev c9 : ByteArray := prog_1_method_67_code
theorem b3S : DG7 c9 0 (.iload_n 1) 1 1 (.ldc_w 342) 3 4 (.if_icmp .lt 7) 3 11 (.iconst 0) 1 7 (.iconst 1) 1 8 (.goto 4) 3 12 .ireturn 1 := by decide +kernel
abbrev c10 : ByteArray := prog_1_method_86_code
theorem a9X : DG8 c10 0 (.iload_n 1) 1 1 (.ifCond .ge 8) 3 9 (.iload_n 1) 1 4 (.iload_n 1) 1 5 .ineg 1 6 (.goto 4) 3 10 (.istore_n 2) 1 11 (.iload_n 1) 1 := by decide +kernel
theorem a8U : DG8 c10 12 (.ifCond .ge 9) 3 15 (.aload_n 0) 1 16 (.bipush 45) 2 18 (.invokevirtual 352) 3 21 (.iload_n 2) 1 22 (.sipush 1000) 3 25 (.if_icmp .lt 18) 3 28 (.aload_n 0) 1 := by decide +kernel
theorem a62 : DG8 c10 29 (.bipush 48) 2 31 (.iload_n 2) 1 32 (.sipush 1000) 3 35 .idiv 1 36 (.bipush 10) 2 38 .irem 1 39 .iadd 1 40 (.invokevirtual 352) 3 := by decide +kernel
theorem a5f : DG8 c10 43 (.iload_n 2) 1 44 (.bipush 100) 2 46 (.if_icmp .lt 17) 3 49 (.aload_n 0) 1 50 (.bipush 48) 2 52 (.iload_n 2) 1 53 (.bipush 100) 2 55 .idiv 1 := by decide +kernel
theorem a5m : DG8 c10 56 (.bipush 10) 2 58 .irem 1 59 .iadd 1 60 (.invokevirtual 352) 3 63 (.iload_n 2) 1 64 (.bipush 10) 2 66 (.if_icmp .lt 17) 3 69 (.aload_n 0) 1 := by decide +kernel
theorem a7h : DG8 c10 70 (.bipush 48) 2 72 (.iload_n 2) 1 73 (.bipush 10) 2 75 .idiv 1 76 (.bipush 10) 2 78 .irem 1 79 .iadd 1 80 (.invokevirtual 352) 3 := by decide +kernel
theorem a7J : DG8 c10 83 (.aload_n 0) 1 84 (.bipush 48) 2 86 (.iload_n 2) 1 87 (.bipush 10) 2 89 .irem 1 90 .iadd 1 91 (.invokevirtual 352) 3 94 .return_ 1 := by decide +kernel
abbrev c11 : ByteArray := prog_1_method_69_code
theorem b40 : DG4 c11 0 (.iload_n 1) 1 1 (.ldc_w 342) 3 4 .isub 1 5 .ireturn 1 := by decide +kernel
abbrev c8 : ByteArray := prog_1_method_85_code
theorem b3M : DG8 c8 0 (.aload_n 0) 1 1 (.iload_n 1) 1 2 (.invokevirtual 309) 3 5 (.ifCond .ne 10) 3 15 (.aload_n 0) 1 16 (.bipush 40) 2 18 (.invokevirtual 352) 3 21 (.aload_n 0) 1 := by decide +kernel
theorem b22 : DG8 c8 22 (.iload_n 1) 1 23 (.invokevirtual 333) 3 26 (.istore_n 3) 1 27 (.iload_n 2) 1 28 (.ifCond .lt 17) 3 31 (.iload_n 2) 1 32 (.bipush 64) 2 34 (.if_icmp .ge 11) 3 := by decide +kernel
theorem b0r : DG8 c8 37 (.aload_n 0) 1 38 (.iload_n 3) 1 39 (.invokevirtual 114) 3 42 (.ifCond .ne 11) 3 53 (.aload_n 0) 1 54 (.getfield 77) 3 57 (.iload_n 2) 1 58 (.iload_n 3) 1 := by decide +kernel
theorem b03 : DG8 c8 59 .iastore 1 60 (.aload_n 0) 1 61 (.getfield 80) 3 64 (.iload_n 2) 1 65 (.iconst 0) 1 66 .iastore 1 67 (.iload_n 2) 1 68 (.iconst 1) 1 := by decide +kernel
theorem b1h : DG8 c8 69 .iadd 1 70 .ireturn 1 45 (.aload_n 0) 1 46 (.bipush 41) 2 48 (.invokevirtual 352) 3 51 (.iload_n 2) 1 52 .ireturn 1 8 (.aload_n 0) 1 := by decide +kernel
theorem b46 : DG4 c8 9 (.iload_n 1) 1 10 (.invokevirtual 358) 3 13 (.iload_n 2) 1 14 .ireturn 1 := by decide +kernel
abbrev c6 : ByteArray := prog_1_method_84_code
theorem b3z : DG8 c6 0 (.aload_n 0) 1 1 (.iconst 0) 1 2 (.putfield 103) 3 5 (.aload_n 0) 1 6 (.iload_n 1) 1 7 (.invokevirtual 114) 3 10 (.ifCond .ne 4) 3 14 (.aload_n 0) 1 := by decide +kernel
theorem b4t : DG8 c6 15 (.getfield 77) 3 18 (.iconst 0) 1 19 (.iload_n 1) 1 20 .iastore 1 21 (.aload_n 0) 1 22 (.getfield 80) 3 25 (.iconst 0) 1 26 (.iconst 0) 1 := by decide +kernel
theorem a9W : DG8 c6 27 .iastore 1 28 (.iconst 1) 1 29 (.istore_n 2) 1 30 (.iconst 0) 1 31 (.istore_n 3) 1 32 (.iload_n 3) 1 33 (.sipush 1024) 3 36 (.if_icmp .ge 116) 3 := by decide +kernel
theorem a6k : DG8 c6 39 (.iload_n 2) 1 40 (.ifCond .le 112) 3 43 (.iload_n 2) 1 44 (.bipush 64) 2 46 (.if_icmp .gt 106) 3 152 .return_ 1 49 (.aload_n 0) 1 50 (.getfield 77) 3 := by decide +kernel
theorem b1C : DG8 c6 53 (.iload_n 2) 1 54 (.iconst 1) 1 55 .isub 1 56 .iaload 1 57 (.istore 4) 2 59 (.aload_n 0) 1 60 (.getfield 80) 3 63 (.iload_n 2) 1 := by decide +kernel
theorem b1u : DG8 c6 64 (.iconst 1) 1 65 .isub 1 66 .iaload 1 67 (.istore 5) 2 69 (.iload 5) 2 71 (.aload_n 0) 1 72 (.getfield 13) 3 75 (.iload 4) 2 := by decide +kernel
theorem a9c : DG8 c6 77 .iaload 1 78 (.if_icmp .ge 10) 3 81 (.iload 5) 2 83 (.bipush 8) 2 85 (.if_icmp .lt 19) 3 104 (.aload_n 0) 1 105 (.getfield 80) 3 108 (.iload_n 2) 1 := by decide +kernel
theorem b0H : DG8 c6 109 (.iconst 1) 1 110 .isub 1 111 (.iload 5) 2 113 (.iconst 1) 1 114 .iadd 1 115 .iastore 1 116 (.iload 5) 2 118 (.ifCond .le 9) 3 := by decide +kernel
theorem b09 : DG8 c6 121 (.aload_n 0) 1 122 (.bipush 32) 2 124 (.invokevirtual 352) 3 127 (.aload_n 0) 1 128 (.aload_n 0) 1 129 (.getfield 25) 3 132 (.iload 4) 2 134 (.bipush 8) 2 := by decide +kernel
theorem b1B : DG8 c6 136 .imul 1 137 (.iload 5) 2 139 .iadd 1 140 .iaload 1 141 (.iload_n 2) 1 142 (.invokevirtual 355) 3 145 (.istore_n 2) 1 88 (.iinc 2 (-1)) 3 := by decide +kernel
theorem b0t : DG8 c6 91 (.iload_n 2) 1 92 (.ifCond .le 54) 3 95 (.aload_n 0) 1 96 (.bipush 41) 2 98 (.invokevirtual 352) 3 101 (.goto 45) 3 146 (.iinc 3 1) 3 149 (.goto (-117)) 3 := by decide +kernel
theorem b7T : DG1 c6 13 .return_ 1 := by decide +kernel
abbrev c3 : ByteArray := prog_1_method_83_code
theorem b2V : DG8 c3 0 (.aload_n 0) 1 1 (.iload_n 1) 1 2 (.invokevirtual 142) 3 5 (.ifCond .ne 5) 3 10 (.aload_n 0) 1 11 (.getfield 100) 3 14 (.iload_n 1) 1 15 (.if_icmp .eq 18) 3 := by decide +kernel
theorem b38 : DG8 c3 18 (.aload_n 0) 1 19 (.aload_n 0) 1 20 (.getfield 34) 3 23 (.iload_n 1) 1 24 .iaload 1 25 (.invokevirtual 349) 3 28 (.aload_n 0) 1 29 (.iload_n 1) 1 := by decide +kernel
theorem b2n : DG5 c3 30 (.putfield 100) 3 33 (.iconst 1) 1 34 .ireturn 1 8 (.iconst 0) 1 9 .ireturn 1 := by decide +kernel
abbrev c2 : ByteArray := prog_1_method_15_code
theorem b3c : DG8 c2 0 (.aload_n 0) 1 1 (.iload_n 1) 1 2 (.invokevirtual 145) 3 5 (.ifCond .ne 5) 3 10 (.iload_n 2) 1 11 (.ifCond .lt 18) 3 14 (.iload_n 2) 1 15 (.aload_n 0) 1 := by decide +kernel
theorem b2W : DG8 c2 16 (.getfield 103) 3 19 (.if_icmp .ge 10) 3 22 (.iload_n 2) 1 23 (.sipush 256) 3 26 (.if_icmp .lt 5) 3 31 (.aload_n 0) 1 32 (.getfield 73) 3 35 (.iload_n 2) 1 := by decide +kernel
theorem a82 : DG6 c2 36 .caload 1 37 .ireturn 1 29 (.iconst 0) 1 30 .ireturn 1 8 (.iconst 0) 1 9 .ireturn 1 := by decide +kernel
abbrev c12 : ByteArray := method_4_code
theorem a8Y : DG8 c12 0 (.iload_n 0) 1 1 (.ifCond .ge 8) 3 9 (.bipush 48) 2 11 (.iload_n 0) 1 12 .iadd 1 4 (.bipush 45) 2 6 (.goto 7) 3 13 .ireturn 1 := by decide +kernel
abbrev c15 : ByteArray := prog_1_method_18_code
theorem a7I : DG8 c15 0 (.iload_n 1) 1 1 (.bipush 48) 2 3 (.if_icmp .lt 13) 3 6 (.iload_n 1) 1 7 (.bipush 57) 2 9 (.if_icmp .gt 7) 3 16 (.iconst 0) 1 12 (.iconst 1) 1 := by decide +kernel
theorem b47 : DG2 c15 13 (.goto 4) 3 17 .ireturn 1 := by decide +kernel
abbrev c16 : ByteArray := prog_1_method_19_code
theorem a6A : DG8 c16 0 (.iload_n 1) 1 1 (.bipush 97) 2 3 (.if_icmp .lt 13) 3 6 (.iload_n 1) 1 7 (.bipush 100) 2 9 (.if_icmp .gt 7) 3 16 (.iconst 0) 1 12 (.iconst 1) 1 := by decide +kernel
theorem b45 : DG2 c16 13 (.goto 4) 3 17 .ireturn 1 := by decide +kernel
abbrev c18 : ByteArray := prog_1_method_20_code
theorem a8L : DG8 c18 0 (.iload_n 1) 1 1 (.bipush 45) 2 3 (.if_icmp .eq 33) 3 6 (.iload_n 1) 1 7 (.bipush 60) 2 9 (.if_icmp .eq 27) 3 12 (.iload_n 1) 1 13 (.bipush 62) 2 := by decide +kernel
theorem a7a : DG8 c18 15 (.if_icmp .eq 21) 3 18 (.iload_n 1) 1 19 (.bipush 61) 2 21 (.if_icmp .eq 15) 3 24 (.iload_n 1) 1 25 (.bipush 35) 2 27 (.if_icmp .eq 9) 3 30 (.iload_n 1) 1 := by decide +kernel
theorem a7U : DG6 c18 31 (.bipush 105) 2 33 (.if_icmp .ne 7) 3 40 (.iconst 0) 1 36 (.iconst 1) 1 37 (.goto 4) 3 41 .ireturn 1 := by decide +kernel
abbrev c19 : ByteArray := prog_1_method_21_code
theorem a8Q : DG8 c19 0 (.iload_n 1) 1 1 (.bipush 43) 2 3 (.if_icmp .eq 39) 3 6 (.iload_n 1) 1 7 (.bipush 45) 2 9 (.if_icmp .eq 33) 3 12 (.iload_n 1) 1 13 (.bipush 42) 2 := by decide +kernel
theorem a61 : DG8 c19 15 (.if_icmp .eq 27) 3 18 (.iload_n 1) 1 19 (.bipush 44) 2 21 (.if_icmp .eq 21) 3 24 (.iload_n 1) 1 25 (.bipush 35) 2 27 (.if_icmp .eq 15) 3 30 (.iload_n 1) 1 := by decide +kernel
theorem a4E : DG8 c19 31 (.bipush 61) 2 33 (.if_icmp .eq 9) 3 36 (.iload_n 1) 1 37 (.bipush 62) 2 39 (.if_icmp .ne 7) 3 46 (.iconst 0) 1 42 (.iconst 1) 1 43 (.goto 4) 3 := by decide +kernel
theorem b5E : DG1 c19 47 .ireturn 1 := by decide +kernel
abbrev c17 : ByteArray := prog_1_method_22_code
theorem a9e : DG8 c17 0 (.aload_n 0) 1 1 (.iload_n 1) 1 2 (.invokevirtual 161) 3 5 (.ifCond .ne 11) 3 8 (.aload_n 0) 1 9 (.iload_n 1) 1 10 (.invokevirtual 164) 3 13 (.ifCond .eq 7) 3 := by decide +kernel
theorem b4g : DG4 c17 20 (.iconst 0) 1 16 (.iconst 1) 1 17 (.goto 4) 3 21 .ireturn 1 := by decide +kernel
abbrev c14 : ByteArray := prog_1_method_17_code
theorem a9l : DG8 c14 0 (.aload_n 0) 1 1 (.iload_n 1) 1 2 (.invokevirtual 152) 3 5 (.ifCond .ne 25) 3 8 (.iload_n 1) 1 9 (.bipush 32) 2 11 (.if_icmp .eq 19) 3 14 (.aload_n 0) 1 := by decide +kernel
theorem a9a : DG8 c14 15 (.iload_n 1) 1 16 (.invokevirtual 155) 3 19 (.ifCond .ne 11) 3 22 (.aload_n 0) 1 23 (.iload_n 1) 1 24 (.invokevirtual 158) 3 27 (.ifCond .eq 5) 3 32 (.iload_n 1) 1 := by decide +kernel
theorem a3h : DG8 c14 33 (.bipush 40) 2 35 (.if_icmp .eq 27) 3 38 (.iload_n 1) 1 39 (.bipush 41) 2 41 (.if_icmp .eq 21) 3 44 (.iload_n 1) 1 45 (.bipush 126) 2 47 (.if_icmp .eq 15) 3 := by decide +kernel
theorem a4e : DG8 c14 50 (.iload_n 1) 1 51 (.bipush 47) 2 53 (.if_icmp .eq 9) 3 56 (.iload_n 1) 1 57 (.bipush 58) 2 59 (.if_icmp .ne 7) 3 66 (.iconst 0) 1 62 (.iconst 1) 1 := by decide +kernel
theorem a3m : DG4 c14 63 (.goto 4) 3 67 .ireturn 1 30 (.iconst 1) 1 31 .ireturn 1 := by decide +kernel
abbrev c13 : ByteArray := prog_1_method_5_code
theorem a9i : DG8 c13 0 (.aload_n 0) 1 1 (.getfield 97) 3 4 (.ifCond .lt 12) 3 7 (.aload_n 0) 1 8 (.getfield 97) 3 11 (.bipush 32) 2 13 (.if_icmp .lt 5) 3 18 (.aload_n 0) 1 := by decide +kernel
theorem a93 : DG8 c13 19 (.iload_n 1) 1 20 (.invokevirtual 106) 3 23 (.ifCond .ne 5) 3 28 (.aload_n 0) 1 29 (.getfield 7) 3 32 (.aload_n 0) 1 33 (.getfield 97) 3 36 (.iload_n 1) 1 := by decide +kernel
theorem a66 : DG8 c13 37 .iastore 1 38 (.aload_n 0) 1 39 .dup 1 40 (.getfield 97) 3 43 (.iconst 1) 1 44 .iadd 1 45 (.putfield 97) 3 48 (.iconst 1) 1 := by decide +kernel
theorem a9r : DG5 c13 49 .ireturn 1 26 (.iconst 0) 1 27 .ireturn 1 16 (.iconst 0) 1 17 .ireturn 1 := by decide +kernel
abbrev c23 : ByteArray := prog_1_method_27_code
theorem a8J : DG8 c23 0 (.aload_n 0) 1 1 (.getfield 189) 3 4 (.ifCond .lt 12) 3 7 (.aload_n 0) 1 8 (.getfield 189) 3 11 (.bipush 33) 2 13 (.if_icmp .lt 4) 3 17 (.aload_n 0) 1 := by decide +kernel
theorem b0F : DG8 c23 18 (.iload_n 1) 1 19 (.invokevirtual 155) 3 22 (.ifCond .eq 30) 3 52 (.aload_n 0) 1 53 (.getfield 37) 3 56 (.aload_n 0) 1 57 (.getfield 189) 3 60 (.iload_n 1) 1 := by decide +kernel
theorem a7o : DG8 c23 61 .iastore 1 62 (.aload_n 0) 1 63 (.getfield 40) 3 66 (.aload_n 0) 1 67 (.getfield 189) 3 70 (.iconst 0) 1 71 .iastore 1 25 (.aload_n 0) 1 := by decide +kernel
theorem a8k : DG8 c23 26 (.getfield 37) 3 29 (.aload_n 0) 1 30 (.getfield 189) 3 33 (.bipush 86) 2 35 .iastore 1 36 (.aload_n 0) 1 37 (.getfield 40) 3 40 (.aload_n 0) 1 := by decide +kernel
theorem a8d : DG8 c23 41 (.getfield 189) 3 44 (.iload_n 1) 1 45 (.bipush 97) 2 47 .isub 1 48 .iastore 1 49 (.goto 23) 3 72 (.aload_n 0) 1 73 .dup 1 := by decide +kernel
theorem a9z : DG6 c23 74 (.getfield 189) 3 77 (.iconst 1) 1 78 .iadd 1 79 (.putfield 189) 3 82 .return_ 1 16 .return_ 1 := by decide +kernel
abbrev c24 : ByteArray := prog_1_method_26_code
theorem b06 : DG8 c24 0 (.iconst 0) 1 1 (.istore_n 2) 1 2 (.iload_n 1) 1 3 (.istore_n 3) 1 4 (.iconst 0) 1 5 (.istore 4) 2 7 (.iload 4) 2 9 (.bipush 33) 2 := by decide +kernel
theorem a7S : DG8 c24 11 (.if_icmp .ge 65) 3 14 (.iload_n 3) 1 15 (.aload_n 0) 1 16 (.getfield 97) 3 19 (.if_icmp .ge 57) 3 22 (.iload_n 3) 1 23 (.bipush 32) 2 25 (.if_icmp .ge 51) 3 := by decide +kernel
theorem a7c : DG8 c24 28 (.aload_n 0) 1 29 (.getfield 7) 3 32 (.iload_n 3) 1 33 .iaload 1 34 (.istore 5) 2 36 (.aload_n 0) 1 37 (.iload 5) 2 39 (.invokevirtual 152) 3 := by decide +kernel
theorem a4k : DG8 c24 42 (.ifCond .ne 6) 3 48 (.iload 4) 2 50 (.iconst 4) 1 51 (.if_icmp .lt 5) 3 56 (.iload_n 2) 1 57 (.bipush 10) 2 59 .imul 1 60 (.iload 5) 2 := by decide +kernel
theorem a7i : DG8 c24 62 (.bipush 48) 2 64 .isub 1 65 .iadd 1 66 (.istore_n 2) 1 67 (.iinc 3 1) 3 70 (.iinc 4 1) 3 73 (.goto (-66)) 3 54 (.iconst (-1)) 1 := by decide +kernel
theorem a5P : DG8 c24 55 .ireturn 1 45 (.goto 31) 3 76 (.aload_n 0) 1 77 (.getfield 189) 3 80 (.ifCond .lt 12) 3 83 (.aload_n 0) 1 84 (.getfield 189) 3 87 (.bipush 33) 2 := by decide +kernel
theorem a5Z : DG8 c24 89 (.if_icmp .lt 5) 3 94 (.aload_n 0) 1 95 (.getfield 37) 3 98 (.aload_n 0) 1 99 (.getfield 189) 3 102 (.bipush 78) 2 104 .iastore 1 105 (.aload_n 0) 1 := by decide +kernel
theorem a7q : DG8 c24 106 (.getfield 40) 3 109 (.aload_n 0) 1 110 (.getfield 189) 3 113 (.iload_n 2) 1 114 .iastore 1 115 (.aload_n 0) 1 116 .dup 1 117 (.getfield 189) 3 := by decide +kernel
theorem a5p : DG7 c24 120 (.iconst 1) 1 121 .iadd 1 122 (.putfield 189) 3 125 (.iload_n 3) 1 126 .ireturn 1 92 (.iconst (-1)) 1 93 .ireturn 1 := by decide +kernel
abbrev c22 : ByteArray := prog_1_method_25_code
theorem b1c : DG8 c22 0 (.aload_n 0) 1 1 (.iconst 0) 1 2 (.putfield 189) 3 5 (.iconst 0) 1 6 (.istore_n 1) 1 7 (.iconst 0) 1 8 (.istore_n 2) 1 9 (.iload_n 2) 1 := by decide +kernel
theorem a9j : DG8 c22 10 (.bipush 40) 2 12 (.if_icmp .ge 81) 3 15 (.iload_n 1) 1 16 (.aload_n 0) 1 17 (.getfield 97) 3 20 (.if_icmp .ge 73) 3 23 (.iload_n 1) 1 24 (.bipush 32) 2 := by decide +kernel
theorem a4q : DG8 c22 26 (.if_icmp .ge 67) 3 93 (.iload_n 1) 1 94 (.aload_n 0) 1 95 (.getfield 97) 3 98 (.if_icmp .lt 7) 3 105 (.iconst 0) 1 101 (.iconst 1) 1 102 (.goto 4) 3 := by decide +kernel
theorem a49 : DG8 c22 106 .ireturn 1 29 (.aload_n 0) 1 30 (.getfield 7) 3 33 (.iload_n 1) 1 34 .iaload 1 35 (.istore_n 3) 1 36 (.iload_n 3) 1 37 (.bipush 32) 2 := by decide +kernel
theorem a4f : DG8 c22 39 (.if_icmp .ne 9) 3 48 (.aload_n 0) 1 49 (.getfield 189) 3 52 (.bipush 32) 2 54 (.if_icmp .lt 5) 3 59 (.aload_n 0) 1 60 (.iload_n 3) 1 61 (.invokevirtual 152) 3 := by decide +kernel
theorem a6c : DG8 c22 64 (.ifCond .eq 15) 3 79 (.aload_n 0) 1 80 (.iload_n 3) 1 81 (.invokevirtual 195) 3 84 (.iinc 1 1) 3 67 (.aload_n 0) 1 68 (.iload_n 1) 1 69 (.invokevirtual 192) 3 := by decide +kernel
theorem a48 : DG8 c22 72 (.istore_n 1) 1 73 (.iload_n 1) 1 74 (.ifCond .ge 13) 3 77 (.iconst 0) 1 78 .ireturn 1 57 (.iconst 0) 1 58 .ireturn 1 42 (.iinc 1 1) 3 := by decide +kernel
theorem b4J : DG3 c22 45 (.goto 42) 3 87 (.iinc 2 1) 3 90 (.goto (-81)) 3 := by decide +kernel
abbrev c27 : ByteArray := prog_1_method_28_code
theorem a87 : DG8 c27 0 (.iload_n 1) 1 1 (.ifCond .lt 17) 3 4 (.iload_n 1) 1 5 (.aload_n 0) 1 6 (.getfield 189) 3 9 (.if_icmp .ge 9) 3 12 (.iload_n 1) 1 13 (.bipush 33) 2 := by decide +kernel
theorem a45 : DG8 c27 15 (.if_icmp .lt 5) 3 20 (.aload_n 0) 1 21 (.getfield 37) 3 24 (.iload_n 1) 1 25 .iaload 1 26 .ireturn 1 18 (.iconst 0) 1 19 .ireturn 1 := by decide +kernel
abbrev c28 : ByteArray := prog_1_method_35_code
theorem a88 : DG8 c28 0 (.iconst 0) 1 1 (.istore_n 1) 1 2 (.iload_n 1) 1 3 (.bipush 40) 2 5 (.if_icmp .ge 90) 3 8 (.aload_n 0) 1 9 (.getfield 201) 3 12 (.ifCond .le 83) 3 := by decide +kernel
theorem a95 : DG8 c28 95 .return_ 1 15 (.aload_n 0) 1 16 (.getfield 55) 3 19 (.aload_n 0) 1 20 (.getfield 201) 3 23 (.iconst 1) 1 24 .isub 1 25 .iaload 1 := by decide +kernel
theorem a4O : DG8 c28 26 (.istore_n 2) 1 27 (.iload_n 2) 1 28 (.ifCond .lt 11) 3 31 (.iload_n 2) 1 32 (.aload_n 0) 1 33 (.getfield 198) 3 36 (.if_icmp .lt 4) 3 40 (.aload_n 0) 1 := by decide +kernel
theorem a8h : DG8 c28 41 .dup 1 42 (.getfield 201) 3 45 (.iconst 1) 1 46 .isub 1 47 (.putfield 201) 3 50 (.aload_n 0) 1 51 (.getfield 43) 3 54 (.iload_n 2) 1 := by decide +kernel
theorem a5e : DG8 c28 55 .iaload 1 56 (.bipush 100) 2 58 (.if_icmp .ne 16) 3 74 (.aload_n 0) 1 75 (.getfield 49) 3 78 (.iload_n 2) 1 79 (.aload_n 0) 1 80 (.getfield 207) 3 := by decide +kernel
theorem a70 : DG8 c28 83 .iastore 1 61 (.aload_n 0) 1 62 (.getfield 52) 3 65 (.iload_n 2) 1 66 (.aload_n 0) 1 67 (.getfield 207) 3 70 .iastore 1 71 (.goto 13) 3 := by decide +kernel
theorem a9B : DG6 c28 84 (.aload_n 0) 1 85 (.iload_n 2) 1 86 (.putfield 207) 3 89 (.iinc 1 1) 3 92 (.goto (-90)) 3 39 .return_ 1 := by decide +kernel
abbrev c29 : ByteArray := prog_1_method_37_code
theorem a9h : DG8 c29 0 (.aload_n 0) 1 1 (.getfield 198) 3 4 (.ifCond .lt 12) 3 7 (.aload_n 0) 1 8 (.getfield 198) 3 11 (.bipush 33) 2 13 (.if_icmp .lt 5) 3 18 (.aload_n 0) 1 := by decide +kernel
theorem b1a : DG8 c29 19 (.getfield 198) 3 22 (.istore 5) 2 24 (.aload_n 0) 1 25 (.getfield 43) 3 28 (.iload 5) 2 30 (.iload_n 1) 1 31 .iastore 1 32 (.aload_n 0) 1 := by decide +kernel
theorem a6L : DG8 c29 33 (.getfield 46) 3 36 (.iload 5) 2 38 (.iload_n 2) 1 39 .iastore 1 40 (.aload_n 0) 1 41 (.getfield 49) 3 44 (.iload 5) 2 46 (.iload_n 3) 1 := by decide +kernel
theorem a69 : DG8 c29 47 .iastore 1 48 (.aload_n 0) 1 49 (.getfield 52) 3 52 (.iload 5) 2 54 (.iload 4) 2 56 .iastore 1 57 (.aload_n 0) 1 58 .dup 1 := by decide +kernel
theorem a4n : DG8 c29 59 (.getfield 198) 3 62 (.iconst 1) 1 63 .iadd 1 64 (.putfield 198) 3 67 (.iload 5) 2 69 .ireturn 1 16 (.iconst (-1)) 1 17 .ireturn 1 := by decide +kernel
abbrev c30 : ByteArray := prog_1_method_36_code
theorem a9b : DG8 c30 0 (.aload_n 0) 1 1 (.getfield 201) 3 4 (.ifCond .lt 12) 3 7 (.aload_n 0) 1 8 (.getfield 201) 3 11 (.bipush 33) 2 13 (.if_icmp .lt 5) 3 18 (.aload_n 0) 1 := by decide +kernel
theorem b05 : DG8 c30 19 (.getfield 55) 3 22 (.aload_n 0) 1 23 (.getfield 201) 3 26 (.iload_n 1) 1 27 .iastore 1 28 (.aload_n 0) 1 29 .dup 1 30 (.getfield 201) 3 := by decide +kernel
theorem a5r : DG7 c30 33 (.iconst 1) 1 34 .iadd 1 35 (.putfield 201) 3 38 (.iconst 1) 1 39 .ireturn 1 16 (.iconst 0) 1 17 .ireturn 1 := by decide +kernel
abbrev c26 : ByteArray := prog_1_method_34_code
theorem a9K : DG8 c26 0 (.aload_n 0) 1 1 (.iload_n 1) 1 2 (.invokevirtual 220) 3 5 (.istore_n 2) 1 6 (.aload_n 0) 1 7 (.iload_n 2) 1 8 (.invokevirtual 164) 3 11 (.ifCond .eq 39) 3 := by decide +kernel
theorem a8S : DG8 c26 50 (.aload_n 0) 1 51 (.invokevirtual 239) 3 54 (.iload_n 2) 1 55 (.bipush 41) 2 57 (.if_icmp .ne 24) 3 60 (.aload_n 0) 1 61 (.getfield 201) 3 64 (.ifCond .le 17) 3 := by decide +kernel
theorem a2L : DG8 c26 81 (.iload_n 2) 1 82 (.ifCond .ne 21) 3 85 (.aload_n 0) 1 86 (.getfield 201) 3 89 (.ifCond .ne 14) 3 103 (.iconst (-1)) 1 104 .ireturn 1 92 (.aload_n 0) 1 := by decide +kernel
theorem a7H : DG8 c26 93 (.aload_n 0) 1 94 (.getfield 207) 3 97 (.putfield 204) 3 100 (.bipush (-2)) 2 102 .ireturn 1 67 (.aload_n 0) 1 68 .dup 1 69 (.getfield 201) 3 := by decide +kernel
theorem a7G : DG8 c26 72 (.iconst 1) 1 73 .isub 1 74 (.putfield 201) 3 77 (.iload_n 1) 1 78 (.iconst 1) 1 79 .iadd 1 80 .ireturn 1 14 (.aload_n 0) 1 := by decide +kernel
theorem a6N : DG8 c26 15 (.bipush 100) 2 17 (.iload_n 2) 1 18 (.aload_n 0) 1 19 (.getfield 207) 3 22 (.iconst (-1)) 1 23 (.invokevirtual 229) 3 26 (.istore_n 3) 1 27 (.iload_n 3) 1 := by decide +kernel
theorem a4H : DG8 c26 28 (.ifCond .lt 11) 3 31 (.aload_n 0) 1 32 (.iload_n 3) 1 33 (.invokevirtual 223) 3 36 (.ifCond .ne 5) 3 41 (.aload_n 0) 1 42 (.iconst 1) 1 43 (.putfield 210) 3 := by decide +kernel
theorem a6V : DG6 c26 46 (.iload_n 1) 1 47 (.iconst 1) 1 48 .iadd 1 49 .ireturn 1 39 (.iconst (-1)) 1 40 .ireturn 1 := by decide +kernel
abbrev c33 : ByteArray := prog_1_method_31_code
theorem a9G : DG8 c33 0 (.iload_n 1) 1 1 (.ifCond .ge 5) 3 6 (.aload_n 0) 1 7 (.iload_n 1) 1 8 (.putfield 207) 3 11 (.aload_n 0) 1 12 (.iconst 0) 1 13 (.putfield 210) 3 := by decide +kernel
theorem b48 : DG4 c33 16 (.iload_n 2) 1 17 .ireturn 1 4 (.iconst (-1)) 1 5 .ireturn 1 := by decide +kernel
abbrev c32 : ByteArray := prog_1_method_33_code
theorem b0h : DG8 c32 0 (.iconst 0) 1 1 (.istore_n 2) 1 2 (.iload_n 1) 1 3 (.istore_n 3) 1 4 (.iload_n 3) 1 5 (.ifCond .lt 40) 3 8 (.iload_n 3) 1 9 (.aload_n 0) 1 := by decide +kernel
theorem a9d : DG8 c32 10 (.getfield 189) 3 13 (.if_icmp .ge 32) 3 16 (.iload_n 3) 1 17 (.bipush 33) 2 19 (.if_icmp .ge 26) 3 22 (.aload_n 0) 1 23 (.getfield 37) 3 26 (.iload_n 3) 1 := by decide +kernel
theorem a5F : DG8 c32 27 .iaload 1 28 (.bipush 78) 2 30 (.if_icmp .eq 6) 3 36 (.iinc 2 1) 3 39 (.iinc 3 1) 3 42 (.goto (-38)) 3 33 (.goto 12) 3 45 (.aload_n 0) 1 := by decide +kernel
theorem a6C : DG8 c32 46 (.bipush 110) 2 48 (.iconst 0) 1 49 (.iload_n 1) 1 50 (.iload_n 2) 1 51 (.invokevirtual 229) 3 54 (.istore_n 3) 1 55 (.aload_n 0) 1 56 (.iload_n 3) 1 := by decide +kernel
theorem b2h : DG5 c32 57 (.iload_n 1) 1 58 (.iload_n 2) 1 59 .iadd 1 60 (.invokevirtual 233) 3 63 .ireturn 1 := by decide +kernel
abbrev c34 : ByteArray := prog_1_method_32_code
theorem b1n : DG8 c34 0 (.aload_n 0) 1 1 (.iload_n 2) 1 2 (.iconst 1) 1 3 .iadd 1 4 (.invokevirtual 220) 3 7 (.istore_n 3) 1 8 (.bipush 109) 2 10 (.istore 4) 2 := by decide +kernel
theorem b0C : DG8 c34 12 (.iconst 1) 1 13 (.istore 5) 2 15 (.iload_n 3) 1 16 (.bipush 47) 2 18 (.if_icmp .ne 23) 3 41 (.aload_n 0) 1 42 (.iload_n 1) 1 43 (.invokevirtual 161) 3 := by decide +kernel
theorem a4i : DG8 c34 46 (.ifCond .ne 5) 3 51 (.iload_n 3) 1 52 (.bipush 126) 2 54 (.if_icmp .ne 10) 3 57 (.bipush 126) 2 59 (.istore 4) 2 61 (.iconst 2) 1 62 (.istore 5) 2 := by decide +kernel
theorem a6d : DG8 c34 49 (.iconst (-1)) 1 50 .ireturn 1 21 (.aload_n 0) 1 22 (.iload_n 1) 1 23 (.invokevirtual 164) 3 26 (.ifCond .ne 5) 3 31 (.bipush 47) 2 33 (.istore 4) 2 := by decide +kernel
theorem a6Q : DG8 c34 35 (.iconst 2) 1 36 (.istore 5) 2 38 (.goto 26) 3 64 (.aload_n 0) 1 65 (.iload 4) 2 67 (.iload_n 1) 1 68 (.iconst (-1)) 1 69 (.iconst 0) 1 := by decide +kernel
theorem a4M : DG8 c34 70 (.invokevirtual 229) 3 73 (.istore 6) 2 75 (.iload 6) 2 77 (.ifCond .lt 12) 3 80 (.aload_n 0) 1 81 (.iload 6) 2 83 (.invokevirtual 223) 3 86 (.ifCond .ne 5) 3 := by decide +kernel
theorem a4u : DG8 c34 91 (.iload_n 2) 1 92 (.iload 5) 2 94 .iadd 1 95 .ireturn 1 89 (.iconst (-1)) 1 90 .ireturn 1 29 (.iconst (-1)) 1 30 .ireturn 1 := by decide +kernel
abbrev c31 : ByteArray := prog_1_method_30_code
theorem a9Y : DG8 c31 0 (.aload_n 0) 1 1 (.iload_n 1) 1 2 (.invokevirtual 220) 3 5 (.istore_n 2) 1 6 (.iload_n 2) 1 7 (.bipush 40) 2 9 (.if_icmp .ne 19) 3 28 (.iload_n 2) 1 := by decide +kernel
theorem a86 : DG8 c31 29 (.bipush 78) 2 31 (.if_icmp .ne 9) 3 40 (.iload_n 2) 1 41 (.bipush 86) 2 43 (.if_icmp .ne 27) 3 70 (.aload_n 0) 1 71 (.iload_n 2) 1 72 (.invokevirtual 158) 3 := by decide +kernel
theorem a5x : DG8 c31 75 (.ifCond .ne 5) 3 80 (.aload_n 0) 1 81 (.iload_n 2) 1 82 (.iload_n 1) 1 83 (.invokevirtual 236) 3 86 .ireturn 1 78 (.iconst (-1)) 1 79 .ireturn 1 := by decide +kernel
theorem a7R : DG8 c31 46 (.aload_n 0) 1 47 (.bipush 118) 2 49 (.iconst 0) 1 50 (.aload_n 0) 1 51 (.getfield 40) 3 54 (.iload_n 1) 1 55 .iaload 1 56 (.iconst 0) 1 := by decide +kernel
theorem a6M : DG8 c31 57 (.invokevirtual 229) 3 60 (.istore_n 3) 1 61 (.aload_n 0) 1 62 (.iload_n 3) 1 63 (.iload_n 1) 1 64 (.iconst 1) 1 65 .iadd 1 66 (.invokevirtual 233) 3 := by decide +kernel
theorem a6Y : DG8 c31 69 .ireturn 1 34 (.aload_n 0) 1 35 (.iload_n 1) 1 36 (.invokevirtual 226) 3 39 .ireturn 1 12 (.aload_n 0) 1 13 (.iconst (-1)) 1 14 (.invokevirtual 223) 3 := by decide +kernel
theorem a5j : DG7 c31 17 (.ifCond .eq 9) 3 26 (.iconst (-1)) 1 20 (.iload_n 1) 1 21 (.iconst 1) 1 22 .iadd 1 23 (.goto 4) 3 27 .ireturn 1 := by decide +kernel
abbrev c25 : ByteArray := prog_1_method_29_code
theorem b1e : DG8 c25 0 (.aload_n 0) 1 1 (.iconst 0) 1 2 (.putfield 198) 3 5 (.aload_n 0) 1 6 (.iconst 0) 1 7 (.putfield 201) 3 10 (.aload_n 0) 1 11 (.iconst (-1)) 1 := by decide +kernel
theorem b1q : DG8 c25 12 (.putfield 180) 3 15 (.aload_n 0) 1 16 (.iconst (-1)) 1 17 (.putfield 204) 3 20 (.aload_n 0) 1 21 (.iconst (-1)) 1 22 (.putfield 207) 3 25 (.aload_n 0) 1 := by decide +kernel
theorem a5N : DG8 c25 26 (.iconst 1) 1 27 (.putfield 210) 3 30 (.iconst 0) 1 31 (.istore_n 1) 1 32 (.aload_n 0) 1 33 (.getfield 189) 3 36 (.iconst 2) 1 37 (.if_icmp .lt 37) 3 := by decide +kernel
theorem a5D : DG8 c25 40 (.aload_n 0) 1 41 (.getfield 37) 3 44 (.iconst 0) 1 45 .iaload 1 46 (.bipush 86) 2 48 (.if_icmp .ne 26) 3 51 (.aload_n 0) 1 52 (.getfield 37) 3 := by decide +kernel
theorem a5X : DG8 c25 55 (.iconst 1) 1 56 .iaload 1 57 (.bipush 58) 2 59 (.if_icmp .ne 15) 3 62 (.aload_n 0) 1 63 (.aload_n 0) 1 64 (.getfield 40) 3 67 (.iconst 0) 1 := by decide +kernel
theorem a7e : DG8 c25 68 .iaload 1 69 (.putfield 180) 3 72 (.iconst 2) 1 73 (.istore_n 1) 1 74 (.iconst 0) 1 75 (.istore_n 2) 1 76 (.iload_n 2) 1 77 (.bipush 80) 2 := by decide +kernel
theorem a4g : DG8 c25 79 (.if_icmp .ge 57) 3 136 (.iconst 0) 1 137 .ireturn 1 82 (.aload_n 0) 1 83 (.getfield 210) 3 86 (.ifCond .eq 11) 3 97 (.aload_n 0) 1 98 (.iload_n 1) 1 := by decide +kernel
theorem a78 : DG8 c25 99 (.invokevirtual 217) 3 89 (.aload_n 0) 1 90 (.iload_n 1) 1 91 (.invokevirtual 214) 3 94 (.goto 8) 3 102 (.istore_n 3) 1 103 (.iload_n 3) 1 104 (.bipush (-2)) 2 := by decide +kernel
theorem a4x : DG8 c25 106 (.if_icmp .ne 16) 3 122 (.iload_n 3) 1 123 (.ifCond .ge 5) 3 128 (.iload_n 3) 1 129 (.istore_n 1) 1 130 (.iinc 2 1) 3 133 (.goto (-57)) 3 126 (.iconst 0) 1 := by decide +kernel
theorem a4w : DG8 c25 127 .ireturn 1 109 (.aload_n 0) 1 110 (.getfield 204) 3 113 (.ifCond .lt 7) 3 120 (.iconst 0) 1 116 (.iconst 1) 1 117 (.goto 4) 3 121 .ireturn 1 := by decide +kernel
abbrev c38 : ByteArray := prog_1_method_80_code
theorem b1j : DG8 c38 0 (.aload_n 0) 1 1 (.getfield 13) 3 4 (.iload_n 1) 1 5 .iaload 1 6 (.istore_n 3) 1 7 (.iload_n 2) 1 8 (.istore 4) 2 10 (.iconst 0) 1 := by decide +kernel
theorem a8R : DG8 c38 11 (.istore 5) 2 13 (.iload 5) 2 15 (.iload_n 3) 1 16 (.if_icmp .ge 81) 3 19 (.iload 5) 2 21 (.bipush 8) 2 23 (.if_icmp .ge 74) 3 97 (.aload_n 0) 1 := by decide +kernel
theorem a8n : DG8 c38 98 (.getfield 13) 3 101 (.iload_n 1) 1 102 (.iconst 0) 1 103 .iastore 1 104 (.aload_n 0) 1 105 (.getfield 19) 3 108 (.iload_n 1) 1 109 (.iconst 0) 1 := by decide +kernel
theorem a7D : DG8 c38 110 .iastore 1 111 (.aload_n 0) 1 112 (.getfield 22) 3 115 (.iload_n 1) 1 116 (.iconst 1) 1 117 .iastore 1 118 (.aload_n 0) 1 119 (.getfield 94) 3 := by decide +kernel
theorem a4D : DG8 c38 122 (.ifCond .lt 33) 3 125 (.aload_n 0) 1 126 (.getfield 94) 3 129 (.sipush 1024) 3 132 (.if_icmp .ge 23) 3 135 (.aload_n 0) 1 136 (.getfield 28) 3 139 (.aload_n 0) 1 := by decide +kernel
theorem a79 : DG8 c38 140 (.getfield 94) 3 143 (.iload_n 1) 1 144 .iastore 1 145 (.aload_n 0) 1 146 .dup 1 147 (.getfield 94) 3 150 (.iconst 1) 1 151 .iadd 1 := by decide +kernel
theorem a2M : DG8 c38 152 (.putfield 94) 3 155 (.iload 4) 2 157 .ireturn 1 26 (.aload_n 0) 1 27 (.getfield 25) 3 30 (.iload_n 1) 1 31 (.bipush 8) 2 33 .imul 1 := by decide +kernel
theorem a7Y : DG8 c38 34 (.iload 5) 2 36 .iadd 1 37 .iaload 1 38 (.istore 6) 2 40 (.aload_n 0) 1 41 (.iload 6) 2 43 (.invokevirtual 333) 3 46 (.istore 7) 2 := by decide +kernel
theorem a4C : DG8 c38 48 (.aload_n 0) 1 49 (.iload 6) 2 51 (.invokevirtual 309) 3 54 (.ifCond .eq 37) 3 57 (.aload_n 0) 1 58 (.iload 7) 2 60 (.invokevirtual 114) 3 63 (.ifCond .eq 28) 3 := by decide +kernel
theorem a4z : DG8 c38 66 (.iload 4) 2 68 (.ifCond .lt 23) 3 71 (.iload 4) 2 73 (.sipush 256) 3 76 (.if_icmp .ge 15) 3 79 (.aload_n 0) 1 80 (.getfield 31) 3 83 (.iload 4) 2 := by decide +kernel
theorem b2E : DG5 c38 85 (.iload 7) 2 87 .iastore 1 88 (.iinc 4 1) 3 91 (.iinc 5 1) 3 94 (.goto (-81)) 3 := by decide +kernel
abbrev c37 : ByteArray := prog_1_method_79_code
theorem b0B : DG8 c37 0 (.aload_n 0) 1 1 (.iload_n 1) 1 2 (.invokevirtual 114) 3 5 (.ifCond .ne 4) 3 9 (.aload_n 0) 1 10 (.getfield 31) 3 13 (.iconst 0) 1 14 (.iload_n 1) 1 := by decide +kernel
theorem b0y : DG8 c37 15 .iastore 1 16 (.iconst 1) 1 17 (.istore_n 2) 1 18 (.iconst 0) 1 19 (.istore_n 3) 1 20 (.iload_n 3) 1 21 (.sipush 4096) 3 24 (.if_icmp .ge 72) 3 := by decide +kernel
theorem a4y : DG8 c37 27 (.iload_n 2) 1 28 (.ifCond .le 68) 3 96 .return_ 1 31 (.iinc 2 (-1)) 3 34 (.aload_n 0) 1 35 (.getfield 31) 3 38 (.iload_n 2) 1 39 .iaload 1 := by decide +kernel
theorem a55 : DG8 c37 40 (.istore 4) 2 42 (.aload_n 0) 1 43 (.iload 4) 2 45 (.invokevirtual 114) 3 48 (.ifCond .eq 42) 3 51 (.aload_n 0) 1 52 (.getfield 16) 3 55 (.iload 4) 2 := by decide +kernel
theorem a5y : DG8 c37 57 .iaload 1 58 (.ifCond .le 32) 3 61 (.aload_n 0) 1 62 (.getfield 16) 3 65 (.iload 4) 2 67 .dup2 1 68 .iaload 1 69 (.iconst 1) 1 := by decide +kernel
theorem a5I : DG8 c37 70 .isub 1 71 .iastore 1 72 (.aload_n 0) 1 73 (.getfield 16) 3 76 (.iload 4) 2 78 .iaload 1 79 (.ifCond .ne 11) 3 82 (.aload_n 0) 1 := by decide +kernel
theorem a9q : DG7 c37 83 (.iload 4) 2 85 (.iload_n 2) 1 86 (.invokevirtual 343) 3 89 (.istore_n 2) 1 90 (.iinc 3 1) 3 93 (.goto (-73)) 3 8 .return_ 1 := by decide +kernel
abbrev c36 : ByteArray := prog_1_method_41_code
theorem a8K : DG8 c36 0 (.aload_n 0) 1 1 (.getfield 242) 3 4 (.ifCond .lt 12) 3 7 (.aload_n 0) 1 8 (.getfield 242) 3 11 (.bipush 40) 2 13 (.if_icmp .lt 10) 3 23 (.aload_n 0) 1 := by decide +kernel
theorem b1t : DG8 c36 24 (.getfield 64) 3 27 (.aload_n 0) 1 28 (.getfield 242) 3 31 (.iload_n 1) 1 32 .iastore 1 33 (.aload_n 0) 1 34 .dup 1 35 (.getfield 242) 3 := by decide +kernel
theorem a6F : DG8 c36 38 (.iconst 1) 1 39 .iadd 1 40 (.putfield 242) 3 43 (.iconst 1) 1 44 .ireturn 1 16 (.aload_n 0) 1 17 (.iload_n 1) 1 18 (.invokevirtual 186) 3 := by decide +kernel
theorem b5Q : DG2 c36 21 (.iconst 0) 1 22 .ireturn 1 := by decide +kernel
abbrev c41 : ByteArray := prog_1_method_62_code
theorem a9Q : DG8 c41 0 (.aload_n 0) 1 1 (.iload_n 1) 1 2 (.invokevirtual 114) 3 5 (.ifCond .ne 5) 3 10 (.aload_n 0) 1 11 (.getfield 13) 3 14 (.iload_n 1) 1 15 .iaload 1 := by decide +kernel
theorem b0x : DG8 c41 16 (.aload_n 0) 1 17 (.getfield 87) 3 20 (.if_icmp .gt 16) 3 23 (.aload_n 0) 1 24 (.getfield 19) 3 27 (.iload_n 1) 1 28 .iaload 1 29 (.aload_n 0) 1 := by decide +kernel
theorem a54 : DG8 c41 30 (.getfield 91) 3 33 (.if_icmp .le 11) 3 44 (.iload_n 1) 1 45 .ireturn 1 36 (.aload_n 0) 1 37 (.iload_n 1) 1 38 (.invokevirtual 186) 3 41 (.bipush (-5)) 2 := by decide +kernel
theorem b4C : DG3 c41 43 .ireturn 1 8 (.iload_n 1) 1 9 .ireturn 1 := by decide +kernel
abbrev c43 : ByteArray := prog_1_method_70_code
theorem a89 : DG8 c43 0 (.aload_n 0) 1 1 (.iload_n 1) 1 2 (.invokevirtual 114) 3 5 (.ifCond .eq 13) 3 8 (.iload_n 2) 1 9 (.ifCond .lt 9) 3 12 (.iload_n 2) 1 13 (.bipush 8) 2 := by decide +kernel
theorem b0d : DG8 c43 15 (.if_icmp .lt 5) 3 20 (.aload_n 0) 1 21 (.getfield 25) 3 24 (.iload_n 1) 1 25 (.bipush 8) 2 27 .imul 1 28 (.iload_n 2) 1 29 .iadd 1 := by decide +kernel
theorem a6z : DG4 c43 30 .iaload 1 31 .ireturn 1 18 (.iconst 0) 1 19 .ireturn 1 := by decide +kernel
abbrev c44 : ByteArray := prog_1_method_53_code
theorem a9g : DG8 c44 0 (.iload_n 1) 1 1 (.bipush 43) 2 3 (.if_icmp .ne 7) 3 10 (.iload_n 1) 1 11 (.bipush 45) 2 13 (.if_icmp .ne 7) 3 20 (.iload_n 2) 1 21 (.iload_n 3) 1 := by decide +kernel
theorem b1l : DG8 c44 22 .imul 1 23 .ireturn 1 16 (.iload_n 2) 1 17 (.iload_n 3) 1 18 .isub 1 19 .ireturn 1 6 (.iload_n 2) 1 7 (.iload_n 3) 1 := by decide +kernel
theorem b5R : DG2 c44 8 .iadd 1 9 .ireturn 1 := by decide +kernel
abbrev c46 : ByteArray := prog_1_method_71_code
theorem a9L : DG8 c46 0 (.aload_n 0) 1 1 (.iload_n 1) 1 2 (.invokevirtual 309) 3 5 (.ifCond .ne 5) 3 10 (.aload_n 0) 1 11 (.iload_n 1) 1 12 (.invokevirtual 333) 3 15 (.istore_n 2) 1 := by decide +kernel
theorem a9P : DG8 c46 16 (.aload_n 0) 1 17 (.iload_n 2) 1 18 (.invokevirtual 114) 3 21 (.ifCond .ne 5) 3 26 (.iconst 1) 1 27 (.aload_n 0) 1 28 (.getfield 19) 3 31 (.iload_n 2) 1 := by decide +kernel
theorem a9C : DG7 c46 32 .iaload 1 33 .iadd 1 34 .ireturn 1 24 (.iconst 1) 1 25 .ireturn 1 8 (.iconst 1) 1 9 .ireturn 1 := by decide +kernel
abbrev c47 : ByteArray := prog_1_method_72_code
theorem a9T : DG8 c47 0 (.aload_n 0) 1 1 (.iload_n 1) 1 2 (.invokevirtual 309) 3 5 (.ifCond .ne 5) 3 10 (.aload_n 0) 1 11 (.iload_n 1) 1 12 (.invokevirtual 333) 3 15 (.istore_n 2) 1 := by decide +kernel
theorem b0q : DG8 c47 16 (.aload_n 0) 1 17 (.iload_n 2) 1 18 (.invokevirtual 114) 3 21 (.ifCond .ne 5) 3 26 (.aload_n 0) 1 27 (.getfield 22) 3 30 (.iload_n 2) 1 31 .iaload 1 := by decide +kernel
theorem b2F : DG5 c47 32 .ireturn 1 24 (.iconst 0) 1 25 .ireturn 1 8 (.iconst 0) 1 9 .ireturn 1 := by decide +kernel
abbrev c45 : ByteArray := prog_1_method_77_code
theorem a98 : DG8 c45 0 (.aload_n 0) 1 1 (.iload_n 1) 1 2 (.invokevirtual 114) 3 5 (.ifCond .eq 23) 3 8 (.aload_n 0) 1 9 (.getfield 13) 3 12 (.iload_n 1) 1 13 .iaload 1 := by decide +kernel
theorem a8Z : DG8 c45 14 (.ifCond .lt 14) 3 17 (.aload_n 0) 1 18 (.getfield 13) 3 21 (.iload_n 1) 1 22 .iaload 1 23 (.bipush 8) 2 25 (.if_icmp .lt 9) 3 34 (.aload_n 0) 1 := by decide +kernel
theorem a7A : DG8 c45 35 (.getfield 13) 3 38 (.iload_n 1) 1 39 .iaload 1 40 (.istore_n 3) 1 41 (.aload_n 0) 1 42 (.getfield 25) 3 45 (.iload_n 1) 1 46 (.bipush 8) 2 := by decide +kernel
theorem a8f : DG8 c45 48 .imul 1 49 (.iload_n 3) 1 50 .iadd 1 51 (.iload_n 2) 1 52 .iastore 1 53 (.aload_n 0) 1 54 (.getfield 13) 3 57 (.iload_n 1) 1 := by decide +kernel
theorem a7r : DG8 c45 58 (.iload_n 3) 1 59 (.iconst 1) 1 60 .iadd 1 61 .iastore 1 62 (.aload_n 0) 1 63 (.getfield 19) 3 66 (.iload_n 1) 1 67 .dup2 1 := by decide +kernel
theorem a7g : DG8 c45 68 .iaload 1 69 (.aload_n 0) 1 70 (.iload_n 2) 1 71 (.invokevirtual 125) 3 74 .iadd 1 75 .iastore 1 76 (.iconst 1) 1 77 (.aload_n 0) 1 := by decide +kernel
theorem a5d : DG8 c45 78 (.iload_n 2) 1 79 (.invokevirtual 339) 3 82 .iadd 1 83 (.istore 4) 2 85 (.aload_n 0) 1 86 (.iload_n 2) 1 87 (.invokevirtual 309) 3 90 (.ifCond .eq 22) 3 := by decide +kernel
theorem a5R : DG8 c45 93 (.iload 4) 2 95 (.aload_n 0) 1 96 (.getfield 22) 3 99 (.iload_n 1) 1 100 .iaload 1 101 (.if_icmp .le 11) 3 104 (.aload_n 0) 1 105 (.getfield 22) 3 := by decide +kernel
theorem a7v : DG6 c45 108 (.iload_n 1) 1 109 (.iload 4) 2 111 .iastore 1 112 .return_ 1 28 (.aload_n 0) 1 29 (.iload_n 2) 1 := by decide +kernel
abbrev c48 : ByteArray := prog_1_method_73_code
theorem a8O : DG8 c48 0 (.aload_n 0) 1 1 (.getfield 94) 3 4 (.ifCond .le 13) 3 7 (.aload_n 0) 1 8 (.getfield 94) 3 11 (.sipush 1024) 3 14 (.if_icmp .le 6) 3 20 (.aload_n 0) 1 := by decide +kernel
theorem b1i : DG8 c48 21 .dup 1 22 (.getfield 94) 3 25 (.iconst 1) 1 26 .isub 1 27 (.putfield 94) 3 30 (.aload_n 0) 1 31 (.getfield 28) 3 34 (.aload_n 0) 1 := by decide +kernel
theorem a53 : DG8 c48 35 (.getfield 94) 3 38 .iaload 1 39 (.istore_n 1) 1 40 (.aload_n 0) 1 41 (.iload_n 1) 1 42 (.invokevirtual 114) 3 45 (.ifCond .ne 6) 3 51 (.aload_n 0) 1 := by decide +kernel
theorem a6I : DG8 c48 52 (.getfield 16) 3 55 (.iload_n 1) 1 56 (.iconst 1) 1 57 .iastore 1 58 (.aload_n 0) 1 59 (.getfield 13) 3 62 (.iload_n 1) 1 63 (.iconst 0) 1 := by decide +kernel
theorem a7z : DG8 c48 64 .iastore 1 65 (.aload_n 0) 1 66 (.getfield 19) 3 69 (.iload_n 1) 1 70 (.iconst 0) 1 71 .iastore 1 72 (.aload_n 0) 1 73 (.getfield 22) 3 := by decide +kernel
theorem a5Q : DG8 c48 76 (.iload_n 1) 1 77 (.iconst 1) 1 78 .iastore 1 79 (.iload_n 1) 1 80 .ireturn 1 48 (.bipush (-5)) 2 50 .ireturn 1 17 (.bipush (-5)) 2 := by decide +kernel
theorem b5P : DG1 c48 19 .ireturn 1 := by decide +kernel
abbrev c42 : ByteArray := prog_1_method_52_code
theorem a91 : DG8 c42 0 (.aload_n 0) 1 1 (.getfield 22) 3 4 (.iload_n 2) 1 5 .iaload 1 6 (.iconst 1) 1 7 (.if_icmp .gt 13) 3 10 (.aload_n 0) 1 11 (.getfield 22) 3 := by decide +kernel
theorem b0m : DG8 c42 14 (.iload_n 3) 1 15 .iaload 1 16 (.iconst 1) 1 17 (.if_icmp .le 6) 3 23 (.aload_n 0) 1 24 (.getfield 13) 3 27 (.iload_n 2) 1 28 .iaload 1 := by decide +kernel
theorem a7E : DG8 c42 29 (.istore 4) 2 31 (.aload_n 0) 1 32 (.getfield 13) 3 35 (.iload_n 3) 1 36 .iaload 1 37 (.istore 5) 2 39 (.iload 4) 2 41 (.iload 5) 2 := by decide +kernel
theorem a3r : DG8 c42 43 (.if_icmp .eq 18) 3 46 (.iload 4) 2 48 (.iconst 1) 1 49 (.if_icmp .eq 12) 3 52 (.iload 5) 2 54 (.iconst 1) 1 55 (.if_icmp .eq 6) 3 61 (.iload 4) 2 := by decide +kernel
theorem a5n : DG8 c42 63 (.iconst 1) 1 64 (.if_icmp .ne 8) 3 72 (.iload 4) 2 67 (.iload 5) 2 69 (.goto 5) 3 74 (.istore 6) 2 76 (.aload_n 0) 1 77 (.invokevirtual 263) 3 := by decide +kernel
theorem a4h : DG8 c42 80 (.istore 7) 2 82 (.iload 7) 2 84 (.ifCond .ge 6) 3 90 (.iconst 0) 1 91 (.istore 8) 2 93 (.iload 8) 2 95 (.iload 6) 2 97 (.if_icmp .ge 98) 3 := by decide +kernel
theorem a3u : DG8 c42 100 (.iload 8) 2 102 (.bipush 8) 2 104 (.if_icmp .ge 91) 3 195 (.iload 7) 2 197 .ireturn 1 107 (.aload_n 0) 1 108 (.iload_n 2) 1 109 (.iload 4) 2 := by decide +kernel
theorem a5q : DG8 c42 111 (.iconst 1) 1 112 (.if_icmp .ne 7) 3 119 (.iload 8) 2 115 (.iconst 0) 1 116 (.goto 5) 3 121 (.invokevirtual 117) 3 124 (.istore 9) 2 126 (.aload_n 0) 1 := by decide +kernel
theorem a5g : DG8 c42 127 (.iload_n 3) 1 128 (.iload 5) 2 130 (.iconst 1) 1 131 (.if_icmp .ne 7) 3 138 (.iload 8) 2 134 (.iconst 0) 1 135 (.goto 5) 3 140 (.invokevirtual 117) 3 := by decide +kernel
theorem a8l : DG8 c42 143 (.istore 10) 2 145 (.aload_n 0) 1 146 (.iload_n 1) 1 147 (.iload 9) 2 149 (.iload 10) 2 151 (.invokevirtual 324) 3 154 (.istore 11) 2 156 (.iload 11) 2 := by decide +kernel
theorem a4Q : DG8 c42 158 (.sipush (-9999)) 3 161 (.if_icmp .lt 11) 3 164 (.iload 11) 2 166 (.sipush 9999) 3 169 (.if_icmp .le 12) 3 181 (.aload_n 0) 1 182 (.iload 7) 2 184 (.iload 11) 2 := by decide +kernel
theorem a7w : DG8 c42 186 (.invokevirtual 266) 3 189 (.iinc 8 1) 3 192 (.goto (-99)) 3 172 (.aload_n 0) 1 173 (.iload 7) 2 175 (.invokevirtual 186) 3 178 (.bipush (-5)) 2 180 .ireturn 1 := by decide +kernel
theorem a8e : DG6 c42 87 (.iload 7) 2 89 .ireturn 1 58 (.bipush (-4)) 2 60 .ireturn 1 20 (.bipush (-3)) 2 22 .ireturn 1 := by decide +kernel
abbrev c49 : ByteArray := prog_1_method_60_code
theorem b0v : DG8 c49 0 (.aload_n 0) 1 1 (.invokevirtual 263) 3 4 (.istore_n 2) 1 5 (.iload_n 2) 1 6 (.ifCond .ge 5) 3 11 (.aload_n 0) 1 12 (.iload_n 2) 1 13 (.iload_n 1) 1 := by decide +kernel
theorem b3Z : DG5 c49 14 (.invokevirtual 266) 3 17 (.iload_n 2) 1 18 .ireturn 1 9 (.iload_n 2) 1 10 .ireturn 1 := by decide +kernel
abbrev c53 : ByteArray := prog_1_method_74_code
theorem b0A : DG8 c53 0 (.aload_n 0) 1 1 (.iload_n 1) 1 2 (.invokevirtual 114) 3 5 (.ifCond .eq 13) 3 8 (.aload_n 0) 1 9 (.getfield 16) 3 12 (.iload_n 1) 1 13 .dup2 1 := by decide +kernel
theorem b3n : DG5 c53 14 .iaload 1 15 (.iconst 1) 1 16 .iadd 1 17 .iastore 1 18 .return_ 1 := by decide +kernel
abbrev c52 : ByteArray := prog_1_method_75_code
theorem a9J : DG8 c52 0 (.aload_n 0) 1 1 (.iload_n 1) 1 2 (.invokevirtual 309) 3 5 (.ifCond .eq 14) 3 8 (.aload_n 0) 1 9 (.iload_n 1) 1 10 (.invokevirtual 333) 3 13 (.istore_n 2) 1 := by decide +kernel
theorem b4f : DG4 c52 14 (.aload_n 0) 1 15 (.iload_n 2) 1 16 (.invokevirtual 183) 3 19 .return_ 1 := by decide +kernel
abbrev c51 : ByteArray := prog_1_method_78_code
theorem b08 : DG8 c51 0 (.aload_n 0) 1 1 (.iload_n 2) 1 2 (.invokevirtual 128) 3 5 (.aload_n 0) 1 6 (.iload_n 1) 1 7 (.iload_n 2) 1 8 (.invokevirtual 266) 3 11 .return_ 1 := by decide +kernel
abbrev c50 : ByteArray := prog_1_method_54_code
theorem b1D : DG8 c50 0 (.aload_n 0) 1 1 (.getfield 13) 3 4 (.iload_n 1) 1 5 .iaload 1 6 (.istore_n 3) 1 7 (.aload_n 0) 1 8 (.getfield 13) 3 11 (.iload_n 2) 1 := by decide +kernel
theorem a94 : DG8 c50 12 .iaload 1 13 (.istore 4) 2 15 (.iload_n 3) 1 16 (.iload 4) 2 18 .iadd 1 19 (.aload_n 0) 1 20 (.getfield 87) 3 23 (.if_icmp .gt 23) 3 := by decide +kernel
theorem a6G : DG8 c50 26 (.aload_n 0) 1 27 (.getfield 19) 3 30 (.iload_n 1) 1 31 .iaload 1 32 (.aload_n 0) 1 33 (.getfield 19) 3 36 (.iload_n 2) 1 37 .iaload 1 := by decide +kernel
theorem a6a : DG8 c50 38 .iadd 1 39 (.aload_n 0) 1 40 (.getfield 91) 3 43 (.if_icmp .le 6) 3 49 (.aload_n 0) 1 50 (.invokevirtual 263) 3 53 (.istore 5) 2 55 (.iload 5) 2 := by decide +kernel
theorem a4t : DG8 c50 57 (.ifCond .ge 6) 3 63 (.iconst 0) 1 64 (.istore 6) 2 66 (.iload 6) 2 68 (.iload_n 3) 1 69 (.if_icmp .ge 34) 3 72 (.iload 6) 2 74 (.bipush 8) 2 := by decide +kernel
theorem a4G : DG8 c50 76 (.if_icmp .ge 27) 3 103 (.iconst 0) 1 104 (.istore 6) 2 106 (.iload 6) 2 108 (.iload 4) 2 110 (.if_icmp .ge 34) 3 113 (.iload 6) 2 115 (.bipush 8) 2 := by decide +kernel
theorem a3s : DG8 c50 117 (.if_icmp .ge 27) 3 144 (.iload 5) 2 146 .ireturn 1 120 (.aload_n 0) 1 121 (.iload 5) 2 123 (.aload_n 0) 1 124 (.getfield 25) 3 127 (.iload_n 2) 1 := by decide +kernel
theorem a74 : DG8 c50 128 (.bipush 8) 2 130 .imul 1 131 (.iload 6) 2 133 .iadd 1 134 .iaload 1 135 (.invokevirtual 327) 3 138 (.iinc 6 1) 3 141 (.goto (-35)) 3 := by decide +kernel
theorem a7T : DG8 c50 79 (.aload_n 0) 1 80 (.iload 5) 2 82 (.aload_n 0) 1 83 (.getfield 25) 3 86 (.iload_n 1) 1 87 (.bipush 8) 2 89 .imul 1 90 (.iload 6) 2 := by decide +kernel
theorem a5M : DG8 c50 92 .iadd 1 93 .iaload 1 94 (.invokevirtual 327) 3 97 (.iinc 6 1) 3 100 (.goto (-34)) 3 60 (.iload 5) 2 62 .ireturn 1 46 (.bipush (-5)) 2 := by decide +kernel
theorem b5J : DG1 c50 48 .ireturn 1 := by decide +kernel
abbrev c54 : ByteArray := prog_1_method_81_code
theorem b04 : DG8 c54 0 (.aload_n 0) 1 1 (.getfield 67) 3 4 (.iconst 0) 1 5 (.iload_n 1) 1 6 .iastore 1 7 (.aload_n 0) 1 8 (.getfield 70) 3 11 (.iconst 0) 1 := by decide +kernel
theorem b1b : DG8 c54 12 (.iload_n 2) 1 13 .iastore 1 14 (.iconst 1) 1 15 (.istore_n 3) 1 16 (.iconst 0) 1 17 (.istore 4) 2 19 (.iload 4) 2 21 (.sipush 512) 3 := by decide +kernel
theorem a3G : DG8 c54 24 (.if_icmp .ge 111) 3 27 (.iload_n 3) 1 28 (.ifCond .le 107) 3 135 (.iload_n 3) 1 136 (.ifCond .ne 7) 3 143 (.iconst 0) 1 139 (.iconst 1) 1 140 (.goto 4) 3 := by decide +kernel
theorem a6i : DG8 c54 144 .ireturn 1 31 (.iinc 3 (-1)) 3 34 (.aload_n 0) 1 35 (.getfield 67) 3 38 (.iload_n 3) 1 39 .iaload 1 40 (.istore 5) 2 42 (.aload_n 0) 1 := by decide +kernel
theorem a51 : DG8 c54 43 (.getfield 70) 3 46 (.iload_n 3) 1 47 .iaload 1 48 (.istore 6) 2 50 (.iload 5) 2 52 (.iload 6) 2 54 (.if_icmp .eq 75) 3 129 (.iinc 4 1) 3 := by decide +kernel
theorem a52 : DG8 c54 132 (.goto (-113)) 3 57 (.aload_n 0) 1 58 (.iload 5) 2 60 (.invokevirtual 114) 3 63 (.ifCond .eq 12) 3 66 (.aload_n 0) 1 67 (.iload 6) 2 69 (.invokevirtual 114) 3 := by decide +kernel
theorem a5h : DG8 c54 72 (.ifCond .ne 5) 3 77 (.aload_n 0) 1 78 (.getfield 13) 3 81 (.iload 5) 2 83 .iaload 1 84 (.aload_n 0) 1 85 (.getfield 13) 3 88 (.iload 6) 2 := by decide +kernel
theorem a5v : DG8 c54 90 .iaload 1 91 (.if_icmp .ne 20) 3 94 (.aload_n 0) 1 95 (.getfield 19) 3 98 (.iload 5) 2 100 .iaload 1 101 (.aload_n 0) 1 102 (.getfield 19) 3 := by decide +kernel
theorem a4m : DG8 c54 105 (.iload 6) 2 107 .iaload 1 108 (.if_icmp .eq 5) 3 113 (.aload_n 0) 1 114 (.iload 5) 2 116 (.iload 6) 2 118 (.iload_n 3) 1 111 (.iconst 0) 1 := by decide +kernel
theorem b02 : DG3 c54 112 .ireturn 1 75 (.iconst 0) 1 76 .ireturn 1 := by decide +kernel
abbrev c40 : ByteArray := prog_1_method_51_code
theorem a8I : DG8 c40 0 (.aload_n 0) 1 1 (.iload_n 2) 1 2 (.invokevirtual 114) 3 5 (.ifCond .eq 11) 3 8 (.aload_n 0) 1 9 (.iload_n 3) 1 10 (.invokevirtual 114) 3 13 (.ifCond .ne 6) 3 := by decide +kernel
theorem a80 : DG8 c40 19 (.iload_n 1) 1 20 (.bipush 43) 2 22 (.if_icmp .eq 15) 3 25 (.iload_n 1) 1 26 (.bipush 45) 2 28 (.if_icmp .eq 9) 3 31 (.iload_n 1) 1 32 (.bipush 42) 2 := by decide +kernel
theorem a3k : DG8 c40 34 (.if_icmp .ne 15) 3 49 (.iload_n 1) 1 50 (.bipush 44) 2 52 (.if_icmp .ne 14) 3 66 (.iload_n 1) 1 67 (.bipush 35) 2 69 (.if_icmp .ne 14) 3 83 (.iload_n 1) 1 := by decide +kernel
theorem a5l : DG8 c40 84 (.bipush 61) 2 86 (.if_icmp .ne 30) 3 116 (.aload_n 0) 1 117 (.iload_n 2) 1 118 (.iload_n 3) 1 89 (.aload_n 0) 1 90 (.iload_n 2) 1 91 (.iload_n 3) 1 := by decide +kernel
theorem a5H : DG8 c40 92 (.invokevirtual 148) 3 95 (.istore 5) 2 97 (.aload_n 0) 1 98 (.iload 5) 2 100 (.ifCond .eq 7) 3 107 (.iconst 0) 1 103 (.iconst 1) 1 104 (.goto 4) 3 := by decide +kernel
theorem a68 : DG8 c40 108 (.invokevirtual 291) 3 111 (.istore 4) 2 113 (.goto 11) 3 72 (.aload_n 0) 1 73 (.iload_n 2) 1 74 (.iload_n 3) 1 55 (.aload_n 0) 1 56 (.iload_n 2) 1 := by decide +kernel
theorem a72 : DG8 c40 57 (.iload_n 3) 1 58 (.invokevirtual 315) 3 61 (.istore 4) 2 63 (.goto 61) 3 37 (.aload_n 0) 1 38 (.iload_n 1) 1 39 (.iload_n 2) 1 40 (.iload_n 3) 1 := by decide +kernel
theorem a6f : DG8 c40 41 (.invokevirtual 312) 3 44 (.istore 4) 2 46 (.goto 78) 3 124 (.aload_n 0) 1 125 (.iload 4) 2 127 (.invokevirtual 297) 3 130 .ireturn 1 16 (.bipush (-5)) 2 := by decide +kernel
theorem b55 : DG1 c40 18 .ireturn 1 := by decide +kernel
abbrev c56 : ByteArray := prog_1_method_61_code
theorem b07 : DG8 c56 0 (.aload_n 0) 1 1 (.iload_n 1) 1 2 (.iload_n 2) 1 3 (.invokevirtual 117) 3 6 (.istore_n 3) 1 7 (.aload_n 0) 1 8 (.iload_n 3) 1 9 (.invokevirtual 309) 3 := by decide +kernel
theorem b0D : DG8 c56 12 (.ifCond .eq 31) 3 43 (.aload_n 0) 1 44 (.iload_n 3) 1 45 (.invokevirtual 291) 3 48 .ireturn 1 15 (.aload_n 0) 1 16 (.iload_n 3) 1 17 (.invokevirtual 333) 3 := by decide +kernel
theorem a5k : DG8 c56 20 (.istore 4) 2 22 (.aload_n 0) 1 23 (.iload 4) 2 25 (.invokevirtual 114) 3 28 (.ifCond .ne 6) 3 34 (.aload_n 0) 1 35 (.iload 4) 2 37 (.invokevirtual 183) 3 := by decide +kernel
theorem b3t : DG4 c56 40 (.iload 4) 2 42 .ireturn 1 31 (.bipush (-5)) 2 33 .ireturn 1 := by decide +kernel
abbrev c55 : ByteArray := prog_1_method_59_code
theorem a9V : DG8 c55 0 (.aload_n 0) 1 1 (.iload_n 2) 1 2 (.invokevirtual 114) 3 5 (.ifCond .ne 6) 3 11 (.aload_n 0) 1 12 (.getfield 13) 3 15 (.iload_n 2) 1 16 .iaload 1 := by decide +kernel
theorem a81 : DG8 c55 17 (.istore_n 3) 1 18 (.iload_n 3) 1 19 (.ifCond .ne 38) 3 57 (.iload_n 3) 1 58 (.bipush 8) 2 60 (.if_icmp .le 6) 3 63 (.bipush 8) 2 65 (.istore_n 3) 1 := by decide +kernel
theorem a7C : DG8 c55 66 (.aload_n 0) 1 67 (.iload_n 2) 1 68 (.iload_n 3) 1 69 (.iconst 1) 1 70 .isub 1 71 (.invokevirtual 300) 3 74 (.istore 4) 2 76 (.iload 4) 2 := by decide +kernel
theorem a4J : DG8 c55 78 (.ifCond .ge 6) 3 84 (.iload_n 3) 1 85 (.iconst 2) 1 86 .isub 1 87 (.istore 5) 2 89 (.iload 5) 2 91 (.ifCond .lt 74) 3 94 (.iload 5) 2 := by decide +kernel
theorem a5O : DG8 c55 96 (.bipush 8) 2 98 (.if_icmp .ge 67) 3 165 (.aload_n 0) 1 166 (.iload 4) 2 168 (.invokevirtual 297) 3 171 .ireturn 1 101 (.aload_n 0) 1 102 (.iload_n 2) 1 := by decide +kernel
theorem a50 : DG8 c55 103 (.iload 5) 2 105 (.invokevirtual 300) 3 108 (.istore 6) 2 110 (.iload 6) 2 112 (.ifCond .ge 12) 3 124 (.aload_n 0) 1 125 (.iload_n 1) 1 126 (.iload 6) 2 := by decide +kernel
theorem a7l : DG8 c55 128 (.iload 4) 2 130 (.invokevirtual 270) 3 133 (.istore 7) 2 135 (.aload_n 0) 1 136 (.iload 6) 2 138 (.invokevirtual 186) 3 141 (.aload_n 0) 1 142 (.iload 4) 2 := by decide +kernel
theorem a5B : DG8 c55 144 (.invokevirtual 186) 3 147 (.iload 7) 2 149 (.ifCond .ge 6) 3 155 (.iload 7) 2 157 (.istore 4) 2 159 (.iinc 5 (-1)) 3 162 (.goto (-73)) 3 152 (.iload 7) 2 := by decide +kernel
theorem a7p : DG8 c55 154 .ireturn 1 115 (.aload_n 0) 1 116 (.iload 4) 2 118 (.invokevirtual 186) 3 121 (.iload 6) 2 123 .ireturn 1 81 (.iload 4) 2 83 .ireturn 1 := by decide +kernel
theorem a4d : DG8 c55 22 (.iload_n 1) 1 23 (.bipush 43) 2 25 (.if_icmp .eq 9) 3 28 (.iload_n 1) 1 29 (.bipush 45) 2 31 (.if_icmp .ne 9) 3 40 (.iload_n 1) 1 41 (.bipush 42) 2 := by decide +kernel
theorem a4p : DG8 c55 43 (.if_icmp .ne 11) 3 54 (.bipush (-4)) 2 46 (.aload_n 0) 1 47 (.iconst 1) 1 48 (.invokevirtual 291) 3 51 (.goto 5) 3 56 .ireturn 1 34 (.aload_n 0) 1 := by decide +kernel
theorem b2K : DG5 c55 35 (.iconst 0) 1 36 (.invokevirtual 291) 3 39 .ireturn 1 8 (.bipush (-5)) 2 10 .ireturn 1 := by decide +kernel
abbrev c58 : ByteArray := prog_1_method_46_code
theorem b0k : DG8 c58 0 (.aload_n 0) 1 1 (.getfield 22) 3 4 (.iload_n 1) 1 5 .iaload 1 6 (.iconst 1) 1 7 (.if_icmp .le 6) 3 13 (.aload_n 0) 1 14 (.invokevirtual 263) 3 := by decide +kernel
theorem a9N : DG8 c58 17 (.istore_n 2) 1 18 (.iload_n 2) 1 19 (.ifCond .ge 5) 3 24 (.aload_n 0) 1 25 (.getfield 13) 3 28 (.iload_n 1) 1 29 .iaload 1 30 (.istore_n 3) 1 := by decide +kernel
theorem a4F : DG8 c58 31 (.iconst 0) 1 32 (.istore 4) 2 34 (.iload 4) 2 36 (.iload_n 3) 1 37 (.if_icmp .ge 38) 3 40 (.iload 4) 2 42 (.bipush 8) 2 44 (.if_icmp .ge 31) 3 := by decide +kernel
theorem a4A : DG8 c58 75 (.iload_n 2) 1 76 .ireturn 1 47 (.aload_n 0) 1 48 (.getfield 25) 3 51 (.iload_n 1) 1 52 (.bipush 8) 2 54 .imul 1 55 (.iload 4) 2 := by decide +kernel
theorem a7L : DG8 c58 57 .iadd 1 58 .iaload 1 59 (.istore 5) 2 61 (.aload_n 0) 1 62 (.iload_n 2) 1 63 (.iload 5) 2 65 .ineg 1 66 (.invokevirtual 266) 3 := by decide +kernel
theorem b0P : DG6 c58 69 (.iinc 4 1) 3 72 (.goto (-38)) 3 22 (.iload_n 2) 1 23 .ireturn 1 10 (.bipush (-3)) 2 12 .ireturn 1 := by decide +kernel
abbrev c60 : ByteArray := prog_1_method_68_code
theorem b44 : DG4 c60 0 (.ldc_w 342) 3 3 (.iload_n 1) 1 4 .iadd 1 5 .ireturn 1 := by decide +kernel
abbrev c59 : ByteArray := prog_1_method_47_code
theorem b1k : DG8 c59 0 (.iconst 1) 1 1 (.aload_n 0) 1 2 (.getfield 19) 3 5 (.iload_n 1) 1 6 .iaload 1 7 .iadd 1 8 (.aload_n 0) 1 9 (.getfield 91) 3 := by decide +kernel
theorem a8T : DG8 c59 12 (.if_icmp .le 6) 3 18 (.aload_n 0) 1 19 (.invokevirtual 263) 3 22 (.istore_n 2) 1 23 (.iload_n 2) 1 24 (.ifCond .ge 5) 3 29 (.aload_n 0) 1 30 (.iload_n 1) 1 := by decide +kernel
theorem a7X : DG8 c59 31 (.invokevirtual 183) 3 34 (.aload_n 0) 1 35 (.iload_n 1) 1 36 (.invokevirtual 121) 3 39 (.istore_n 3) 1 40 (.aload_n 0) 1 41 (.iload_n 2) 1 42 (.iload_n 3) 1 := by decide +kernel
theorem a9o : DG7 c59 43 (.invokevirtual 266) 3 46 (.iload_n 2) 1 47 .ireturn 1 27 (.iload_n 2) 1 28 .ireturn 1 15 (.bipush (-5)) 2 17 .ireturn 1 := by decide +kernel
abbrev c57 : ByteArray := prog_1_method_45_code
theorem a83 : DG8 c57 0 (.aload_n 0) 1 1 (.iload_n 2) 1 2 (.invokevirtual 114) 3 5 (.ifCond .ne 6) 3 11 (.iload_n 1) 1 12 (.bipush 45) 2 14 (.if_icmp .ne 12) 3 26 (.iload_n 1) 1 := by decide +kernel
theorem a67 : DG8 c57 27 (.bipush 60) 2 29 (.if_icmp .ne 12) 3 41 (.iload_n 1) 1 42 (.bipush 62) 2 44 (.if_icmp .ne 12) 3 56 (.iload_n 1) 1 57 (.bipush 61) 2 59 (.if_icmp .ne 17) 3 := by decide +kernel
theorem a6g : DG8 c57 76 (.iload_n 1) 1 77 (.bipush 35) 2 79 (.if_icmp .ne 17) 3 96 (.aload_n 0) 1 97 (.iload_n 2) 1 82 (.aload_n 0) 1 83 (.aload_n 0) 1 84 (.getfield 13) 3 := by decide +kernel
theorem a7F : DG8 c57 87 (.iload_n 2) 1 88 .iaload 1 89 (.invokevirtual 291) 3 92 (.istore_n 3) 1 93 (.goto 9) 3 62 (.aload_n 0) 1 63 (.aload_n 0) 1 64 (.getfield 22) 3 := by decide +kernel
theorem a6Z : DG8 c57 67 (.iload_n 2) 1 68 .iaload 1 69 (.invokevirtual 291) 3 72 (.istore_n 3) 1 73 (.goto 29) 3 47 (.aload_n 0) 1 48 (.iload_n 2) 1 32 (.aload_n 0) 1 := by decide +kernel
theorem a7t : DG8 c57 33 (.iload_n 2) 1 34 (.invokevirtual 285) 3 37 (.istore_n 3) 1 38 (.goto 64) 3 17 (.aload_n 0) 1 18 (.iload_n 2) 1 19 (.invokevirtual 282) 3 22 (.istore_n 3) 1 := by decide +kernel
theorem a9t : DG7 c57 23 (.goto 79) 3 102 (.aload_n 0) 1 103 (.iload_n 3) 1 104 (.invokevirtual 297) 3 107 .ireturn 1 8 (.bipush (-5)) 2 10 .ireturn 1 := by decide +kernel
abbrev c39 : ByteArray := prog_1_method_44_code
theorem b1z : DG8 c39 0 (.aload_n 0) 1 1 (.getfield 43) 3 4 (.iload_n 1) 1 5 .iaload 1 6 (.istore_n 2) 1 7 (.aload_n 0) 1 8 (.getfield 46) 3 11 (.iload_n 1) 1 := by decide +kernel
theorem b0p : DG8 c39 12 .iaload 1 13 (.istore_n 3) 1 14 (.iload_n 2) 1 15 (.bipush 100) 2 17 (.if_icmp .ne 85) 3 102 (.aload_n 0) 1 103 (.getfield 242) 3 106 (.iconst 1) 1 := by decide +kernel
theorem a4l : DG8 c39 107 (.if_icmp .lt 12) 3 110 (.aload_n 0) 1 111 (.getfield 242) 3 114 (.bipush 40) 2 116 (.if_icmp .le 6) 3 122 (.aload_n 0) 1 123 .dup 1 124 (.getfield 242) 3 := by decide +kernel
theorem a76 : DG8 c39 127 (.iconst 1) 1 128 .isub 1 129 (.putfield 242) 3 132 (.aload_n 0) 1 133 (.getfield 64) 3 136 (.aload_n 0) 1 137 (.getfield 242) 3 140 .iaload 1 := by decide +kernel
theorem a4r : DG8 c39 141 (.istore 4) 2 143 (.iload_n 2) 1 144 (.bipush 126) 2 146 (.if_icmp .ne 15) 3 161 (.iload_n 2) 1 162 (.bipush 47) 2 164 (.if_icmp .ne 15) 3 179 (.aload_n 0) 1 := by decide +kernel
theorem a7m : DG8 c39 180 (.iload_n 3) 1 181 (.iload 4) 2 183 (.invokevirtual 279) 3 186 (.istore 5) 2 167 (.aload_n 0) 1 168 (.iload_n 3) 1 169 (.iload 4) 2 171 (.invokevirtual 276) 3 := by decide +kernel
theorem a6W : DG8 c39 174 (.istore 5) 2 176 (.goto 12) 3 188 (.aload_n 0) 1 189 (.iload 4) 2 191 (.invokevirtual 186) 3 194 (.iload 5) 2 196 .ireturn 1 149 (.aload_n 0) 1 := by decide +kernel
theorem a3g : DG8 c39 150 (.iload_n 3) 1 151 (.iload 4) 2 119 (.bipush (-5)) 2 121 .ireturn 1 20 (.aload_n 0) 1 21 (.getfield 242) 3 24 (.iconst 2) 1 25 (.if_icmp .lt 12) 3 := by decide +kernel
theorem a5V : DG8 c39 28 (.aload_n 0) 1 29 (.getfield 242) 3 32 (.bipush 40) 2 34 (.if_icmp .le 6) 3 40 (.aload_n 0) 1 41 (.getfield 64) 3 44 (.aload_n 0) 1 45 (.getfield 242) 3 := by decide +kernel
theorem a8g : DG8 c39 48 (.iconst 1) 1 49 .isub 1 50 .iaload 1 51 (.istore 4) 2 53 (.aload_n 0) 1 54 (.getfield 64) 3 57 (.aload_n 0) 1 58 (.getfield 242) 3 := by decide +kernel
theorem a6U : DG8 c39 61 (.iconst 2) 1 62 .isub 1 63 .iaload 1 64 (.istore 5) 2 66 (.aload_n 0) 1 67 .dup 1 68 (.getfield 242) 3 71 (.iconst 2) 1 := by decide +kernel
theorem a8j : DG8 c39 72 .isub 1 73 (.putfield 242) 3 76 (.aload_n 0) 1 77 (.iload_n 3) 1 78 (.iload 4) 2 80 (.iload 5) 2 82 (.invokevirtual 270) 3 85 (.istore 6) 2 := by decide +kernel
theorem a8c : DG8 c39 87 (.aload_n 0) 1 88 (.iload 4) 2 90 (.invokevirtual 186) 3 93 (.aload_n 0) 1 94 (.iload 5) 2 96 (.invokevirtual 186) 3 99 (.iload 6) 2 101 .ireturn 1 := by decide +kernel
theorem b15 : DG2 c39 37 (.bipush (-5)) 2 39 .ireturn 1 := by decide +kernel
abbrev c62 : ByteArray := prog_1_method_43_code
theorem b0c : DG8 c62 0 (.iload_n 2) 1 1 (.aload_n 0) 1 2 (.getfield 87) 3 5 (.if_icmp .le 6) 3 11 (.aload_n 0) 1 12 (.invokevirtual 263) 3 15 (.istore_n 3) 1 16 (.iload_n 3) 1 := by decide +kernel
theorem a8X : DG8 c62 17 (.ifCond .ge 5) 3 22 (.iconst 0) 1 23 (.istore 4) 2 25 (.iload 4) 2 27 (.iload_n 2) 1 28 (.if_icmp .ge 46) 3 31 (.iload 4) 2 33 (.bipush 8) 2 := by decide +kernel
theorem a3C : DG8 c62 35 (.if_icmp .ge 39) 3 74 (.iload_n 3) 1 75 .ireturn 1 38 (.iload_n 1) 1 39 (.iload 4) 2 41 .iadd 1 42 (.istore 5) 2 44 (.iload 5) 2 := by decide +kernel
theorem a4v : DG8 c62 46 (.ifCond .lt 22) 3 49 (.iload 5) 2 51 (.bipush 33) 2 53 (.if_icmp .ge 15) 3 56 (.aload_n 0) 1 57 (.iload_n 3) 1 58 (.aload_n 0) 1 59 (.getfield 40) 3 := by decide +kernel
theorem a7P : DG8 c62 62 (.iload 5) 2 64 .iaload 1 65 (.invokevirtual 266) 3 68 (.iinc 4 1) 3 71 (.goto (-46)) 3 20 (.iload_n 3) 1 21 .ireturn 1 8 (.bipush (-5)) 2 := by decide +kernel
theorem b6V : DG1 c62 10 .ireturn 1 := by decide +kernel
abbrev c61 : ByteArray := prog_1_method_42_code
theorem a90 : DG8 c61 0 (.aload_n 0) 1 1 (.getfield 43) 3 4 (.iload_n 1) 1 5 .iaload 1 6 (.bipush 118) 2 8 (.if_icmp .ne 52) 3 60 (.aload_n 0) 1 61 (.aload_n 0) 1 := by decide +kernel
theorem b1m : DG8 c61 62 (.getfield 49) 3 65 (.iload_n 1) 1 66 .iaload 1 67 (.aload_n 0) 1 68 (.getfield 52) 3 71 (.iload_n 1) 1 72 .iaload 1 73 (.invokevirtual 260) 3 := by decide +kernel
theorem a5A : DG8 c61 76 .ireturn 1 11 (.aload_n 0) 1 12 (.getfield 49) 3 15 (.iload_n 1) 1 16 .iaload 1 17 (.istore_n 2) 1 18 (.iload_n 2) 1 19 (.ifCond .lt 21) 3 := by decide +kernel
theorem a5w : DG8 c61 22 (.iload_n 2) 1 23 (.iconst 3) 1 24 (.if_icmp .gt 16) 3 27 (.aload_n 0) 1 28 (.aload_n 0) 1 29 (.getfield 34) 3 32 (.iload_n 2) 1 33 .iaload 1 := by decide +kernel
theorem a5U : DG8 c61 34 (.invokevirtual 114) 3 37 (.ifCond .ne 6) 3 43 (.aload_n 0) 1 44 (.aload_n 0) 1 45 (.getfield 34) 3 48 (.iload_n 2) 1 49 .iaload 1 50 (.invokevirtual 183) 3 := by decide +kernel
theorem a3H : DG7 c61 53 (.aload_n 0) 1 54 (.getfield 34) 3 57 (.iload_n 2) 1 58 .iaload 1 59 .ireturn 1 40 (.bipush (-2)) 2 42 .ireturn 1 := by decide +kernel
abbrev c63 : ByteArray := prog_1_method_39_code
theorem a8P : DG8 c63 0 (.iload_n 2) 1 1 (.ifCond .lt 11) 3 4 (.iload_n 2) 1 5 (.iconst 2) 1 6 .iadd 1 7 (.bipush 80) 2 9 (.if_icmp .le 5) 3 14 (.aload_n 0) 1 := by decide +kernel
theorem b0e : DG8 c63 15 (.getfield 43) 3 18 (.iload_n 1) 1 19 .iaload 1 20 (.bipush 100) 2 22 (.if_icmp .ne 49) 3 71 (.aload_n 0) 1 72 (.getfield 58) 3 75 (.iload_n 2) 1 := by decide +kernel
theorem a6J : DG8 c63 76 (.aload_n 0) 1 77 (.getfield 49) 3 80 (.iload_n 1) 1 81 .iaload 1 82 .iastore 1 83 (.aload_n 0) 1 84 (.getfield 61) 3 87 (.iload_n 2) 1 := by decide +kernel
theorem a7d : DG8 c63 88 (.iconst 0) 1 89 .iastore 1 90 (.iload_n 2) 1 91 (.iconst 1) 1 92 .iadd 1 93 .ireturn 1 25 (.aload_n 0) 1 26 (.getfield 58) 3 := by decide +kernel
theorem a75 : DG8 c63 29 (.iload_n 2) 1 30 (.aload_n 0) 1 31 (.getfield 49) 3 34 (.iload_n 1) 1 35 .iaload 1 36 .iastore 1 37 (.aload_n 0) 1 38 (.getfield 61) 3 := by decide +kernel
theorem a77 : DG8 c63 41 (.iload_n 2) 1 42 (.iconst 0) 1 43 .iastore 1 44 (.aload_n 0) 1 45 (.getfield 58) 3 48 (.iload_n 2) 1 49 (.iconst 1) 1 50 .iadd 1 := by decide +kernel
theorem a7V : DG8 c63 51 (.aload_n 0) 1 52 (.getfield 52) 3 55 (.iload_n 1) 1 56 .iaload 1 57 .iastore 1 58 (.aload_n 0) 1 59 (.getfield 61) 3 62 (.iload_n 2) 1 := by decide +kernel
theorem a7K : DG8 c63 63 (.iconst 1) 1 64 .iadd 1 65 (.iconst 0) 1 66 .iastore 1 67 (.iload_n 2) 1 68 (.iconst 2) 1 69 .iadd 1 70 .ireturn 1 := by decide +kernel
theorem b3T : DG2 c63 12 (.iconst (-1)) 1 13 .ireturn 1 := by decide +kernel
abbrev c35 : ByteArray := prog_1_method_38_code
theorem b1w : DG8 c35 0 (.aload_n 0) 1 1 (.iconst 0) 1 2 (.putfield 242) 3 5 (.aload_n 0) 1 6 (.getfield 58) 3 9 (.iconst 0) 1 10 (.aload_n 0) 1 11 (.getfield 204) 3 := by decide +kernel
theorem b1o : DG8 c35 14 .iastore 1 15 (.aload_n 0) 1 16 (.getfield 61) 3 19 (.iconst 0) 1 20 (.iconst 0) 1 21 .iastore 1 22 (.iconst 1) 1 23 (.istore_n 1) 1 := by decide +kernel
theorem a4I : DG8 c35 24 (.iconst 0) 1 25 (.istore_n 2) 1 26 (.iload_n 2) 1 27 (.sipush 200) 3 30 (.if_icmp .ge 170) 3 33 (.iload_n 1) 1 34 (.ifCond .le 166) 3 37 (.iload_n 1) 1 := by decide +kernel
theorem a3y : DG8 c35 38 (.bipush 80) 2 40 (.if_icmp .gt 160) 3 200 (.iload_n 1) 1 201 (.ifCond .ne 11) 3 204 (.aload_n 0) 1 205 (.getfield 242) 3 208 (.iconst 1) 1 209 (.if_icmp .eq 10) 3 := by decide +kernel
theorem a6K : DG8 c35 219 (.aload_n 0) 1 220 (.iconst 0) 1 221 (.putfield 242) 3 224 (.aload_n 0) 1 225 (.getfield 64) 3 228 (.iconst 0) 1 229 .iaload 1 230 .ireturn 1 := by decide +kernel
theorem a65 : DG8 c35 212 (.aload_n 0) 1 213 (.bipush (-5)) 2 43 (.aload_n 0) 1 44 (.getfield 58) 3 47 (.iload_n 1) 1 48 (.iconst 1) 1 49 .isub 1 50 .iaload 1 := by decide +kernel
theorem a4N : DG8 c35 51 (.istore_n 3) 1 52 (.iload_n 3) 1 53 (.ifCond .lt 11) 3 56 (.iload_n 3) 1 57 (.aload_n 0) 1 58 (.getfield 198) 3 61 (.if_icmp .lt 10) 3 71 (.aload_n 0) 1 := by decide +kernel
theorem a5C : DG8 c35 72 (.getfield 43) 3 75 (.iload_n 3) 1 76 .iaload 1 77 (.istore 4) 2 79 (.iload 4) 2 81 (.bipush 110) 2 83 (.if_icmp .eq 10) 3 86 (.iload 4) 2 := by decide +kernel
theorem a4s : DG8 c35 88 (.bipush 118) 2 90 (.if_icmp .ne 7) 3 97 (.iconst 0) 1 93 (.iconst 1) 1 94 (.goto 4) 3 98 (.istore 5) 2 100 (.iload 5) 2 102 (.ifCond .ne 41) 3 := by decide +kernel
theorem a5z : DG8 c35 105 (.aload_n 0) 1 106 (.getfield 61) 3 109 (.iload_n 1) 1 110 (.iconst 1) 1 111 .isub 1 112 .iaload 1 113 (.ifCond .ne 30) 3 143 (.iinc 1 (-1)) 3 := by decide +kernel
theorem a5o : DG8 c35 146 (.iload 5) 2 148 (.ifCond .eq 11) 3 159 (.aload_n 0) 1 160 (.iload_n 3) 1 161 (.invokevirtual 254) 3 151 (.aload_n 0) 1 152 (.iload_n 3) 1 153 (.invokevirtual 251) 3 := by decide +kernel
theorem a4j : DG8 c35 156 (.goto 8) 3 164 (.istore 6) 2 166 (.iload 6) 2 168 (.ifCond .ge 10) 3 178 (.aload_n 0) 1 179 (.iload 6) 2 181 (.invokevirtual 257) 3 184 (.ifCond .ne 10) 3 := by decide +kernel
theorem a60 : DG8 c35 187 (.aload_n 0) 1 188 (.bipush (-5)) 2 171 (.aload_n 0) 1 172 (.iload 6) 2 116 (.aload_n 0) 1 117 (.getfield 61) 3 120 (.iload_n 1) 1 121 (.iconst 1) 1 := by decide +kernel
theorem a3I : DG8 c35 122 .isub 1 123 (.iconst 1) 1 124 .iastore 1 125 (.aload_n 0) 1 126 (.iload_n 3) 1 127 (.iload_n 1) 1 128 (.invokevirtual 248) 3 131 (.istore_n 1) 1 := by decide +kernel
theorem a27 : DG8 c35 132 (.iload_n 1) 1 133 (.ifCond .ge 61) 3 194 (.iinc 2 1) 3 197 (.goto (-171)) 3 136 (.aload_n 0) 1 137 (.bipush (-5)) 2 64 (.aload_n 0) 1 65 (.bipush (-5)) 2 := by decide +kernel
abbrev c64 : ByteArray := prog_1_method_24_code
theorem a9k : DG8 c64 0 (.aload_n 0) 1 1 (.getfield 180) 3 4 (.ifCond .lt 41) 3 7 (.aload_n 0) 1 8 (.getfield 180) 3 11 (.iconst 3) 1 12 (.if_icmp .gt 33) 3 15 (.aload_n 0) 1 := by decide +kernel
theorem b1A : DG8 c64 16 (.iload_n 1) 1 17 (.invokevirtual 183) 3 20 (.aload_n 0) 1 21 (.getfield 34) 3 24 (.aload_n 0) 1 25 (.getfield 180) 3 28 .iaload 1 29 (.istore_n 2) 1 := by decide +kernel
theorem a6R : DG8 c64 30 (.aload_n 0) 1 31 (.getfield 34) 3 34 (.aload_n 0) 1 35 (.getfield 180) 3 38 (.iload_n 1) 1 39 .iastore 1 40 (.aload_n 0) 1 41 (.iload_n 2) 1 := by decide +kernel
theorem a7n : DG8 c64 42 (.invokevirtual 186) 3 45 (.aload_n 0) 1 46 (.getfield 34) 3 49 (.iconst 4) 1 50 .iaload 1 51 (.istore_n 2) 1 52 (.aload_n 0) 1 53 (.getfield 34) 3 := by decide +kernel
theorem a7u : DG8 c64 56 (.iconst 4) 1 57 (.iload_n 1) 1 58 .iastore 1 59 (.aload_n 0) 1 60 (.iload_n 2) 1 61 (.invokevirtual 186) 3 64 (.aload_n 0) 1 65 (.iconst (-1)) 1 := by decide +kernel
theorem b5D : DG2 c64 66 (.putfield 100) 3 69 .return_ 1 := by decide +kernel
abbrev c21 : ByteArray := prog_1_method_23_code
theorem a8V : DG8 c21 0 (.aload_n 0) 1 1 (.invokevirtual 167) 3 4 (.ifCond .ne 5) 3 9 (.aload_n 0) 1 10 (.invokevirtual 171) 3 13 (.ifCond .ne 5) 3 18 (.aload_n 0) 1 19 (.invokevirtual 174) 3 := by decide +kernel
theorem b0n : DG8 c21 22 (.istore_n 1) 1 23 (.iload_n 1) 1 24 (.ifCond .ge 6) 3 30 (.aload_n 0) 1 31 (.iload_n 1) 1 32 (.invokevirtual 177) 3 35 (.iconst 0) 1 36 .ireturn 1 := by decide +kernel
theorem a9p : DG7 c21 27 (.iload_n 1) 1 28 .ineg 1 29 .ireturn 1 16 (.iconst 1) 1 17 .ireturn 1 7 (.iconst 1) 1 8 .ireturn 1 := by decide +kernel
abbrev c20 : ByteArray := prog_1_method_8_code
theorem b1v : DG8 c20 0 (.aload_n 0) 1 1 (.invokevirtual 110) 3 4 (.istore_n 1) 1 5 (.aload_n 0) 1 6 (.iconst 0) 1 7 (.putfield 97) 3 10 (.iload_n 1) 1 11 .ireturn 1 := by decide +kernel
abbrev c65 : ByteArray := prog_1_method_11_code
theorem a9M : DG8 c65 0 (.aload_n 0) 1 1 (.iload_n 1) 1 2 (.invokevirtual 142) 3 5 (.ifCond .ne 5) 3 10 (.aload_n 0) 1 11 (.getfield 13) 3 14 (.aload_n 0) 1 15 (.getfield 34) 3 := by decide +kernel
theorem b3j : DG6 c65 18 (.iload_n 1) 1 19 .iaload 1 20 .iaload 1 21 .ireturn 1 8 (.iconst (-1)) 1 9 .ireturn 1 := by decide +kernel
abbrev c66 : ByteArray := prog_1_method_12_code
theorem b0j : DG8 c66 0 (.aload_n 0) 1 1 (.iload_n 1) 1 2 (.invokevirtual 142) 3 5 (.ifCond .ne 5) 3 10 (.aload_n 0) 1 11 (.getfield 19) 3 14 (.aload_n 0) 1 15 (.getfield 34) 3 := by decide +kernel
theorem b3l : DG6 c66 18 (.iload_n 1) 1 19 .iaload 1 20 .iaload 1 21 .ireturn 1 8 (.iconst (-1)) 1 9 .ireturn 1 := by decide +kernel
abbrev c67 : ByteArray := prog_1_method_13_code
theorem a9F : DG8 c67 0 (.aload_n 0) 1 1 (.iload_n 1) 1 2 (.invokevirtual 142) 3 5 (.ifCond .ne 5) 3 10 (.aload_n 0) 1 11 (.getfield 22) 3 14 (.aload_n 0) 1 15 (.getfield 34) 3 := by decide +kernel
theorem b3o : DG6 c67 18 (.iload_n 1) 1 19 .iaload 1 20 .iaload 1 21 .ireturn 1 8 (.iconst (-1)) 1 9 .ireturn 1 := by decide +kernel
abbrev c68 : ByteArray := prog_1_method_14_code
theorem a92 : DG8 c68 0 (.aload_n 0) 1 1 (.iload_n 1) 1 2 (.invokevirtual 145) 3 5 (.ifCond .ne 5) 3 10 (.aload_n 0) 1 11 (.getfield 103) 3 14 .ireturn 1 8 (.iconst (-1)) 1 := by decide +kernel
theorem b7X : DG1 c68 9 .ireturn 1 := by decide +kernel
abbrev c69 : ByteArray := method_3_code
theorem b1s : DG6 c69 0 (.iload_n 0) 1 1 (.ifCond .ge 7) 3 8 (.iconst 1) 1 4 (.iconst 2) 1 5 (.goto 4) 3 9 .ireturn 1 := by decide +kernel
abbrev c70 : ByteArray := prog_1_method_16_code
theorem a8W : DG8 c70 0 (.aload_n 0) 1 1 (.iload_n 1) 1 2 (.invokevirtual 142) 3 5 (.ifCond .eq 11) 3 8 (.aload_n 0) 1 9 (.iload_n 2) 1 10 (.invokevirtual 142) 3 13 (.ifCond .ne 5) 3 := by decide +kernel
theorem b1g : DG8 c70 18 (.aload_n 0) 1 19 (.aload_n 0) 1 20 (.getfield 34) 3 23 (.iload_n 1) 1 24 .iaload 1 25 (.aload_n 0) 1 26 (.getfield 34) 3 29 (.iload_n 2) 1 := by decide +kernel
theorem a9D : DG5 c70 30 .iaload 1 31 (.invokevirtual 148) 3 34 .ireturn 1 16 (.iconst 0) 1 17 .ireturn 1 := by decide +kernel
abbrev c71 : ByteArray := method_2_code
theorem b1f : DG8 c71 0 (.iload_n 0) 1 1 (.bipush 10) 2 3 .irem 1 4 (.bipush 10) 2 6 .iadd 1 7 (.bipush 10) 2 9 .irem 1 10 .ireturn 1 := by decide +kernel
abbrev c73 : ByteArray := prog_1_method_2_code
theorem a85 : DG8 c73 0 (.iload_n 1) 1 1 (.iload_n 2) 1 2 (.if_icmp .ge 5) 3 7 (.iload_n 1) 1 8 (.iload_n 3) 1 9 (.if_icmp .le 5) 3 14 (.iload_n 1) 1 15 .ireturn 1 := by decide +kernel
theorem b4X : DG4 c73 12 (.iload_n 3) 1 13 .ireturn 1 5 (.iload_n 2) 1 6 .ireturn 1 := by decide +kernel
abbrev c72 : ByteArray := prog_1_method_1_code
theorem b1r : DG8 c72 0 (.aload_n 0) 1 1 (.invokespecial 1) 3 4 (.aload_n 0) 1 5 (.bipush 32) 2 7 (.newarray .int) 2 9 (.putfield 7) 3 12 (.aload_n 0) 1 13 (.sipush 1024) 3 := by decide +kernel
theorem b1p : DG8 c72 16 (.newarray .int) 2 18 (.putfield 13) 3 21 (.aload_n 0) 1 22 (.sipush 1024) 3 25 (.newarray .int) 2 27 (.putfield 16) 3 30 (.aload_n 0) 1 31 (.sipush 1024) 3 := by decide +kernel
theorem a8p : DG8 c72 34 (.newarray .int) 2 36 (.putfield 19) 3 39 (.aload_n 0) 1 40 (.sipush 1024) 3 43 (.newarray .int) 2 45 (.putfield 22) 3 48 (.aload_n 0) 1 49 (.sipush 8192) 3 := by decide +kernel
theorem a6D : DG8 c72 52 (.newarray .int) 2 54 (.putfield 25) 3 57 (.aload_n 0) 1 58 (.sipush 1024) 3 61 (.newarray .int) 2 63 (.putfield 28) 3 66 (.aload_n 0) 1 67 (.sipush 256) 3 := by decide +kernel
theorem a71 : DG8 c72 70 (.newarray .int) 2 72 (.putfield 31) 3 75 (.aload_n 0) 1 76 (.iconst 5) 1 77 (.newarray .int) 2 79 (.putfield 34) 3 82 (.aload_n 0) 1 83 (.bipush 33) 2 := by decide +kernel
theorem a6E : DG8 c72 85 (.newarray .int) 2 87 (.putfield 37) 3 90 (.aload_n 0) 1 91 (.bipush 33) 2 93 (.newarray .int) 2 95 (.putfield 40) 3 98 (.aload_n 0) 1 99 (.bipush 33) 2 := by decide +kernel
theorem a8o : DG8 c72 101 (.newarray .int) 2 103 (.putfield 43) 3 106 (.aload_n 0) 1 107 (.bipush 33) 2 109 (.newarray .int) 2 111 (.putfield 46) 3 114 (.aload_n 0) 1 115 (.bipush 33) 2 := by decide +kernel
theorem a7f : DG8 c72 117 (.newarray .int) 2 119 (.putfield 49) 3 122 (.aload_n 0) 1 123 (.bipush 33) 2 125 (.newarray .int) 2 127 (.putfield 52) 3 130 (.aload_n 0) 1 131 (.bipush 33) 2 := by decide +kernel
theorem a6H : DG8 c72 133 (.newarray .int) 2 135 (.putfield 55) 3 138 (.aload_n 0) 1 139 (.bipush 80) 2 141 (.newarray .int) 2 143 (.putfield 58) 3 146 (.aload_n 0) 1 147 (.bipush 80) 2 := by decide +kernel
theorem a7B : DG8 c72 149 (.newarray .int) 2 151 (.putfield 61) 3 154 (.aload_n 0) 1 155 (.bipush 40) 2 157 (.newarray .int) 2 159 (.putfield 64) 3 162 (.aload_n 0) 1 163 (.bipush 64) 2 := by decide +kernel
theorem a7x : DG8 c72 165 (.newarray .int) 2 167 (.putfield 67) 3 170 (.aload_n 0) 1 171 (.bipush 64) 2 173 (.newarray .int) 2 175 (.putfield 70) 3 178 (.aload_n 0) 1 179 (.sipush 256) 3 := by decide +kernel
theorem a8a : DG8 c72 182 (.newarray .char) 2 184 (.putfield 73) 3 187 (.aload_n 0) 1 188 (.bipush 64) 2 190 (.newarray .int) 2 192 (.putfield 77) 3 195 (.aload_n 0) 1 196 (.bipush 64) 2 := by decide +kernel
theorem a7O : DG8 c72 198 (.newarray .int) 2 200 (.putfield 80) 3 203 (.aload_n 0) 1 204 (.aload_n 0) 1 205 (.iload_n 1) 1 206 (.iconst 2) 1 207 (.bipush 8) 2 209 (.invokevirtual 83) 3 := by decide +kernel
theorem a3Z : DG8 c72 212 (.putfield 87) 3 215 (.aload_n 0) 1 216 (.aload_n 0) 1 217 (.iload_n 2) 1 218 (.bipush 8) 2 220 (.bipush 24) 2 222 (.invokevirtual 83) 3 225 (.putfield 91) 3 := by decide +kernel
theorem a22 : DG8 c72 228 (.iconst 0) 1 229 (.istore_n 3) 1 230 (.iload_n 3) 1 231 (.sipush 1024) 3 234 (.if_icmp .ge 20) 3 254 (.aload_n 0) 1 255 (.sipush 1024) 3 258 (.putfield 94) 3 := by decide +kernel
theorem a24 : DG8 c72 261 (.iconst 0) 1 262 (.istore_n 3) 1 263 (.iload_n 3) 1 264 (.iconst 5) 1 265 (.if_icmp .ge 16) 3 281 (.aload_n 0) 1 282 (.iconst 0) 1 283 (.putfield 97) 3 := by decide +kernel
theorem a3X : DG8 c72 286 (.aload_n 0) 1 287 (.iconst (-1)) 1 288 (.putfield 100) 3 291 (.aload_n 0) 1 292 (.iconst 0) 1 293 (.putfield 103) 3 296 .return_ 1 268 (.aload_n 0) 1 := by decide +kernel
theorem a3J : DG8 c72 269 (.getfield 34) 3 272 (.iload_n 3) 1 273 (.iconst (-1)) 1 274 .iastore 1 275 (.iinc 3 1) 3 278 (.goto (-15)) 3 237 (.aload_n 0) 1 238 (.getfield 28) 3 := by decide +kernel
theorem a5c : DG7 c72 241 (.iload_n 3) 1 242 (.sipush 1023) 3 245 (.iload_n 3) 1 246 .isub 1 247 .iastore 1 248 (.iinc 3 1) 3 251 (.goto (-21)) 3 := by decide +kernel
abbrev KKQ (rm : Room) (nm : String) (cd : ByteArray) (ml : Nat) (rt : Option FieldType) (X : Cx (St × Nat)) (Z : State) (a0 : Array Value) (l : Launch) (n1 : Nat) (a : Addr) (h0 : Heap) : Prop := b3Y X Z a0 cC cFS cFA 24 39 l n1 a h0 ce0 rm nm cd ml rt
abbrev b5u := KKQ ⟨0, 0, 0, 0⟩ "valid" c5 2 (some .boolean)
def a0Y (σ : St) (v1 : Int32) : Option (Int32 × St) :=
 (if v1 < 0 then (some ((0 : Int32), σ)) else (if v1 < 1024 then (some ((1 : Int32), σ)) else (some ((0 : Int32), σ))))
theorem b5c (K : b5u X Z a0 l n1 a h0) (hw : HW a0 Z) {σ : St} {v1 : Int32} {r : Int32 × St} (h : a0Y σ v1 = some r) : Go X (vvI r.1, (r.2, 24)) 0 [some (.ref 0), vvI v1] [] (σ, 24) := by
 unfold a0Y at h
 refine a0b K.1 b2G.1.1.1 rfl ?_
 rcases ifs h with ⟨hc1, h⟩ | ⟨hc1, h⟩
 ·refine a0u (pc' := 15) K.1 b2G.1.1.2 (by decide) ((if0 _ _).trans (tlt hc1).1) ?_
  refine a0c (v := 0) K.1 b2G.2.1.2 (by decide) ?_
  cases h; exact a0h (t := .boolean) K.1 rfl (Or.inl rfl) b6R rfl (a0w K)
 refine a0t K.1 b2G.1.1.2 ((if0 _ _).trans (flt hc1).1) (a0b K.1 b2G.1.2.1 rfl ?_)
 refine a0I (v := 1024) K.1 b2G.1.2.2 (by decide) ?_
 rcases ifs h with ⟨hc8, h⟩ | ⟨hc8, h⟩
 ·refine a0o K.1 b2G.2.1.1 ((tlt hc8).2.1) ?_
  refine a0c (v := 1) K.1 b2G.2.2.1 (by decide) ?_
  refine a0y (pc' := 16) K.1 b2G.2.2.2 (by decide) ?_
  cases h; exact a0h (t := .boolean) K.1 rfl (Or.inl rfl) b6R rfl (a0w K)
 refine a0p (pc' := 15) K.1 b2G.2.1.1 (by decide) ((flt hc8).2.1) ?_
 refine a0c (v := 0) K.1 b2G.2.1.2 (by decide) ?_
 cases h; exact a0h (t := .boolean) K.1 rfl (Or.inl rfl) b6R rfl (a0w K)
theorem a0x (l : Launch) (Z : State) (a0 : Array Value) (hw : HW a0 Z) (n1 : Nat) (a : Addr) (ha : n1 ≤ a) {σ : St} {v1 : Int32} {r : Int32 × St} (h : a0Y σ v1 = some r) : Con l Z cC cFS cFA 24 n1 a ⟨cC, "valid", "(I)Z"⟩ c5 2 (some .boolean) ⟨0, 0, 0, 0⟩ [.ref 0, .int v1] σ (some (.int r.1)) r.2 :=
 a0l pnC rfl (a1m hw) a0E ha (fun X h1 K => b5c K hw h)
abbrev b30 := KKQ ⟨1, 0, 0, 13⟩ "defined" c4 2 (some .boolean)
def a16 (σ : St) (v1 : Int32) : Option (Int32 × St) :=
 (if v1 < 0 then (some ((0 : Int32), σ)) else (if 4 < v1 then (some ((0 : Int32), σ)) else (if 0 ≤ (v1).toInt ∧ (v1).toInt < 5 then ((a0Y σ (gA σ 9 (v1).toInt)).bind fun q18 => (some ((nar .boolean q18.1), q18.2))) else none)))
theorem b4b (K : b30 X Z a0 l n1 a h0) (hw : HW a0 Z) {σ : St} {v1 : Int32} {r : Int32 × St} (h : a16 σ v1 = some r) : Go X (vvI r.1, (r.2, 24)) 0 [some (.ref 0), vvI v1] [] (σ, 24) := by
 unfold a16 at h
 refine a0b K.1 b3a.1.1.1 rfl ?_
 rcases ifs h with ⟨hc1, h⟩ | ⟨hc1, h⟩
 ·refine a0u (pc' := 9) K.1 b3a.1.1.2 (by decide) ((if0 _ _).trans (tlt hc1).1) ?_
  refine a0c (v := 0) K.1 b4o.2.1.2 (by decide) ?_
  cases h; exact a0h (t := .boolean) K.1 rfl (Or.inl rfl) b4o.2.2 rfl (a0w K)
 refine a0t K.1 b3a.1.1.2 ((if0 _ _).trans (flt hc1).1) (a0b K.1 b3a.1.2.1 rfl ?_)
 refine a0c (v := 4) K.1 b3a.1.2.2 (by decide) ?_
 rcases ifs h with ⟨hc6, h⟩ | ⟨hc6, h⟩
 ·refine a0o K.1 b3a.2.1.1 ((tlt hc6).2.2.2) ?_
  refine a0c (v := 0) K.1 b4o.2.1.2 (by decide) ?_
  cases h; exact a0h (t := .boolean) K.1 rfl (Or.inl rfl) b4o.2.2 rfl (a0w K)
 refine a0p (pc' := 11) K.1 b3a.2.1.1 (by decide) ((flt hc6).2.2.2) ?_
 refine a0a K.1 b3a.2.1.2 rfl (a0a K.1 b3a.2.2.1 rfl (a0k K b3a.2.2.2 (w30 hw) a2R rfl (a0b K.1 b4o.1.1.1 rfl ?_)))
 obtain ⟨hc17, h⟩ := ifn h
 refine a0j K b4o.1.1.2 a2T rfl hc17 ?_
 obtain ⟨q18, hq18, h⟩ := bsq h
 refine a0g (vs := [.int (gA σ 9 (v1).toInt)]) K b4o.1.2 (b29 hw) (b27 hw) (b2O hw) (b2Q hw) hyC a1D rfl rfl (a0x l Z a0 hw n1 a (a0i K) hq18) rfl (nbq rfl) (nbq rfl) rfl rfl ?_
 cases h; exact a0h (t := .boolean) K.1 rfl (Or.inl rfl) b4o.2.1.1 rfl (a0w K)
theorem a1A (l : Launch) (Z : State) (a0 : Array Value) (hw : HW a0 Z) (n1 : Nat) (a : Addr) (ha : n1 ≤ a) {σ : St} {v1 : Int32} {r : Int32 × St} (h : a16 σ v1 = some r) : Con l Z cC cFS cFA 24 n1 a ⟨cC, "defined", "(I)Z"⟩ c4 2 (some .boolean) ⟨1, 0, 0, 13⟩ [.ref 0, .int v1] σ (some (.int r.1)) r.2 :=
 a0l pnC rfl (a1m hw) a0E ha (fun X h1 K => b4b K hw h)
abbrev b6a := KKQ ⟨0, 0, 0, 0⟩ "emit" c7 2 none
def a6w (σ : St) (v1 : Int32) : Option (St) :=
 (if (gI σ 149) < 0 then (some σ) else (if (gI σ 149) < 256 then (if 0 ≤ ((gI σ 149)).toInt ∧ ((gI σ 149)).toInt < 256 then (some (sI (sA σ 22 ((gI σ 149)).toInt (nar .char (nar .char v1))) 149 ((gI (sA σ 22 ((gI σ 149)).toInt (nar .char (nar .char v1))) 149) + 1))) else none) else (some σ)))
theorem b5S (K : b6a X Z a0 l n1 a h0) (hw : HW a0 Z) {σ : St} {v1 : Int32} {r : St} (h : a6w σ v1 = some r) : Go X (none, (r, 24)) 0 [some (.ref 0), vvI v1] [] (σ, 24) := by
 unfold a6w at h
 refine a0a K.1 b3d.1.1.1 rfl (a0s K b3d.1.1.2 (w77 hw) a1y ?_)
 rcases ifs h with ⟨hc4, h⟩ | ⟨hc4, h⟩
 ·refine a0u (pc' := 38) K.1 b3d.1.2.1 (by decide) ((if0 _ _).trans (tlt hc4).1) ?_
  cases h; exact a0F K.1 b2z.2.2 (a0w K)
 refine a0t K.1 b3d.1.2.1 ((if0 _ _).trans (flt hc4).1) (a0a K.1 b3d.1.2.2 rfl (a0s K b3d.2.1.1 (w77 hw) a1y ?_))
 refine a0I (v := 256) K.1 b3d.2.1.2 (by decide) ?_
 rcases ifs h with ⟨hc14, h⟩ | ⟨hc14, h⟩
 ·refine a0o K.1 b3d.2.2.1 ((tlt hc14).2.1) (a0a K.1 b3d.2.2.2 rfl (a0k K b4m.1.1.1 (w57 hw) b4B rfl (a0a K.1 b4m.1.1.2 rfl (a0s K b4m.1.2.1 (w77 hw) a1y (a0b K.1 b4m.1.2.2 rfl ?_)))))
  refine b8G K.1 b4m.2.1.1 ?_
  obtain ⟨hc27, h⟩ := ifn h
  refine b57 (v' := (nar .char (nar .char v1))) K b4m.2.1.2 b4R rfl hc27 rfl (a0a K.1 b4m.2.2.1 rfl (b0u K.1 b4m.2.2.2 rfl (a0s K b2z.1.1.1 (w77 hw) a1y ?_)))
  refine a0c (v := 1) K.1 b2z.1.1.2 (by decide) ?_
  refine a0z K.1 b2z.1.2 (a0R (t := .int) (v' := ((gI (sA σ 22 ((gI σ 149)).toInt (nar .char (nar .char v1))) 149) + 1)) K b2z.2.1 (w77 hw) a1y (Or.inl (w78 hw)) a1o rfl rfl ?_)
  cases h; exact a0F K.1 b2z.2.2 (a0w K)
 refine a0p (pc' := 38) K.1 b3d.2.2.1 (by decide) ((flt hc14).2.1) ?_
 cases h; exact a0F K.1 b2z.2.2 (a0w K)
theorem a1v (l : Launch) (Z : State) (a0 : Array Value) (hw : HW a0 Z) (n1 : Nat) (a : Addr) (ha : n1 ≤ a) {σ : St} {v1 : Int32} {r : St} (h : a6w σ v1 = some r) : Con l Z cC cFS cFA 24 n1 a ⟨cC, "emit", "(I)V"⟩ c7 2 none ⟨0, 0, 0, 0⟩ [.ref 0, .int v1] σ none r :=
 a0l pnC rfl (a1m hw) a0E ha (fun X h1 K => b5S K hw h)
abbrev b5v := KKQ ⟨0, 0, 0, 0⟩ "isBox" c9 2 (some .boolean)
def a4B (σ : St) (v1 : Int32) : Option (Int32 × St) :=
 (if v1 < 100000 then (some ((0 : Int32), σ)) else (some ((1 : Int32), σ)))
theorem b5f (K : b5v X Z a0 l n1 a h0) (hw : HW a0 Z) {σ : St} {v1 : Int32} {r : Int32 × St} (h : a4B σ v1 = some r) : Go X (vvI r.1, (r.2, 24)) 0 [some (.ref 0), vvI v1] [] (σ, 24) := by
 unfold a4B at h
 refine a0b K.1 b3S.1.1.1 rfl (b5U K.1 b3S.1.1.2 (b8b hw) ?_)
 rcases ifs h with ⟨hc4, h⟩ | ⟨hc4, h⟩
 ·refine a0p (pc' := 11) K.1 b3S.1.2.1 (by decide) ((tlt hc4).1) ?_
  refine a0c (v := 0) K.1 b3S.1.2.2 (by decide) ?_
  cases h; exact a0h (t := .boolean) K.1 rfl (Or.inl rfl) b3S.2.2 rfl (a0w K)
 refine a0o K.1 b3S.1.2.1 ((flt hc4).1) ?_
 refine a0c (v := 1) K.1 b3S.2.1.1 (by decide) ?_
 refine a0y (pc' := 12) K.1 b3S.2.1.2 (by decide) ?_
 cases h; exact a0h (t := .boolean) K.1 rfl (Or.inl rfl) b3S.2.2 rfl (a0w K)
theorem a1R (l : Launch) (Z : State) (a0 : Array Value) (hw : HW a0 Z) (n1 : Nat) (a : Addr) (ha : n1 ≤ a) {σ : St} {v1 : Int32} {r : Int32 × St} (h : a4B σ v1 = some r) : Con l Z cC cFS cFA 24 n1 a ⟨cC, "isBox", "(I)Z"⟩ c9 2 (some .boolean) ⟨0, 0, 0, 0⟩ [.ref 0, .int v1] σ (some (.int r.1)) r.2 :=
 a0l pnC rfl (a1m hw) a0E ha (fun X h1 K => b5f K hw h)
abbrev a1U := KKQ ⟨1, 0, 0, 13⟩ "emitInt" c10 3 none
def a2Y  (i2 : Int32) (σ : St) : Option (St) :=
 ((a6w σ (48 + (i2 % 10))).bind fun q91 => (some q91))
theorem a6x (K : a1U X Z a0 l n1 a h0) (hw : HW a0 Z)  {i2 : Int32} {σ : St} {r : St}  (h : a2Y  i2 σ = some r) : Go X (none, (r, 24)) 83 [some (.ref 0), none, vvI i2] [] (σ, 24) := by
 unfold a2Y at h
 refine a0a K.1 a7J.1.1.1 rfl ?_
 refine a0d (v := 48) K.1 a7J.1.1.2 (by decide) ?_
 refine a0b K.1 a7J.1.2.1 rfl ?_
 refine a0d (v := 10) K.1 a7J.1.2.2 (by decide) ?_
 refine b3m K.1 a7J.2.1.1 (by decide) ?_
 refine a0z K.1 a7J.2.1.2 ?_
 obtain ⟨q91, hq91, h⟩ := bsq h
 refine a0g (vs := [.int (48 + (i2 % 10))]) K a7J.2.2.1 (b6t hw) (b6r hw) (b6h hw) (b6w hw) hyC a9E rfl rfl (a1v l Z a0 hw n1 a (a0i K) hq91) rfl (nbq rfl) (nbq rfl) rfl rfl ?_
 cases h; exact a0F K.1 a7J.2.2.2 (a0w K)
def a3b  (i2 : Int32) (σ : St) : Option (St) :=
 (if i2 < 10 then a2Y i2 σ else ((a6w σ (48 + ((i2 / (10 : Int32)) % 10))).bind fun q80 => a2Y i2 q80))
theorem a6o (K : a1U X Z a0 l n1 a h0) (hw : HW a0 Z)  {i2 : Int32} {σ : St} {r : St}  (h : a3b  i2 σ = some r) : Go X (none, (r, 24)) 63 [some (.ref 0), none, vvI i2] [] (σ, 24) := by
 unfold a3b at h
 refine a0b K.1 a5m.2.1.1 rfl ?_
 refine a0d (v := 10) K.1 a5m.2.1.2 (by decide) ?_
 rcases ifs h with ⟨hc66, h⟩ | ⟨hc66, h⟩
 ·refine a0p (pc' := 83) K.1 a5m.2.2.1 (by decide) ((tlt hc66).1) ?_
  exact a6x K hw  h
 refine a0o K.1 a5m.2.2.1 ((flt hc66).1) (a0a K.1 a5m.2.2.2 rfl ?_)
 refine a0d (v := 48) K.1 a7h.1.1.1 (by decide) ?_
 refine a0b K.1 a7h.1.1.2 rfl ?_
 refine a0d (v := 10) K.1 a7h.1.2.1 (by decide) ?_
 refine b5C K.1 a7h.1.2.2 (by decide) ?_
 refine a0d (v := 10) K.1 a7h.2.1.1 (by decide) ?_
 refine b3m K.1 a7h.2.1.2 (by decide) ?_
 refine a0z K.1 a7h.2.2.1 ?_
 obtain ⟨q80, hq80, h⟩ := bsq h
 refine a0g (vs := [.int (48 + ((i2 / (10 : Int32)) % 10))]) K a7h.2.2.2 (b6t hw) (b6r hw) (b6h hw) (b6w hw) hyC a9E rfl rfl (a1v l Z a0 hw n1 a (a0i K) hq80) rfl (nbq rfl) (nbq rfl) rfl rfl ?_
 exact a6x K hw  h
def a23  (i2 : Int32) (σ : St) : Option (St) :=
 (if i2 < 100 then a3b i2 σ else ((a6w σ (48 + ((i2 / (100 : Int32)) % 10))).bind fun q60 => a3b i2 q60))
theorem a6j (K : a1U X Z a0 l n1 a h0) (hw : HW a0 Z)  {i2 : Int32} {σ : St} {r : St}  (h : a23  i2 σ = some r) : Go X (none, (r, 24)) 43 [some (.ref 0), none, vvI i2] [] (σ, 24) := by
 unfold a23 at h
 refine a0b K.1 a5f.1.1.1 rfl ?_
 refine a0d (v := 100) K.1 a5f.1.1.2 (by decide) ?_
 rcases ifs h with ⟨hc46, h⟩ | ⟨hc46, h⟩
 ·refine a0p (pc' := 63) K.1 a5f.1.2.1 (by decide) ((tlt hc46).1) ?_
  exact a6o K hw  h
 refine a0o K.1 a5f.1.2.1 ((flt hc46).1) (a0a K.1 a5f.1.2.2 rfl ?_)
 refine a0d (v := 48) K.1 a5f.2.1.1 (by decide) ?_
 refine a0b K.1 a5f.2.1.2 rfl ?_
 refine a0d (v := 100) K.1 a5f.2.2.1 (by decide) ?_
 refine b5C K.1 a5f.2.2.2 (by decide) ?_
 refine a0d (v := 10) K.1 a5m.1.1.1 (by decide) ?_
 refine b3m K.1 a5m.1.1.2 (by decide) ?_
 refine a0z K.1 a5m.1.2.1 ?_
 obtain ⟨q60, hq60, h⟩ := bsq h
 refine a0g (vs := [.int (48 + ((i2 / (100 : Int32)) % 10))]) K a5m.1.2.2 (b6t hw) (b6r hw) (b6h hw) (b6w hw) hyC a9E rfl rfl (a1v l Z a0 hw n1 a (a0i K) hq60) rfl (nbq rfl) (nbq rfl) rfl rfl ?_
 exact a6o K hw  h
def a26  (i2 : Int32) (σ : St) : Option (St) :=
 (if i2 < 1000 then a23 i2 σ else ((a6w σ (48 + ((i2 / (1000 : Int32)) % 10))).bind fun q40 => a23 i2 q40))
theorem a6r (K : a1U X Z a0 l n1 a h0) (hw : HW a0 Z)  {i2 : Int32} {σ : St} {r : St}  (h : a26  i2 σ = some r) : Go X (none, (r, 24)) 21 [some (.ref 0), none, vvI i2] [] (σ, 24) := by
 unfold a26 at h
 refine a0b K.1 a8U.2.1.1 rfl ?_
 refine a0I (v := 1000) K.1 a8U.2.1.2 (by decide) ?_
 rcases ifs h with ⟨hc25, h⟩ | ⟨hc25, h⟩
 ·refine a0p (pc' := 43) K.1 a8U.2.2.1 (by decide) ((tlt hc25).1) ?_
  exact a6j K hw  h
 refine a0o K.1 a8U.2.2.1 ((flt hc25).1) (a0a K.1 a8U.2.2.2 rfl ?_)
 refine a0d (v := 48) K.1 a62.1.1.1 (by decide) ?_
 refine a0b K.1 a62.1.1.2 rfl ?_
 refine a0I (v := 1000) K.1 a62.1.2.1 (by decide) ?_
 refine b5C K.1 a62.1.2.2 (by decide) ?_
 refine a0d (v := 10) K.1 a62.2.1.1 (by decide) ?_
 refine b3m K.1 a62.2.1.2 (by decide) ?_
 refine a0z K.1 a62.2.2.1 ?_
 obtain ⟨q40, hq40, h⟩ := bsq h
 refine a0g (vs := [.int (48 + ((i2 / (1000 : Int32)) % 10))]) K a62.2.2.2 (b6t hw) (b6r hw) (b6h hw) (b6w hw) hyC a9E rfl rfl (a1v l Z a0 hw n1 a (a0i K) hq40) rfl (nbq rfl) (nbq rfl) rfl rfl ?_
 exact a6j K hw  h
def a2W  (i1 t0 : Int32) (σ : St) : Option (St) :=
 (if i1 < 0 then ((a6w σ (45 : Int32)).bind fun q18 => a26 t0 q18) else a26 t0 σ)
theorem a6l (K : a1U X Z a0 l n1 a h0) (hw : HW a0 Z)  {i1 t0 : Int32} {σ : St} {r : St}  (h : a2W  i1 t0 σ = some r) : Go X (none, (r, 24)) 10 [some (.ref 0), vvI i1, none] [.int t0] (σ, 24) := by
 unfold a2W at h
 refine a0m (L' := [some (.ref 0), vvI i1, vvI t0]) K.1 a9X.2.2.1 (blt rfl) rfl (a0b K.1 a9X.2.2.2 rfl ?_)
 rcases ifs h with ⟨hc12, h⟩ | ⟨hc12, h⟩
 ·refine a0t K.1 a8U.1.1.1 ((if0 _ _).trans (tlt hc12).2.1) (a0a K.1 a8U.1.1.2 rfl ?_)
  refine a0d (v := 45) K.1 a8U.1.2.1 (by decide) ?_
  obtain ⟨q18, hq18, h⟩ := bsq h
  refine a0g (vs := [.int (45 : Int32)]) K a8U.1.2.2 (b6t hw) (b6r hw) (b6h hw) (b6w hw) hyC a9E rfl rfl (a1v l Z a0 hw n1 a (a0i K) hq18) rfl (nbq rfl) (nbq rfl) rfl rfl ?_
  exact a0n (a6r K hw  h) (ls (ln (ls l0)))
 refine a0u (pc' := 21) K.1 a8U.1.1.1 (by decide) ((if0 _ _).trans (flt hc12).2.1) ?_
 exact a0n (a6r K hw  h) (ls (ln (ls l0)))
def a9I (σ : St) (v1 : Int32) : Option (St) :=
 (if v1 < 0 then a2W v1 (-v1) σ else a2W v1 v1 σ)
theorem b4c (K : a1U X Z a0 l n1 a h0) (hw : HW a0 Z) {σ : St} {v1 : Int32} {r : St} (h : a9I σ v1 = some r) : Go X (none, (r, 24)) 0 [some (.ref 0), vvI v1, none] [] (σ, 24) := by
 unfold a9I at h
 refine a0b K.1 a9X.1.1.1 rfl ?_
 rcases ifs h with ⟨hc1, h⟩ | ⟨hc1, h⟩
 ·refine a0t K.1 a9X.1.1.2 ((if0 _ _).trans (tlt hc1).2.1) (a0b K.1 a9X.1.2.2 rfl (b42 K.1 a9X.2.1.1 ?_))
  refine a0y (pc' := 10) K.1 a9X.2.1.2 (by decide) ?_
  exact a6l K hw  h
 refine a0u (pc' := 9) K.1 a9X.1.1.2 (by decide) ((if0 _ _).trans (flt hc1).2.1) ?_
 refine a0b K.1 a9X.1.2.1 rfl ?_
 exact a6l K hw  h
theorem b3O (l : Launch) (Z : State) (a0 : Array Value) (hw : HW a0 Z) (n1 : Nat) (a : Addr) (ha : n1 ≤ a) {σ : St} {v1 : Int32} {r : St} (h : a9I σ v1 = some r) : Con l Z cC cFS cFA 24 n1 a ⟨cC, "emitInt", "(I)V"⟩ c10 3 none ⟨1, 0, 0, 13⟩ [.ref 0, .int v1] σ none r :=
 a0l pnC rfl (a1m hw) a0E ha (fun X h1 K => b4c K hw h)
abbrev b4u := KKQ ⟨0, 0, 0, 0⟩ "heldOf" c11 2 (some .int)
def a3a (σ : St) (v1 : Int32) : Option (Int32 × St) :=
 (some ((v1 - 100000), σ))
theorem b4N (K : b4u X Z a0 l n1 a h0) (hw : HW a0 Z) {σ : St} {v1 : Int32} {r : Int32 × St} (h : a3a σ v1 = some r) : Go X (vvI r.1, (r.2, 24)) 0 [some (.ref 0), vvI v1] [] (σ, 24) := by
 unfold a3a at h
 refine a0b K.1 b40.1.1 rfl (b5U K.1 b40.1.2 (b8b hw) (a1l K.1 b40.2.1 ?_))
 cases h; exact a0e K.1 b40.2.2 (a0w K)
theorem a1Y (l : Launch) (Z : State) (a0 : Array Value) (hw : HW a0 Z) (n1 : Nat) (a : Addr) (ha : n1 ≤ a) {σ : St} {v1 : Int32} {r : Int32 × St} (h : a3a σ v1 = some r) : Con l Z cC cFS cFA 24 n1 a ⟨cC, "heldOf", "(I)I"⟩ c11 2 (some .int) ⟨0, 0, 0, 0⟩ [.ref 0, .int v1] σ (some (.int r.1)) r.2 :=
 a0l pnC rfl (a1m hw) a0E ha (fun X h1 K => b4N K hw h)
abbrev a6T := KKQ ⟨2, 0, 0, 27⟩ "renderCell" c8 4 (some .int)
def a1f  (i2 : Int32) (σ : St) : Option (Int32 × St) :=
 ((a6w σ (41 : Int32)).bind fun q48 => (some (i2, q48)))
theorem a1P (K : a6T X Z a0 l n1 a h0) (hw : HW a0 Z)  {i2 : Int32} {σ : St} {r : Int32 × St}  (h : a1f  i2 σ = some r) : Go X (vvI r.1, (r.2, 24)) 45 [some (.ref 0), none, vvI i2, none] [] (σ, 24) := by
 unfold a1f at h
 refine a0a K.1 b1h.1.2.1 rfl ?_
 refine a0d (v := 41) K.1 b1h.1.2.2 (by decide) ?_
 obtain ⟨q48, hq48, h⟩ := bsq h
 refine a0g (vs := [.int (41 : Int32)]) K b1h.2.1.1 (b6t hw) (b6r hw) (b6h hw) (b6w hw) hyC a9E rfl rfl (a1v l Z a0 hw n1 a (a0i K) hq48) rfl (nbq rfl) (nbq rfl) rfl rfl (a0b K.1 b1h.2.1.2 rfl ?_)
 cases h; exact a0e K.1 b1h.2.2.1 (a0w K)
def a31 (σ : St) (v1 v2 : Int32) : Option (Int32 × St) :=
 ((a4B σ v1).bind fun q2 => (if q2.1 = 0 then ((a9I q2.2 v1).bind fun q10 => (some (v2, q10))) else ((a6w q2.2 (40 : Int32)).bind fun q18 => ((a3a q18 v1).bind fun q23 => (if v2 < 0 then a1f v2 q23.2 else (if v2 < 64 then ((a0Y q23.2 q23.1).bind fun q39 => (if q39.1 = 0 then a1f v2 q39.2 else (if 0 ≤ (v2).toInt ∧ (v2).toInt < 64 then (if 0 ≤ (v2).toInt ∧ (v2).toInt < 64 then (some ((v2 + 1), (sA (sA q39.2 23 (v2).toInt q23.1) 24 (v2).toInt (0 : Int32)))) else none) else none))) else a1f v2 q23.2))))))
theorem b2C (K : a6T X Z a0 l n1 a h0) (hw : HW a0 Z) {σ : St} {v1 v2 : Int32} {r : Int32 × St} (h : a31 σ v1 v2 = some r) : Go X (vvI r.1, (r.2, 24)) 0 [some (.ref 0), vvI v1, vvI v2, none] [] (σ, 24) := by
 unfold a31 at h
 refine a0a K.1 b3M.1.1.1 rfl (a0b K.1 b3M.1.1.2 rfl ?_)
 obtain ⟨q2, hq2, h⟩ := bsq h
 refine a0g (vs := [.int v1]) K b3M.1.2.1 (b6P hw) (b6L hw) (b6O hw) (b6J hw) hyC a1D rfl rfl (a1R l Z a0 hw n1 a (a0i K) hq2) rfl (nbq rfl) (nbq rfl) rfl rfl ?_
 rcases ifs h with ⟨hc5, h⟩ | ⟨hc5, h⟩
 ·refine a0t K.1 b3M.1.2.2 ((if0 _ _).trans (teq hc5).2) (a0a K.1 b1h.2.2.2 rfl (a0b K.1 b46.1.1 rfl ?_))
  obtain ⟨q10, hq10, h⟩ := bsq h
  refine a0g (vs := [.int v1]) K b46.1.2 (c03 hw) (c0i hw) (c0B hw) (c0o hw) hyC a9E rfl rfl (b3O l Z a0 hw n1 a (a0i K) hq10) rfl (nbq rfl) (nbq rfl) rfl rfl (a0b K.1 b46.2.1 rfl ?_)
  cases h; exact a0e K.1 b46.2.2 (a0w K)
 refine a0u (pc' := 15) K.1 b3M.1.2.2 (by decide) ((if0 _ _).trans (feq hc5).2) ?_
 refine a0a K.1 b3M.2.1.1 rfl ?_
 refine a0d (v := 40) K.1 b3M.2.1.2 (by decide) ?_
 obtain ⟨q18, hq18, h⟩ := bsq h
 refine a0g (vs := [.int (40 : Int32)]) K b3M.2.2.1 (b6t hw) (b6r hw) (b6h hw) (b6w hw) hyC a9E rfl rfl (a1v l Z a0 hw n1 a (a0i K) hq18) rfl (nbq rfl) (nbq rfl) rfl rfl (a0a K.1 b3M.2.2.2 rfl (a0b K.1 b22.1.1.1 rfl ?_))
 obtain ⟨q23, hq23, h⟩ := bsq h
 refine a0g (vs := [.int v1]) K b22.1.1.2 (b7l hw) (b7h hw) (b7k hw) (b64 hw) hyC a3e rfl rfl (a1Y l Z a0 hw n1 a (a0i K) hq23) rfl (nbq rfl) (nbq rfl) rfl rfl (a0m (L' := [some (.ref 0), vvI v1, vvI v2, vvI q23.1]) K.1 b22.1.2.1 (blt rfl) rfl (a0b K.1 b22.1.2.2 rfl ?_))
 rcases ifs h with ⟨hc28, h⟩ | ⟨hc28, h⟩
 ·refine a0u (pc' := 45) K.1 b22.2.1.1 (by decide) ((if0 _ _).trans (tlt hc28).1) ?_
  exact a0n (a1P K hw  h) (ls (ln (ls (ln l0))))
 refine a0t K.1 b22.2.1.1 ((if0 _ _).trans (flt hc28).1) (a0b K.1 b22.2.1.2 rfl ?_)
 refine a0d (v := 64) K.1 b22.2.2.1 (by decide) ?_
 rcases ifs h with ⟨hc34, h⟩ | ⟨hc34, h⟩
 ·refine a0o K.1 b22.2.2.2 ((tlt hc34).2.1) (a0a K.1 b0r.1.1.1 rfl (a0b K.1 b0r.1.1.2 rfl ?_))
  obtain ⟨q39, hq39, h⟩ := bsq h
  refine a0g (vs := [.int q23.1]) K b0r.1.2.1 (b29 hw) (b27 hw) (b2O hw) (b2Q hw) hyC a1D rfl rfl (a0x l Z a0 hw n1 a (a0i K) hq39) rfl (nbq rfl) (nbq rfl) rfl rfl ?_
  rcases ifs h with ⟨hc42, h⟩ | ⟨hc42, h⟩
  ·refine a0t K.1 b0r.1.2.2 ((if0 _ _).trans (teq hc42).2) ?_
   exact a0n (a1P K hw  h) (ls (ln (ls (ln l0))))
  refine a0u (pc' := 53) K.1 b0r.1.2.2 (by decide) ((if0 _ _).trans (feq hc42).2) ?_
  refine a0a K.1 b0r.2.1.1 rfl (a0k K b0r.2.1.2 (w59 hw) b6k rfl (a0b K.1 b0r.2.2.1 rfl (a0b K.1 b0r.2.2.2 rfl ?_)))
  obtain ⟨hc59, h⟩ := ifn h
  refine a0r K b03.1.1.1 b6q rfl hc59 (a0a K.1 b03.1.1.2 rfl (a0k K b03.1.2.1 (w61 hw) b5L rfl (a0b K.1 b03.1.2.2 rfl ?_)))
  refine a0c (v := 0) K.1 b03.2.1.1 (by decide) ?_
  obtain ⟨hc66, h⟩ := ifn h
  refine a0r K b03.2.1.2 b5K rfl hc66 (a0b K.1 b03.2.2.1 rfl ?_)
  refine a0c (v := 1) K.1 b03.2.2.2 (by decide) ?_
  refine a0z K.1 b1h.1.1.1 ?_
  cases h; exact a0e K.1 b1h.1.1.2 (a0w K)
 refine a0p (pc' := 45) K.1 b22.2.2.2 (by decide) ((flt hc34).2.1) ?_
 exact a0n (a1P K hw  h) (ls (ln (ls (ln l0))))
theorem b1T (l : Launch) (Z : State) (a0 : Array Value) (hw : HW a0 Z) (n1 : Nat) (a : Addr) (ha : n1 ≤ a) {σ : St} {v1 v2 : Int32} {r : Int32 × St} (h : a31 σ v1 v2 = some r) : Con l Z cC cFS cFA 24 n1 a ⟨cC, "renderCell", "(II)I"⟩ c8 4 (some .int) ⟨2, 0, 0, 27⟩ [.ref 0, .int v1, .int v2] σ (some (.int r.1)) r.2 :=
 a0l pnC rfl (a1m hw) a0E ha (fun X h1 K => b2C K hw h)
abbrev a2r := KKQ ⟨3, 0, 0, 42⟩ "render" c6 6 none
def a12 (NF : Nat) (k32 : b6D) (i2 i3 : Int32) (σ : St) : Option (St) :=
 k32 i2 (i3 + 1) σ
theorem a2N {NF : Nat} (K : a2r X Z a0 l n1 a h0) (hw : HW a0 Z) {k32 : Int32 → Int32 → St → Option (St)} {i2 i3 : Int32} {σ : St} {r : St} (hk32 : ∀ (i2 i3 : Int32) (σ : St) (h : k32 i2 i3 σ = some r), Go X (none, (r, 24)) 32 [some (.ref 0), none, vvI i2, vvI i3, none, none] [] (σ, 24)) (h : a12 NF k32 i2 i3 σ = some r) : Go X (none, (r, 24)) 146 [some (.ref 0), none, vvI i2, vvI i3, none, none] [] (σ, 24) := by
 unfold a12 at h
 refine a09 (w := 1) (L' := [some (.ref 0), none, vvI i2, some (.int (i3 + 1)), none, none]) K.1 b0t.2.2.1 rfl (by decide) rfl ?_
 refine a0y (pc' := 32) K.1 b0t.2.2.2 (by decide) ?_
 exact hk32 _ _ _ h
def a3L (NF : Nat) (k32 : b6D) (i2 i3 : Int32) (σ : St) : Option (St) :=
 (if 0 < (i2 + (-1 : Int32)) then ((a6w σ (41 : Int32)).bind fun q98 => a12 NF k32 (i2 + (-1 : Int32)) i3 q98) else a12 NF k32 (i2 + (-1 : Int32)) i3 σ)
theorem a63 {NF : Nat} (K : a2r X Z a0 l n1 a h0) (hw : HW a0 Z) {k32 : Int32 → Int32 → St → Option (St)} {i2 i3 : Int32} {σ : St} {r : St} (hk32 : ∀ (i2 i3 : Int32) (σ : St) (h : k32 i2 i3 σ = some r), Go X (none, (r, 24)) 32 [some (.ref 0), none, vvI i2, vvI i3, none, none] [] (σ, 24)) (h : a3L NF k32 i2 i3 σ = some r) : Go X (none, (r, 24)) 88 [some (.ref 0), none, vvI i2, vvI i3, none, none] [] (σ, 24) := by
 unfold a3L at h
 refine a09 (w := -1) (L' := [some (.ref 0), none, some (.int (i2 + (-1 : Int32))), vvI i3, none, none]) K.1 b1B.2.2.2 rfl (by decide) rfl ?_
 refine a0b K.1 b0t.1.1.1 rfl ?_
 rcases ifs h with ⟨hc92, h⟩ | ⟨hc92, h⟩
 ·refine a0t K.1 b0t.1.1.2 ((if0 _ _).trans (tlt hc92).2.2.2) (a0a K.1 b0t.1.2.1 rfl ?_)
  refine a0d (v := 41) K.1 b0t.1.2.2 (by decide) ?_
  obtain ⟨q98, hq98, h⟩ := bsq h
  refine a0g (vs := [.int (41 : Int32)]) K b0t.2.1.1 (b6t hw) (b6r hw) (b6h hw) (b6w hw) hyC a9E rfl rfl (a1v l Z a0 hw n1 a (a0i K) hq98) rfl (nbq rfl) (nbq rfl) rfl rfl ?_
  refine a0y (pc' := 146) K.1 b0t.2.1.2 (by decide) ?_
  exact a2N K hw hk32 h
 refine a0u (pc' := 146) K.1 b0t.1.1.2 (by decide) ((if0 _ _).trans (flt hc92).2.2.2) ?_
 exact a2N K hw hk32 h
def a2Z (NF : Nat) (k32 : b6D) (i2 i3 : Int32) (i4 i5 : Int32) (σ : St) : Option (St) :=
 (if 0 ≤ (((i4 * 8) + i5)).toInt ∧ (((i4 * 8) + i5)).toInt < 8192 then ((a31 σ (gA σ 6 (((i4 * 8) + i5)).toInt) i2).bind fun q142 => a12 NF k32 q142.1 i3 q142.2) else none)
theorem a6t {NF : Nat} (K : a2r X Z a0 l n1 a h0) (hw : HW a0 Z) {k32 : Int32 → Int32 → St → Option (St)} {i2 i3 : Int32} {i4 i5 : Int32} {σ : St} {r : St} (hk32 : ∀ (i2 i3 : Int32) (σ : St) (h : k32 i2 i3 σ = some r), Go X (none, (r, 24)) 32 [some (.ref 0), none, vvI i2, vvI i3, none, none] [] (σ, 24)) (h : a2Z NF k32 i2 i3 i4 i5 σ = some r) : Go X (none, (r, 24)) 127 [some (.ref 0), none, vvI i2, vvI i3, vvI i4, vvI i5] [] (σ, 24) := by
 unfold a2Z at h
 refine a0a K.1 b09.1.2.2 rfl (a0a K.1 b09.2.1.1 rfl (a0k K b09.2.1.2 (w24 hw) a4a rfl (a0f K.1 b09.2.2.1 rfl ?_)))
 refine a0d (v := 8) K.1 b09.2.2.2 (by decide) ?_
 refine b0a K.1 b1B.1.1.1 (a0f K.1 b1B.1.1.2 rfl (a0z K.1 b1B.1.2.1 ?_))
 obtain ⟨hc140, h⟩ := ifn h
 refine a0j K b1B.1.2.2 a3N rfl hc140 (a0b K.1 b1B.2.1.1 rfl ?_)
 obtain ⟨q142, hq142, h⟩ := bsq h
 refine a0g (vs := [.int (gA σ 6 (((i4 * 8) + i5)).toInt), .int i2]) K b1B.2.1.2 (c0d hw) (b9M hw) (c0b hw) (c1M hw) hyC b4S rfl rfl (b1T l Z a0 hw n1 a (a0i K) hq142) rfl (nbq rfl) (nbq rfl) rfl rfl (a0m (L' := [some (.ref 0), none, vvI q142.1, vvI i3, vvI i4, vvI i5]) K.1 b1B.2.2.1 (blt rfl) rfl ?_)
 exact a0n (a2N K hw hk32 h) (ls (ls (ls (ls (ln (ln l0))))))
def a8q (NF : Nat) (k32 : b6D) (i2 i3 : Int32) (σ : St) : Option (St) :=
 (if i3 < 1024 then (if 0 < i2 then (if 64 < i2 then (some σ) else (if 0 ≤ ((i2 - 1)).toInt ∧ ((i2 - 1)).toInt < 64 then (if 0 ≤ ((i2 - 1)).toInt ∧ ((i2 - 1)).toInt < 64 then (if 0 ≤ ((gA σ 23 ((i2 - 1)).toInt)).toInt ∧ ((gA σ 23 ((i2 - 1)).toInt)).toInt < 1024 then (if (gA σ 24 ((i2 - 1)).toInt) < (gA σ 2 ((gA σ 23 ((i2 - 1)).toInt)).toInt) then (if (gA σ 24 ((i2 - 1)).toInt) < 8 then (if 0 ≤ ((i2 - 1)).toInt ∧ ((i2 - 1)).toInt < 64 then (if 0 < (gA σ 24 ((i2 - 1)).toInt) then ((a6w (sA σ 24 ((i2 - 1)).toInt ((gA σ 24 ((i2 - 1)).toInt) + 1)) (32 : Int32)).bind fun q124 => a2Z NF k32 i2 i3 (gA σ 23 ((i2 - 1)).toInt) (gA σ 24 ((i2 - 1)).toInt) q124) else a2Z NF k32 i2 i3 (gA σ 23 ((i2 - 1)).toInt) (gA σ 24 ((i2 - 1)).toInt) (sA σ 24 ((i2 - 1)).toInt ((gA σ 24 ((i2 - 1)).toInt) + 1))) else none) else a3L NF k32 i2 i3 σ) else a3L NF k32 i2 i3 σ) else none) else none) else none)) else (some σ)) else (some σ))
theorem b2B {NF : Nat} (K : a2r X Z a0 l n1 a h0) (hw : HW a0 Z) {k32 : Int32 → Int32 → St → Option (St)} {i2 i3 : Int32} {σ : St} {r : St} (hk32 : ∀ (i2 i3 : Int32) (σ : St) (h : k32 i2 i3 σ = some r), Go X (none, (r, 24)) 32 [some (.ref 0), none, vvI i2, vvI i3, none, none] [] (σ, 24)) (h : a8q NF k32 i2 i3 σ = some r) : Go X (none, (r, 24)) 32 [some (.ref 0), none, vvI i2, vvI i3, none, none] [] (σ, 24) := by
 unfold a8q at h
 refine a0b K.1 a9W.2.1.2 rfl ?_
 refine a0I (v := 1024) K.1 a9W.2.2.1 (by decide) ?_
 rcases ifs h with ⟨hc36, h⟩ | ⟨hc36, h⟩
 ·refine a0o K.1 a9W.2.2.2 ((tlt hc36).2.1) (a0b K.1 a6k.1.1.1 rfl ?_)
  rcases ifs h with ⟨hc40, h⟩ | ⟨hc40, h⟩
  ·refine a0t K.1 a6k.1.1.2 ((if0 _ _).trans (tlt hc40).2.2.2) (a0b K.1 a6k.1.2.1 rfl ?_)
   refine a0d (v := 64) K.1 a6k.1.2.2 (by decide) ?_
   rcases ifs h with ⟨hc46, h⟩ | ⟨hc46, h⟩
   ·refine a0p (pc' := 152) K.1 a6k.2.1.1 (by decide) ((tlt hc46).2.2.1) ?_
    cases h; exact a0F K.1 a6k.2.1.2 (a0w K)
   refine a0o K.1 a6k.2.1.1 ((flt hc46).2.2.1) (a0a K.1 a6k.2.2.1 rfl (a0k K a6k.2.2.2 (w59 hw) b6k rfl (a0b K.1 b1C.1.1.1 rfl ?_)))
   refine a0c (v := 1) K.1 b1C.1.1.2 (by decide) ?_
   refine a1l K.1 b1C.1.2.1 ?_
   obtain ⟨hc56, h⟩ := ifn h
   refine a0j K b1C.1.2.2 b6q rfl hc56 (a0q (L' := [some (.ref 0), none, vvI i2, vvI i3, some (.int (gA σ 23 ((i2 - 1)).toInt)), none]) K.1 b1C.2.1.1 (blt rfl) rfl (a0a K.1 b1C.2.1.2 rfl (a0k K b1C.2.2.1 (w61 hw) b5L rfl (a0b K.1 b1C.2.2.2 rfl ?_))))
   refine a0c (v := 1) K.1 b1u.1.1.1 (by decide) ?_
   refine a1l K.1 b1u.1.1.2 ?_
   obtain ⟨hc66, h⟩ := ifn h
   refine a0j K b1u.1.2.1 b5K rfl hc66 (a0q (L' := [some (.ref 0), none, vvI i2, vvI i3, some (.int (gA σ 23 ((i2 - 1)).toInt)), some (.int (gA σ 24 ((i2 - 1)).toInt))]) K.1 b1u.1.2.2 (blt rfl) rfl (a0f K.1 b1u.2.1.1 rfl (a0a K.1 b1u.2.1.2 rfl (a0k K b1u.2.2.1 (w16 hw) a0L rfl (a0f K.1 b1u.2.2.2 rfl ?_)))))
   obtain ⟨hc77, h⟩ := ifn h
   refine a0j K a9c.1.1.1 a0K rfl hc77 ?_
   rcases ifs h with ⟨hc78, h⟩ | ⟨hc78, h⟩
   ·refine a0o K.1 a9c.1.1.2 ((tlt hc78).2.1) (a0f K.1 a9c.1.2.1 rfl ?_)
    refine a0d (v := 8) K.1 a9c.1.2.2 (by decide) ?_
    rcases ifs h with ⟨hc85, h⟩ | ⟨hc85, h⟩
    ·refine a0p (pc' := 104) K.1 a9c.2.1.1 (by decide) ((tlt hc85).1) ?_
     refine a0a K.1 a9c.2.1.2 rfl (a0k K a9c.2.2.1 (w61 hw) b5L rfl (a0b K.1 a9c.2.2.2 rfl ?_))
     refine a0c (v := 1) K.1 b0H.1.1.1 (by decide) ?_
     refine a1l K.1 b0H.1.1.2 (a0f K.1 b0H.1.2.1 rfl ?_)
     refine a0c (v := 1) K.1 b0H.1.2.2 (by decide) ?_
     refine a0z K.1 b0H.2.1.1 ?_
     obtain ⟨hc115, h⟩ := ifn h
     refine a0r K b0H.2.1.2 b5K rfl hc115 (a0f K.1 b0H.2.2.1 rfl ?_)
     rcases ifs h with ⟨hc118, h⟩ | ⟨hc118, h⟩
     ·refine a0t K.1 b0H.2.2.2 ((if0 _ _).trans (tlt hc118).2.2.2) (a0a K.1 b09.1.1.1 rfl ?_)
      refine a0d (v := 32) K.1 b09.1.1.2 (by decide) ?_
      obtain ⟨q124, hq124, h⟩ := bsq h
      refine a0g (vs := [.int (32 : Int32)]) K b09.1.2.1 (b6t hw) (b6r hw) (b6h hw) (b6w hw) hyC a9E rfl rfl (a1v l Z a0 hw n1 a (a0i K) hq124) rfl (nbq rfl) (nbq rfl) rfl rfl ?_
      exact a6t K hw hk32 h
     refine a0u (pc' := 127) K.1 b0H.2.2.2 (by decide) ((if0 _ _).trans (flt hc118).2.2.2) ?_
     exact a6t K hw hk32 h
    refine a0o K.1 a9c.2.1.1 ((flt hc85).1) ?_
    exact a0n (a63 K hw hk32 h) (ls (ls (ls (ls (ln (ln l0))))))
   refine a0p (pc' := 88) K.1 a9c.1.1.2 (by decide) ((flt hc78).2.1) ?_
   exact a0n (a63 K hw hk32 h) (ls (ls (ls (ls (ln (ln l0))))))
  refine a0u (pc' := 152) K.1 a6k.1.1.2 (by decide) ((if0 _ _).trans (flt hc40).2.2.2) ?_
  cases h; exact a0F K.1 a6k.2.1.2 (a0w K)
 refine a0p (pc' := 152) K.1 a9W.2.2.2 (by decide) ((flt hc36).2.1) ?_
 cases h; exact a0F K.1 a6k.2.1.2 (a0w K)
def a7M (NF : Nat)  : Nat → b6D
 | 0 => fun _ _ _ => none
 | n + 1 => fun i2 i3 σ => a8q NF  (a7M NF  n) i2 i3 σ
theorem b17 {NF : Nat} (K : a2r X Z a0 l n1 a h0) (hw : HW a0 Z) (n : Nat)  {r : St}  : ∀ (i2 i3 : Int32) (σ : St) (h : a7M NF  n i2 i3 σ = some r), Go X (none, (r, 24)) 32 [some (.ref 0), none, vvI i2, vvI i3, none, none] [] (σ, 24) := by
 induction n with
 | zero => intro i2 i3 σ h; cases h
 | succ n ih => intro i2 i3 σ h; exact b2B (NF := NF) K hw  ih h
def b12 (NF : Nat) (σ : St) (v1 : Int32) : Option (St) :=
 ((a0Y (sI σ 149 (0 : Int32)) v1).bind fun q7 => (if q7.1 = 0 then (some q7.2) else a7M NF NF (1 : Int32) (0 : Int32) (sA (sA q7.2 23 ((0 : Int32)).toInt v1) 24 ((0 : Int32)).toInt (0 : Int32))))
theorem b4A {NF : Nat} (K : a2r X Z a0 l n1 a h0) (hw : HW a0 Z) {σ : St} {v1 : Int32} {r : St} (h : b12 NF σ v1 = some r) : Go X (none, (r, 24)) 0 [some (.ref 0), vvI v1, none, none, none, none] [] (σ, 24) := by
 unfold b12 at h
 refine a0a K.1 b3z.1.1.1 rfl ?_
 refine a0c (v := 0) K.1 b3z.1.1.2 (by decide) ?_
 refine a0R (t := .int) (v' := (0 : Int32)) K b3z.1.2.1 (w77 hw) a1y (Or.inl (w78 hw)) a1o rfl rfl (a0a K.1 b3z.1.2.2 rfl (a0b K.1 b3z.2.1.1 rfl ?_))
 obtain ⟨q7, hq7, h⟩ := bsq h
 refine a0g (vs := [.int v1]) K b3z.2.1.2 (b29 hw) (b27 hw) (b2O hw) (b2Q hw) hyC a1D rfl rfl (a0x l Z a0 hw n1 a (a0i K) hq7) rfl (nbq rfl) (nbq rfl) rfl rfl ?_
 rcases ifs h with ⟨hc10, h⟩ | ⟨hc10, h⟩
 ·refine a0t K.1 b3z.2.2.1 ((if0 _ _).trans (teq hc10).2) ?_
  cases h; exact a0F K.1 b7T (a0w K)
 refine a0u (pc' := 14) K.1 b3z.2.2.1 (by decide) ((if0 _ _).trans (feq hc10).2) ?_
 refine a0a K.1 b3z.2.2.2 rfl (a0k K b4t.1.1.1 (w59 hw) b6k rfl ?_)
 refine a0c (v := 0) K.1 b4t.1.1.2 (by decide) ?_
 refine a0b K.1 b4t.1.2.1 rfl ?_
 refine a0r K b4t.1.2.2 b6q rfl (by decide) ?_
 refine a0a K.1 b4t.2.1.1 rfl (a0k K b4t.2.1.2 (w61 hw) b5L rfl ?_)
 refine a0c (v := 0) K.1 b4t.2.2.1 (by decide) ?_
 refine a0c (v := 0) K.1 b4t.2.2.2 (by decide) ?_
 refine a0r K a9W.1.1.1 b5K rfl (by decide) ?_
 refine a0c (v := 1) K.1 a9W.1.1.2 (by decide) ?_
 refine a0m (L' := [some (.ref 0), vvI v1, some (.int (1 : Int32)), none, none, none]) K.1 a9W.1.2.1 (blt rfl) rfl ?_
 refine a0c (v := 0) K.1 a9W.1.2.2 (by decide) ?_
 refine a0m (L' := [some (.ref 0), vvI v1, some (.int (1 : Int32)), some (.int (0 : Int32)), none, none]) K.1 a9W.2.1.1 (blt rfl) rfl ?_
 exact a0n (b17 K hw NF  _ _ _ h) (ls (ln (ls (ls (ls (ls l0))))))
theorem b4r (l : Launch) (Z : State) (a0 : Array Value) (hw : HW a0 Z) (n1 : Nat) (a : Addr) (ha : n1 ≤ a) {NF : Nat} {σ : St} {v1 : Int32} {r : St} (h : b12 NF σ v1 = some r) : Con l Z cC cFS cFA 24 n1 a ⟨cC, "render", "(I)V"⟩ c6 6 none ⟨3, 0, 0, 42⟩ [.ref 0, .int v1] σ none r :=
 a0l pnC rfl (a1m hw) a0E ha (fun X h1 K => b4A K hw h)
abbrev b1J := KKQ ⟨4, 0, 0, 59⟩ "prepareText" c3 2 (some .boolean)
def a2e (NF : Nat) (σ : St) (v1 : Int32) : Option (Int32 × St) :=
 ((a16 σ v1).bind fun q2 => (if q2.1 = 0 then (some ((0 : Int32), q2.2)) else (if (gI q2.2 150) = v1 then (some ((1 : Int32), q2.2)) else (if 0 ≤ (v1).toInt ∧ (v1).toInt < 5 then ((b12 NF q2.2 (gA q2.2 9 (v1).toInt)).bind fun q25 => (some ((1 : Int32), (sI q25 150 v1)))) else none))))
theorem b1O {NF : Nat} (K : b1J X Z a0 l n1 a h0) (hw : HW a0 Z) {σ : St} {v1 : Int32} {r : Int32 × St} (h : a2e NF σ v1 = some r) : Go X (vvI r.1, (r.2, 24)) 0 [some (.ref 0), vvI v1] [] (σ, 24) := by
 unfold a2e at h
 refine a0a K.1 b2V.1.1.1 rfl (a0b K.1 b2V.1.1.2 rfl ?_)
 obtain ⟨q2, hq2, h⟩ := bsq h
 refine b0S (vs := [.int v1]) K b2V.1.2.1 (b7d hw) (b7b hw) (b61 hw) (b7i hw) (b65 hw) hyC a1D rfl rfl (a1A l Z a0 hw n1 a (a0i K) hq2) rfl (nbq rfl) (nbq rfl) rfl rfl ?_
 rcases ifs h with ⟨hc5, h⟩ | ⟨hc5, h⟩
 ·refine a0t K.1 b2V.1.2.2 ((if0 _ _).trans (teq hc5).2) ?_
  refine a0c (v := 0) K.1 b2n.2.1 (by decide) ?_
  cases h; exact a0h (t := .boolean) K.1 rfl (Or.inl rfl) b2n.2.2 rfl (a0w K)
 refine a0u (pc' := 10) K.1 b2V.1.2.2 (by decide) ((if0 _ _).trans (feq hc5).2) ?_
 refine a0a K.1 b2V.2.1.1 rfl (a0s K b2V.2.1.2 (w75 hw) a8y (a0b K.1 b2V.2.2.1 rfl ?_))
 rcases ifs h with ⟨hc15, h⟩ | ⟨hc15, h⟩
 ·refine a0p (pc' := 33) K.1 b2V.2.2.2 (by decide) ((teq hc15).1) ?_
  refine a0c (v := 1) K.1 b2n.1.1.2 (by decide) ?_
  cases h; exact a0h (t := .boolean) K.1 rfl (Or.inl rfl) b2n.1.2 rfl (a0w K)
 refine a0o K.1 b2V.2.2.2 ((feq hc15).1) (a0a K.1 b38.1.1.1 rfl (a0a K.1 b38.1.1.2 rfl (a0k K b38.1.2.1 (w30 hw) a2R rfl (a0b K.1 b38.1.2.2 rfl ?_))))
 obtain ⟨hc24, h⟩ := ifn h
 refine a0j K b38.2.1.1 a2T rfl hc24 ?_
 obtain ⟨q25, hq25, h⟩ := bsq h
 refine a0g (vs := [.int (gA q2.2 9 (v1).toInt)]) K b38.2.1.2 (c0D hw) (c1H hw) (c1w hw) (c0w hw) hyC a9E rfl rfl (b4r l Z a0 hw n1 a (a0i K) hq25) rfl (nbq rfl) (nbq rfl) rfl rfl (a0a K.1 b38.2.2.1 rfl (a0b K.1 b38.2.2.2 rfl (a0R (t := .int) (v' := v1) K b2n.1.1.1 (w75 hw) a8y (Or.inl (w76 hw)) a1o rfl rfl ?_)))
 refine a0c (v := 1) K.1 b2n.1.1.2 (by decide) ?_
 cases h; exact a0h (t := .boolean) K.1 rfl (Or.inl rfl) b2n.1.2 rfl (a0w K)
theorem a44 (l : Launch) (Z : State) (a0 : Array Value) (hw : HW a0 Z) (n1 : Nat) (a : Addr) (ha : n1 ≤ a) {NF : Nat} {σ : St} {v1 : Int32} {r : Int32 × St} (h : a2e NF σ v1 = some r) : Con l Z cC cFS cFA 24 n1 a ⟨cC, "prepareText", "(I)Z"⟩ c3 2 (some .boolean) ⟨4, 0, 0, 59⟩ [.ref 0, .int v1] σ (some (.int r.1)) r.2 :=
 a0l pnC rfl (a1m hw) a0E ha (fun X h1 K => b1O K hw h)
abbrev b3K := KKQ ⟨5, 0, 0, 72⟩ "textChar" c2 3 (some .char)
def a1X (NF : Nat) (σ : St) (v1 v2 : Int32) : Option (Int32 × St) :=
 ((a2e NF σ v1).bind fun q2 => (if q2.1 = 0 then (some ((nar .char (0 : Int32)), q2.2)) else (if v2 < 0 then (some ((nar .char (0 : Int32)), q2.2)) else (if v2 < (gI q2.2 149) then (if v2 < 256 then (if 0 ≤ (v2).toInt ∧ (v2).toInt < 256 then (some ((nar .char (gA q2.2 22 (v2).toInt)), q2.2)) else none) else (some ((nar .char (0 : Int32)), q2.2))) else (some ((nar .char (0 : Int32)), q2.2))))))
theorem b3E {NF : Nat} (K : b3K X Z a0 l n1 a h0) (hw : HW a0 Z) {σ : St} {v1 v2 : Int32} {r : Int32 × St} (h : a1X NF σ v1 v2 = some r) : Go X (vvI r.1, (r.2, 24)) 0 [some (.ref 0), vvI v1, vvI v2] [] (σ, 24) := by
 unfold a1X at h
 refine a0a K.1 b3c.1.1.1 rfl (a0b K.1 b3c.1.1.2 rfl ?_)
 obtain ⟨q2, hq2, h⟩ := bsq h
 refine a0g (vs := [.int v1]) K b3c.1.2.1 (b86 hw) (b9h hw) (b9G hw) (b84 hw) hyC a1D rfl rfl (a44 l Z a0 hw n1 a (a0i K) hq2) rfl (nbq rfl) (nbq rfl) rfl rfl ?_
 rcases ifs h with ⟨hc5, h⟩ | ⟨hc5, h⟩
 ·refine a0t K.1 b3c.1.2.2 ((if0 _ _).trans (teq hc5).2) ?_
  refine a0c (v := 0) K.1 a82.2.1.2 (by decide) ?_
  cases h; exact a0h (t := .char) K.1 rfl (Or.inr (Or.inr (Or.inl rfl))) a82.2.2 rfl (a0w K)
 refine a0u (pc' := 10) K.1 b3c.1.2.2 (by decide) ((if0 _ _).trans (feq hc5).2) ?_
 refine a0b K.1 b3c.2.1.1 rfl ?_
 rcases ifs h with ⟨hc11, h⟩ | ⟨hc11, h⟩
 ·refine a0u (pc' := 29) K.1 b3c.2.1.2 (by decide) ((if0 _ _).trans (tlt hc11).1) ?_
  refine a0c (v := 0) K.1 a82.1.2 (by decide) ?_
  cases h; exact a0h (t := .char) K.1 rfl (Or.inr (Or.inr (Or.inl rfl))) a82.2.1.1 rfl (a0w K)
 refine a0t K.1 b3c.2.1.2 ((if0 _ _).trans (flt hc11).1) (a0b K.1 b3c.2.2.1 rfl (a0a K.1 b3c.2.2.2 rfl (a0s K b2W.1.1.1 (w77 hw) a1y ?_)))
 rcases ifs h with ⟨hc19, h⟩ | ⟨hc19, h⟩
 ·refine a0o K.1 b2W.1.1.2 ((tlt hc19).2.1) (a0b K.1 b2W.1.2.1 rfl ?_)
  refine a0I (v := 256) K.1 b2W.1.2.2 (by decide) ?_
  rcases ifs h with ⟨hc26, h⟩ | ⟨hc26, h⟩
  ·refine a0p (pc' := 31) K.1 b2W.2.1.1 (by decide) ((tlt hc26).1) ?_
   refine a0a K.1 b2W.2.1.2 rfl (a0k K b2W.2.2.1 (w57 hw) b4B rfl (a0b K.1 b2W.2.2.2 rfl ?_))
   obtain ⟨hc36, h⟩ := ifn h
   refine b6n K a82.1.1.1 b4R rfl hc36 ?_
   cases h; exact a0h (t := .char) K.1 rfl (Or.inr (Or.inr (Or.inl rfl))) a82.1.1.2 rfl (a0w K)
  refine a0o K.1 b2W.2.1.1 ((flt hc26).1) ?_
  refine a0c (v := 0) K.1 a82.1.2 (by decide) ?_
  cases h; exact a0h (t := .char) K.1 rfl (Or.inr (Or.inr (Or.inl rfl))) a82.2.1.1 rfl (a0w K)
 refine a0p (pc' := 29) K.1 b2W.1.1.2 (by decide) ((flt hc19).2.1) ?_
 refine a0c (v := 0) K.1 a82.1.2 (by decide) ?_
 cases h; exact a0h (t := .char) K.1 rfl (Or.inr (Or.inr (Or.inl rfl))) a82.2.1.1 rfl (a0w K)
theorem a1G (l : Launch) (Z : State) (a0 : Array Value) (hw : HW a0 Z) (n1 : Nat) (a : Addr) (ha : n1 ≤ a) {NF : Nat} {σ : St} {v1 v2 : Int32} {r : Int32 × St} (h : a1X NF σ v1 v2 = some r) : Con l Z cC cFS cFA 24 n1 a ⟨cC, "textChar", "(II)C"⟩ c2 3 (some .char) ⟨5, 0, 0, 72⟩ [.ref 0, .int v1, .int v2] σ (some (.int r.1)) r.2 :=
 a0l pnC rfl (a1m hw) a0E ha (fun X h1 K => b3E K hw h)
abbrev b5h (X : Cx (List (St × Nat))) (Z : State) (a0 : Array Value) (l : Launch) (n1 : Nat) (sc : Addr) (H0 : Heap) : Prop := b5Z X Z a0 cC cFS cFA 24 39 l n1 sc H0 ceS ⟨0, 0, 0, 0⟩ 0 0 "BoxedArrayLangL3" "first" c12 1 (some .int)
def b0V (v0 : Int32) : Option (Int32) :=
 (if v0 < 0 then (some (45 : Int32)) else (some (48 + v0)))
theorem b5i {X : Cx (List (St × Nat))} {y0 : St} (K : b5h X Z a0 l n1 sc H0) (hw : HW a0 Z) {v0 r : Int32} (h : b0V v0 = some r) : Go X (vvI r, [(y0, 24)]) 0 [vvI v0] [] [(y0, 24)] := by
 unfold b0V at h
 refine a0b K.1 a8Y.1.1.1 rfl ?_
 rcases ifs h with ⟨hc1, h⟩ | ⟨hc1, h⟩
 ·refine a0t K.1 a8Y.1.1.2 ((if0 _ _).trans (tlt hc1).2.1) ?_
  refine a0d (v := 45) K.1 a8Y.2.1.2 (by decide) ?_
  refine a0y (pc' := 13) K.1 a8Y.2.2.1 (by decide) ?_
  cases h; exact a0e K.1 a8Y.2.2.2 (b2A K (ble rfl) (ble rfl))
 refine a0u (pc' := 9) K.1 a8Y.1.1.2 (by decide) ((if0 _ _).trans (flt hc1).2.1) ?_
 refine a0d (v := 48) K.1 a8Y.1.2.1 (by decide) ?_
 refine a0b K.1 a8Y.1.2.2 rfl (a0z K.1 a8Y.2.1.1 ?_)
 cases h; exact a0e K.1 a8Y.2.2.2 (b2A K (ble rfl) (ble rfl))
theorem a9v (l : Launch) (Z : State) (a0 : Array Value) (hw : HW a0 Z) (n1 : Nat) (sc : Addr) (H0 : Heap) (hH : H0.size = n1) {y0 : St} {v0 r : Int32} (h : b0V v0 = some r) : b7E l Z cC cFS cFA 24 n1 sc H0 ⟨"BoxedArrayLangL3", "first", "(I)I"⟩ c12 1 (some .int) ⟨0, 0, 0, 0⟩ [.int v0] [(y0, 24)] (some (.int r)) [(y0, 24)] :=
 b0T pnL rfl (a1m hw) a0E hH (fun X K => b5i K hw h)
abbrev b33 := KKQ ⟨0, 0, 0, 0⟩ "isDigit" c15 2 (some .boolean)
def a40 (σ : St) (v1 : Int32) : Option (Int32 × St) :=
 (if v1 < 48 then (some ((0 : Int32), σ)) else (if 57 < v1 then (some ((0 : Int32), σ)) else (some ((1 : Int32), σ))))
theorem b4l (K : b33 X Z a0 l n1 a h0) (hw : HW a0 Z) {σ : St} {v1 : Int32} {r : Int32 × St} (h : a40 σ v1 = some r) : Go X (vvI r.1, (r.2, 24)) 0 [some (.ref 0), vvI v1] [] (σ, 24) := by
 unfold a40 at h
 refine a0b K.1 a7I.1.1.1 rfl ?_
 refine a0d (v := 48) K.1 a7I.1.1.2 (by decide) ?_
 rcases ifs h with ⟨hc3, h⟩ | ⟨hc3, h⟩
 ·refine a0p (pc' := 16) K.1 a7I.1.2.1 (by decide) ((tlt hc3).1) ?_
  refine a0c (v := 0) K.1 a7I.2.2.1 (by decide) ?_
  cases h; exact a0h (t := .boolean) K.1 rfl (Or.inl rfl) b47.2 rfl (a0w K)
 refine a0o K.1 a7I.1.2.1 ((flt hc3).1) (a0b K.1 a7I.1.2.2 rfl ?_)
 refine a0d (v := 57) K.1 a7I.2.1.1 (by decide) ?_
 rcases ifs h with ⟨hc9, h⟩ | ⟨hc9, h⟩
 ·refine a0p (pc' := 16) K.1 a7I.2.1.2 (by decide) ((tlt hc9).2.2.1) ?_
  refine a0c (v := 0) K.1 a7I.2.2.1 (by decide) ?_
  cases h; exact a0h (t := .boolean) K.1 rfl (Or.inl rfl) b47.2 rfl (a0w K)
 refine a0o K.1 a7I.2.1.2 ((flt hc9).2.2.1) ?_
 refine a0c (v := 1) K.1 a7I.2.2.2 (by decide) ?_
 refine a0y (pc' := 17) K.1 b47.1 (by decide) ?_
 cases h; exact a0h (t := .boolean) K.1 rfl (Or.inl rfl) b47.2 rfl (a0w K)
theorem a5i (l : Launch) (Z : State) (a0 : Array Value) (hw : HW a0 Z) (n1 : Nat) (a : Addr) (ha : n1 ≤ a) {σ : St} {v1 : Int32} {r : Int32 × St} (h : a40 σ v1 = some r) : Con l Z cC cFS cFA 24 n1 a ⟨cC, "isDigit", "(I)Z"⟩ c15 2 (some .boolean) ⟨0, 0, 0, 0⟩ [.ref 0, .int v1] σ (some (.int r.1)) r.2 :=
 a0l pnC rfl (a1m hw) a0E ha (fun X h1 K => b4l K hw h)
abbrev b26 := KKQ ⟨0, 0, 0, 0⟩ "isVarChar" c16 2 (some .boolean)
def a3d (σ : St) (v1 : Int32) : Option (Int32 × St) :=
 (if v1 < 97 then (some ((0 : Int32), σ)) else (if 100 < v1 then (some ((0 : Int32), σ)) else (some ((1 : Int32), σ))))
theorem b3g (K : b26 X Z a0 l n1 a h0) (hw : HW a0 Z) {σ : St} {v1 : Int32} {r : Int32 × St} (h : a3d σ v1 = some r) : Go X (vvI r.1, (r.2, 24)) 0 [some (.ref 0), vvI v1] [] (σ, 24) := by
 unfold a3d at h
 refine a0b K.1 a6A.1.1.1 rfl ?_
 refine a0d (v := 97) K.1 a6A.1.1.2 (by decide) ?_
 rcases ifs h with ⟨hc3, h⟩ | ⟨hc3, h⟩
 ·refine a0p (pc' := 16) K.1 a6A.1.2.1 (by decide) ((tlt hc3).1) ?_
  refine a0c (v := 0) K.1 a6A.2.2.1 (by decide) ?_
  cases h; exact a0h (t := .boolean) K.1 rfl (Or.inl rfl) b45.2 rfl (a0w K)
 refine a0o K.1 a6A.1.2.1 ((flt hc3).1) (a0b K.1 a6A.1.2.2 rfl ?_)
 refine a0d (v := 100) K.1 a6A.2.1.1 (by decide) ?_
 rcases ifs h with ⟨hc9, h⟩ | ⟨hc9, h⟩
 ·refine a0p (pc' := 16) K.1 a6A.2.1.2 (by decide) ((tlt hc9).2.2.1) ?_
  refine a0c (v := 0) K.1 a6A.2.2.1 (by decide) ?_
  cases h; exact a0h (t := .boolean) K.1 rfl (Or.inl rfl) b45.2 rfl (a0w K)
 refine a0o K.1 a6A.2.1.2 ((flt hc9).2.2.1) ?_
 refine a0c (v := 1) K.1 a6A.2.2.2 (by decide) ?_
 refine a0y (pc' := 17) K.1 b45.1 (by decide) ?_
 cases h; exact a0h (t := .boolean) K.1 rfl (Or.inl rfl) b45.2 rfl (a0w K)
theorem a73 (l : Launch) (Z : State) (a0 : Array Value) (hw : HW a0 Z) (n1 : Nat) (a : Addr) (ha : n1 ≤ a) {σ : St} {v1 : Int32} {r : Int32 × St} (h : a3d σ v1 = some r) : Con l Z cC cFS cFA 24 n1 a ⟨cC, "isVarChar", "(I)Z"⟩ c16 2 (some .boolean) ⟨0, 0, 0, 0⟩ [.ref 0, .int v1] σ (some (.int r.1)) r.2 :=
 a0l pnC rfl (a1m hw) a0E ha (fun X h1 K => b3g K hw h)
abbrev a3q := KKQ ⟨0, 0, 0, 0⟩ "isMonadicGlyph" c18 2 (some .boolean)
def a0C  (σ : St) : Option (Int32 × St) :=
 (some ((1 : Int32), σ))
theorem a0G (K : a3q X Z a0 l n1 a h0) (hw : HW a0 Z)  {σ : St} {r : Int32 × St}  (h : a0C  σ = some r) : Go X (vvI r.1, (r.2, 24)) 36 [none, none] [] (σ, 24) := by
 unfold a0C at h
 refine a0c (v := 1) K.1 a7U.2.1.1 (by decide) ?_
 refine a0y (pc' := 41) K.1 a7U.2.1.2 (by decide) ?_
 cases h; exact a0h (t := .boolean) K.1 rfl (Or.inl rfl) a7U.2.2 rfl (a0w K)
def a1h (σ : St) (v1 : Int32) : Option (Int32 × St) :=
 (if v1 = 45 then a0C σ else (if v1 = 60 then a0C σ else (if v1 = 62 then a0C σ else (if v1 = 61 then a0C σ else (if v1 = 35 then a0C σ else (if v1 = 105 then a0C σ else (some ((0 : Int32), σ))))))))
theorem a9w (K : a3q X Z a0 l n1 a h0) (hw : HW a0 Z) {σ : St} {v1 : Int32} {r : Int32 × St} (h : a1h σ v1 = some r) : Go X (vvI r.1, (r.2, 24)) 0 [some (.ref 0), vvI v1] [] (σ, 24) := by
 unfold a1h at h
 refine a0b K.1 a8L.1.1.1 rfl ?_
 refine a0d (v := 45) K.1 a8L.1.1.2 (by decide) ?_
 rcases ifs h with ⟨hc3, h⟩ | ⟨hc3, h⟩
 ·refine a0p (pc' := 36) K.1 a8L.1.2.1 (by decide) ((teq hc3).1) ?_
  exact a0n (a0G K hw  h) (ln (ln l0))
 refine a0o K.1 a8L.1.2.1 ((feq hc3).1) (a0b K.1 a8L.1.2.2 rfl ?_)
 refine a0d (v := 60) K.1 a8L.2.1.1 (by decide) ?_
 rcases ifs h with ⟨hc9, h⟩ | ⟨hc9, h⟩
 ·refine a0p (pc' := 36) K.1 a8L.2.1.2 (by decide) ((teq hc9).1) ?_
  exact a0n (a0G K hw  h) (ln (ln l0))
 refine a0o K.1 a8L.2.1.2 ((feq hc9).1) (a0b K.1 a8L.2.2.1 rfl ?_)
 refine a0d (v := 62) K.1 a8L.2.2.2 (by decide) ?_
 rcases ifs h with ⟨hc15, h⟩ | ⟨hc15, h⟩
 ·refine a0p (pc' := 36) K.1 a7a.1.1.1 (by decide) ((teq hc15).1) ?_
  exact a0n (a0G K hw  h) (ln (ln l0))
 refine a0o K.1 a7a.1.1.1 ((feq hc15).1) (a0b K.1 a7a.1.1.2 rfl ?_)
 refine a0d (v := 61) K.1 a7a.1.2.1 (by decide) ?_
 rcases ifs h with ⟨hc21, h⟩ | ⟨hc21, h⟩
 ·refine a0p (pc' := 36) K.1 a7a.1.2.2 (by decide) ((teq hc21).1) ?_
  exact a0n (a0G K hw  h) (ln (ln l0))
 refine a0o K.1 a7a.1.2.2 ((feq hc21).1) (a0b K.1 a7a.2.1.1 rfl ?_)
 refine a0d (v := 35) K.1 a7a.2.1.2 (by decide) ?_
 rcases ifs h with ⟨hc27, h⟩ | ⟨hc27, h⟩
 ·refine a0p (pc' := 36) K.1 a7a.2.2.1 (by decide) ((teq hc27).1) ?_
  exact a0n (a0G K hw  h) (ln (ln l0))
 refine a0o K.1 a7a.2.2.1 ((feq hc27).1) (a0b K.1 a7a.2.2.2 rfl ?_)
 refine a0d (v := 105) K.1 a7U.1.1.1 (by decide) ?_
 rcases ifs h with ⟨hc33, h⟩ | ⟨hc33, h⟩
 ·refine a0o K.1 a7U.1.1.2 ((teq hc33).2) ?_
  exact a0n (a0G K hw  h) (ln (ln l0))
 refine a0p (pc' := 40) K.1 a7U.1.1.2 (by decide) ((feq hc33).2) ?_
 refine a0c (v := 0) K.1 a7U.1.2 (by decide) ?_
 cases h; exact a0h (t := .boolean) K.1 rfl (Or.inl rfl) a7U.2.2 rfl (a0w K)
theorem a2S (l : Launch) (Z : State) (a0 : Array Value) (hw : HW a0 Z) (n1 : Nat) (a : Addr) (ha : n1 ≤ a) {σ : St} {v1 : Int32} {r : Int32 × St} (h : a1h σ v1 = some r) : Con l Z cC cFS cFA 24 n1 a ⟨cC, "isMonadicGlyph", "(I)Z"⟩ c18 2 (some .boolean) ⟨0, 0, 0, 0⟩ [.ref 0, .int v1] σ (some (.int r.1)) r.2 :=
 a0l pnC rfl (a1m hw) a0E ha (fun X h1 K => a9w K hw h)
abbrev a36 := KKQ ⟨0, 0, 0, 0⟩ "isDyadicGlyph" c19 2 (some .boolean)
def a0A  (σ : St) : Option (Int32 × St) :=
 (some ((1 : Int32), σ))
theorem a0D (K : a36 X Z a0 l n1 a h0) (hw : HW a0 Z)  {σ : St} {r : Int32 × St}  (h : a0A  σ = some r) : Go X (vvI r.1, (r.2, 24)) 42 [none, none] [] (σ, 24) := by
 unfold a0A at h
 refine a0c (v := 1) K.1 a4E.2.2.1 (by decide) ?_
 refine a0y (pc' := 47) K.1 a4E.2.2.2 (by decide) ?_
 cases h; exact a0h (t := .boolean) K.1 rfl (Or.inl rfl) b5E rfl (a0w K)
def a08 (σ : St) (v1 : Int32) : Option (Int32 × St) :=
 (if v1 = 43 then a0A σ else (if v1 = 45 then a0A σ else (if v1 = 42 then a0A σ else (if v1 = 44 then a0A σ else (if v1 = 35 then a0A σ else (if v1 = 61 then a0A σ else (if v1 = 62 then a0A σ else (some ((0 : Int32), σ)))))))))
theorem a9S (K : a36 X Z a0 l n1 a h0) (hw : HW a0 Z) {σ : St} {v1 : Int32} {r : Int32 × St} (h : a08 σ v1 = some r) : Go X (vvI r.1, (r.2, 24)) 0 [some (.ref 0), vvI v1] [] (σ, 24) := by
 unfold a08 at h
 refine a0b K.1 a8Q.1.1.1 rfl ?_
 refine a0d (v := 43) K.1 a8Q.1.1.2 (by decide) ?_
 rcases ifs h with ⟨hc3, h⟩ | ⟨hc3, h⟩
 ·refine a0p (pc' := 42) K.1 a8Q.1.2.1 (by decide) ((teq hc3).1) ?_
  exact a0n (a0D K hw  h) (ln (ln l0))
 refine a0o K.1 a8Q.1.2.1 ((feq hc3).1) (a0b K.1 a8Q.1.2.2 rfl ?_)
 refine a0d (v := 45) K.1 a8Q.2.1.1 (by decide) ?_
 rcases ifs h with ⟨hc9, h⟩ | ⟨hc9, h⟩
 ·refine a0p (pc' := 42) K.1 a8Q.2.1.2 (by decide) ((teq hc9).1) ?_
  exact a0n (a0D K hw  h) (ln (ln l0))
 refine a0o K.1 a8Q.2.1.2 ((feq hc9).1) (a0b K.1 a8Q.2.2.1 rfl ?_)
 refine a0d (v := 42) K.1 a8Q.2.2.2 (by decide) ?_
 rcases ifs h with ⟨hc15, h⟩ | ⟨hc15, h⟩
 ·refine a0p (pc' := 42) K.1 a61.1.1.1 (by decide) ((teq hc15).1) ?_
  exact a0n (a0D K hw  h) (ln (ln l0))
 refine a0o K.1 a61.1.1.1 ((feq hc15).1) (a0b K.1 a61.1.1.2 rfl ?_)
 refine a0d (v := 44) K.1 a61.1.2.1 (by decide) ?_
 rcases ifs h with ⟨hc21, h⟩ | ⟨hc21, h⟩
 ·refine a0p (pc' := 42) K.1 a61.1.2.2 (by decide) ((teq hc21).1) ?_
  exact a0n (a0D K hw  h) (ln (ln l0))
 refine a0o K.1 a61.1.2.2 ((feq hc21).1) (a0b K.1 a61.2.1.1 rfl ?_)
 refine a0d (v := 35) K.1 a61.2.1.2 (by decide) ?_
 rcases ifs h with ⟨hc27, h⟩ | ⟨hc27, h⟩
 ·refine a0p (pc' := 42) K.1 a61.2.2.1 (by decide) ((teq hc27).1) ?_
  exact a0n (a0D K hw  h) (ln (ln l0))
 refine a0o K.1 a61.2.2.1 ((feq hc27).1) (a0b K.1 a61.2.2.2 rfl ?_)
 refine a0d (v := 61) K.1 a4E.1.1.1 (by decide) ?_
 rcases ifs h with ⟨hc33, h⟩ | ⟨hc33, h⟩
 ·refine a0p (pc' := 42) K.1 a4E.1.1.2 (by decide) ((teq hc33).1) ?_
  exact a0n (a0D K hw  h) (ln (ln l0))
 refine a0o K.1 a4E.1.1.2 ((feq hc33).1) (a0b K.1 a4E.1.2.1 rfl ?_)
 refine a0d (v := 62) K.1 a4E.1.2.2 (by decide) ?_
 rcases ifs h with ⟨hc39, h⟩ | ⟨hc39, h⟩
 ·refine a0o K.1 a4E.2.1.1 ((teq hc39).2) ?_
  exact a0n (a0D K hw  h) (ln (ln l0))
 refine a0p (pc' := 46) K.1 a4E.2.1.1 (by decide) ((feq hc39).2) ?_
 refine a0c (v := 0) K.1 a4E.2.1.2 (by decide) ?_
 cases h; exact a0h (t := .boolean) K.1 rfl (Or.inl rfl) b5E rfl (a0w K)
theorem a1O (l : Launch) (Z : State) (a0 : Array Value) (hw : HW a0 Z) (n1 : Nat) (a : Addr) (ha : n1 ≤ a) {σ : St} {v1 : Int32} {r : Int32 × St} (h : a08 σ v1 = some r) : Con l Z cC cFS cFA 24 n1 a ⟨cC, "isDyadicGlyph", "(I)Z"⟩ c19 2 (some .boolean) ⟨0, 0, 0, 0⟩ [.ref 0, .int v1] σ (some (.int r.1)) r.2 :=
 a0l pnC rfl (a1m hw) a0E ha (fun X h1 K => a9S K hw h)
abbrev b1x := KKQ ⟨1, 0, 0, 13⟩ "isGlyph" c17 2 (some .boolean)
def a2X  (σ : St) : Option (Int32 × St) :=
 (some ((1 : Int32), σ))
theorem a6q (K : b1x X Z a0 l n1 a h0) (hw : HW a0 Z)  {σ : St} {r : Int32 × St}  (h : a2X  σ = some r) : Go X (vvI r.1, (r.2, 24)) 16 [none, none] [] (σ, 24) := by
 unfold a2X at h
 refine a0c (v := 1) K.1 b4g.1.2 (by decide) ?_
 refine a0y (pc' := 21) K.1 b4g.2.1 (by decide) ?_
 cases h; exact a0h (t := .boolean) K.1 rfl (Or.inl rfl) b4g.2.2 rfl (a0w K)
def a7Z (σ : St) (v1 : Int32) : Option (Int32 × St) :=
 ((a1h σ v1).bind fun q2 => (if q2.1 = 0 then ((a08 q2.2 v1).bind fun q10 => (if q10.1 = 0 then (some ((0 : Int32), q10.2)) else a2X q10.2)) else a2X q2.2))
theorem b4d (K : b1x X Z a0 l n1 a h0) (hw : HW a0 Z) {σ : St} {v1 : Int32} {r : Int32 × St} (h : a7Z σ v1 = some r) : Go X (vvI r.1, (r.2, 24)) 0 [some (.ref 0), vvI v1] [] (σ, 24) := by
 unfold a7Z at h
 refine a0a K.1 a9e.1.1.1 rfl (a0b K.1 a9e.1.1.2 rfl ?_)
 obtain ⟨q2, hq2, h⟩ := bsq h
 refine a0g (vs := [.int v1]) K a9e.1.2.1 (b85 hw) (b9r hw) (b9E hw) (b88 hw) hyC a1D rfl rfl (a2S l Z a0 hw n1 a (a0i K) hq2) rfl (nbq rfl) (nbq rfl) rfl rfl ?_
 rcases ifs h with ⟨hc5, h⟩ | ⟨hc5, h⟩
 ·refine a0t K.1 a9e.1.2.2 ((if0 _ _).trans (teq hc5).2) (a0a K.1 a9e.2.1.1 rfl (a0b K.1 a9e.2.1.2 rfl ?_))
  obtain ⟨q10, hq10, h⟩ := bsq h
  refine a0g (vs := [.int v1]) K a9e.2.2.1 (b8B hw) (b8k hw) (b8F hw) (b8v hw) hyC a1D rfl rfl (a1O l Z a0 hw n1 a (a0i K) hq10) rfl (nbq rfl) (nbq rfl) rfl rfl ?_
  rcases ifs h with ⟨hc13, h⟩ | ⟨hc13, h⟩
  ·refine a0u (pc' := 20) K.1 a9e.2.2.2 (by decide) ((if0 _ _).trans (teq hc13).1) ?_
   refine a0c (v := 0) K.1 b4g.1.1 (by decide) ?_
   cases h; exact a0h (t := .boolean) K.1 rfl (Or.inl rfl) b4g.2.2 rfl (a0w K)
  refine a0t K.1 a9e.2.2.2 ((if0 _ _).trans (feq hc13).1) ?_
  exact a0n (a6q K hw  h) (ln (ln l0))
 refine a0u (pc' := 16) K.1 a9e.1.2.2 (by decide) ((if0 _ _).trans (feq hc5).2) ?_
 exact a0n (a6q K hw  h) (ln (ln l0))
theorem b0z (l : Launch) (Z : State) (a0 : Array Value) (hw : HW a0 Z) (n1 : Nat) (a : Addr) (ha : n1 ≤ a) {σ : St} {v1 : Int32} {r : Int32 × St} (h : a7Z σ v1 = some r) : Con l Z cC cFS cFA 24 n1 a ⟨cC, "isGlyph", "(I)Z"⟩ c17 2 (some .boolean) ⟨1, 0, 0, 13⟩ [.ref 0, .int v1] σ (some (.int r.1)) r.2 :=
 a0l pnC rfl (a1m hw) a0E ha (fun X h1 K => b4d K hw h)
abbrev a6s := KKQ ⟨2, 0, 0, 26⟩ "allowedChar" c14 2 (some .boolean)
def a0S  (σ : St) : Option (Int32 × St) :=
 (some ((1 : Int32), σ))
theorem a0X (K : a6s X Z a0 l n1 a h0) (hw : HW a0 Z)  {σ : St} {r : Int32 × St}  (h : a0S  σ = some r) : Go X (vvI r.1, (r.2, 24)) 62 [none, none] [] (σ, 24) := by
 unfold a0S at h
 refine a0c (v := 1) K.1 a4e.2.2.2 (by decide) ?_
 refine a0y (pc' := 67) K.1 a3m.1.1 (by decide) ?_
 cases h; exact a0h (t := .boolean) K.1 rfl (Or.inl rfl) a3m.1.2 rfl (a0w K)
def a25 (σ : St) (v1 : Int32) : Option (Int32 × St) :=
 ((a40 σ v1).bind fun q2 => (if q2.1 = 0 then (if v1 = 32 then (some ((1 : Int32), q2.2)) else ((a3d q2.2 v1).bind fun q16 => (if q16.1 = 0 then ((a7Z q16.2 v1).bind fun q24 => (if q24.1 = 0 then (if v1 = 40 then a0S q24.2 else (if v1 = 41 then a0S q24.2 else (if v1 = 126 then a0S q24.2 else (if v1 = 47 then a0S q24.2 else (if v1 = 58 then a0S q24.2 else (some ((0 : Int32), q24.2))))))) else (some ((1 : Int32), q24.2)))) else (some ((1 : Int32), q16.2))))) else (some ((1 : Int32), q2.2))))
theorem b1H (K : a6s X Z a0 l n1 a h0) (hw : HW a0 Z) {σ : St} {v1 : Int32} {r : Int32 × St} (h : a25 σ v1 = some r) : Go X (vvI r.1, (r.2, 24)) 0 [some (.ref 0), vvI v1] [] (σ, 24) := by
 unfold a25 at h
 refine a0a K.1 a9l.1.1.1 rfl (a0b K.1 a9l.1.1.2 rfl ?_)
 obtain ⟨q2, hq2, h⟩ := bsq h
 refine a0g (vs := [.int v1]) K a9l.1.2.1 (w88 hw) (w89 hw) (w90 hw) (w91 hw) hyC a1D rfl rfl (a5i l Z a0 hw n1 a (a0i K) hq2) rfl (nbq rfl) (nbq rfl) rfl rfl ?_
 rcases ifs h with ⟨hc5, h⟩ | ⟨hc5, h⟩
 ·refine a0t K.1 a9l.1.2.2 ((if0 _ _).trans (teq hc5).2) (a0b K.1 a9l.2.1.1 rfl ?_)
  refine a0d (v := 32) K.1 a9l.2.1.2 (by decide) ?_
  rcases ifs h with ⟨hc11, h⟩ | ⟨hc11, h⟩
  ·refine a0p (pc' := 30) K.1 a9l.2.2.1 (by decide) ((teq hc11).1) ?_
   refine a0c (v := 1) K.1 a3m.2.1 (by decide) ?_
   cases h; exact a0h (t := .boolean) K.1 rfl (Or.inl rfl) a3m.2.2 rfl (a0w K)
  refine a0o K.1 a9l.2.2.1 ((feq hc11).1) (a0a K.1 a9l.2.2.2 rfl (a0b K.1 a9a.1.1.1 rfl ?_))
  obtain ⟨q16, hq16, h⟩ := bsq h
  refine a0g (vs := [.int v1]) K a9a.1.1.2 (w92 hw) (w93 hw) (w94 hw) (w95 hw) hyC a1D rfl rfl (a73 l Z a0 hw n1 a (a0i K) hq16) rfl (nbq rfl) (nbq rfl) rfl rfl ?_
  rcases ifs h with ⟨hc19, h⟩ | ⟨hc19, h⟩
  ·refine a0t K.1 a9a.1.2.1 ((if0 _ _).trans (teq hc19).2) (a0a K.1 a9a.1.2.2 rfl (a0b K.1 a9a.2.1.1 rfl ?_))
   obtain ⟨q24, hq24, h⟩ := bsq h
   refine a0g (vs := [.int v1]) K a9a.2.1.2 (w96 hw) (w97 hw) (w98 hw) (w99 hw) hyC a1D rfl rfl (b0z l Z a0 hw n1 a (a0i K) hq24) rfl (nbq rfl) (nbq rfl) rfl rfl ?_
   rcases ifs h with ⟨hc27, h⟩ | ⟨hc27, h⟩
   ·refine a0u (pc' := 32) K.1 a9a.2.2.1 (by decide) ((if0 _ _).trans (teq hc27).1) ?_
    refine a0b K.1 a9a.2.2.2 rfl ?_
    refine a0d (v := 40) K.1 a3h.1.1.1 (by decide) ?_
    rcases ifs h with ⟨hc35, h⟩ | ⟨hc35, h⟩
    ·refine a0p (pc' := 62) K.1 a3h.1.1.2 (by decide) ((teq hc35).1) ?_
     exact a0n (a0X K hw  h) (ln (ln l0))
    refine a0o K.1 a3h.1.1.2 ((feq hc35).1) (a0b K.1 a3h.1.2.1 rfl ?_)
    refine a0d (v := 41) K.1 a3h.1.2.2 (by decide) ?_
    rcases ifs h with ⟨hc41, h⟩ | ⟨hc41, h⟩
    ·refine a0p (pc' := 62) K.1 a3h.2.1.1 (by decide) ((teq hc41).1) ?_
     exact a0n (a0X K hw  h) (ln (ln l0))
    refine a0o K.1 a3h.2.1.1 ((feq hc41).1) (a0b K.1 a3h.2.1.2 rfl ?_)
    refine a0d (v := 126) K.1 a3h.2.2.1 (by decide) ?_
    rcases ifs h with ⟨hc47, h⟩ | ⟨hc47, h⟩
    ·refine a0p (pc' := 62) K.1 a3h.2.2.2 (by decide) ((teq hc47).1) ?_
     exact a0n (a0X K hw  h) (ln (ln l0))
    refine a0o K.1 a3h.2.2.2 ((feq hc47).1) (a0b K.1 a4e.1.1.1 rfl ?_)
    refine a0d (v := 47) K.1 a4e.1.1.2 (by decide) ?_
    rcases ifs h with ⟨hc53, h⟩ | ⟨hc53, h⟩
    ·refine a0p (pc' := 62) K.1 a4e.1.2.1 (by decide) ((teq hc53).1) ?_
     exact a0n (a0X K hw  h) (ln (ln l0))
    refine a0o K.1 a4e.1.2.1 ((feq hc53).1) (a0b K.1 a4e.1.2.2 rfl ?_)
    refine a0d (v := 58) K.1 a4e.2.1.1 (by decide) ?_
    rcases ifs h with ⟨hc59, h⟩ | ⟨hc59, h⟩
    ·refine a0o K.1 a4e.2.1.2 ((teq hc59).2) ?_
     exact a0n (a0X K hw  h) (ln (ln l0))
    refine a0p (pc' := 66) K.1 a4e.2.1.2 (by decide) ((feq hc59).2) ?_
    refine a0c (v := 0) K.1 a4e.2.2.1 (by decide) ?_
    cases h; exact a0h (t := .boolean) K.1 rfl (Or.inl rfl) a3m.1.2 rfl (a0w K)
   refine a0t K.1 a9a.2.2.1 ((if0 _ _).trans (feq hc27).1) ?_
   refine a0c (v := 1) K.1 a3m.2.1 (by decide) ?_
   cases h; exact a0h (t := .boolean) K.1 rfl (Or.inl rfl) a3m.2.2 rfl (a0w K)
  refine a0u (pc' := 30) K.1 a9a.1.2.1 (by decide) ((if0 _ _).trans (feq hc19).2) ?_
  refine a0c (v := 1) K.1 a3m.2.1 (by decide) ?_
  cases h; exact a0h (t := .boolean) K.1 rfl (Or.inl rfl) a3m.2.2 rfl (a0w K)
 refine a0u (pc' := 30) K.1 a9l.1.2.2 (by decide) ((if0 _ _).trans (feq hc5).2) ?_
 refine a0c (v := 1) K.1 a3m.2.1 (by decide) ?_
 cases h; exact a0h (t := .boolean) K.1 rfl (Or.inl rfl) a3m.2.2 rfl (a0w K)
theorem b0X (l : Launch) (Z : State) (a0 : Array Value) (hw : HW a0 Z) (n1 : Nat) (a : Addr) (ha : n1 ≤ a) {σ : St} {v1 : Int32} {r : Int32 × St} (h : a25 σ v1 = some r) : Con l Z cC cFS cFA 24 n1 a ⟨cC, "allowedChar", "(I)Z"⟩ c14 2 (some .boolean) ⟨2, 0, 0, 26⟩ [.ref 0, .int v1] σ (some (.int r.1)) r.2 :=
 a0l pnC rfl (a1m hw) a0E ha (fun X h1 K => b1H K hw h)
abbrev b6d := KKQ ⟨3, 0, 0, 39⟩ "put" c13 2 (some .boolean)
def a10 (σ : St) (v1 : Int32) : Option (Int32 × St) :=
 (if (gI σ 117) < 0 then (some ((0 : Int32), σ)) else (if (gI σ 117) < 32 then ((a25 σ v1).bind fun q20 => (if q20.1 = 0 then (some ((0 : Int32), q20.2)) else (if 0 ≤ ((gI q20.2 117)).toInt ∧ ((gI q20.2 117)).toInt < 32 then (some ((1 : Int32), (sI (sA q20.2 1 ((gI q20.2 117)).toInt v1) 117 ((gI (sA q20.2 1 ((gI q20.2 117)).toInt v1) 117) + 1)))) else none))) else (some ((0 : Int32), σ))))
theorem b6j (K : b6d X Z a0 l n1 a h0) (hw : HW a0 Z) {σ : St} {v1 : Int32} {r : Int32 × St} (h : a10 σ v1 = some r) : Go X (vvI r.1, (r.2, 24)) 0 [some (.ref 0), vvI v1] [] (σ, 24) := by
 unfold a10 at h
 refine a0a K.1 a9i.1.1.1 rfl (a0s K a9i.1.1.2 (w73 hw) a1i ?_)
 rcases ifs h with ⟨hc4, h⟩ | ⟨hc4, h⟩
 ·refine a0u (pc' := 16) K.1 a9i.1.2.1 (by decide) ((if0 _ _).trans (tlt hc4).1) ?_
  refine a0c (v := 0) K.1 a9r.2.1 (by decide) ?_
  cases h; exact a0h (t := .boolean) K.1 rfl (Or.inl rfl) a9r.2.2 rfl (a0w K)
 refine a0t K.1 a9i.1.2.1 ((if0 _ _).trans (flt hc4).1) (a0a K.1 a9i.1.2.2 rfl (a0s K a9i.2.1.1 (w73 hw) a1i ?_))
 refine a0d (v := 32) K.1 a9i.2.1.2 (by decide) ?_
 rcases ifs h with ⟨hc13, h⟩ | ⟨hc13, h⟩
 ·refine a0p (pc' := 18) K.1 a9i.2.2.1 (by decide) ((tlt hc13).1) ?_
  refine a0a K.1 a9i.2.2.2 rfl (a0b K.1 a93.1.1.1 rfl ?_)
  obtain ⟨q20, hq20, h⟩ := bsq h
  refine a0g (vs := [.int v1]) K a93.1.1.2 (w84 hw) (w85 hw) (w86 hw) (w87 hw) hyC a1D rfl rfl (b0X l Z a0 hw n1 a (a0i K) hq20) rfl (nbq rfl) (nbq rfl) rfl rfl ?_
  rcases ifs h with ⟨hc23, h⟩ | ⟨hc23, h⟩
  ·refine a0t K.1 a93.1.2.1 ((if0 _ _).trans (teq hc23).2) ?_
   refine a0c (v := 0) K.1 a9r.1.1.2 (by decide) ?_
   cases h; exact a0h (t := .boolean) K.1 rfl (Or.inl rfl) a9r.1.2 rfl (a0w K)
  refine a0u (pc' := 28) K.1 a93.1.2.1 (by decide) ((if0 _ _).trans (feq hc23).2) ?_
  refine a0a K.1 a93.1.2.2 rfl (a0k K a93.2.1.1 (w14 hw) b3N rfl (a0a K.1 a93.2.1.2 rfl (a0s K a93.2.2.1 (w73 hw) a1i (a0b K.1 a93.2.2.2 rfl ?_))))
  obtain ⟨hc37, h⟩ := ifn h
  refine a0r K a66.1.1.1 b3B rfl hc37 (a0a K.1 a66.1.1.2 rfl (b0u K.1 a66.1.2.1 rfl (a0s K a66.1.2.2 (w73 hw) a1i ?_)))
  refine a0c (v := 1) K.1 a66.2.1.1 (by decide) ?_
  refine a0z K.1 a66.2.1.2 (a0R (t := .int) (v' := ((gI (sA q20.2 1 ((gI q20.2 117)).toInt v1) 117) + 1)) K a66.2.2.1 (w73 hw) a1i (Or.inl (w74 hw)) a1o rfl rfl ?_)
  refine a0c (v := 1) K.1 a66.2.2.2 (by decide) ?_
  cases h; exact a0h (t := .boolean) K.1 rfl (Or.inl rfl) a9r.1.1.1 rfl (a0w K)
 refine a0o K.1 a9i.2.2.1 ((flt hc13).1) ?_
 refine a0c (v := 0) K.1 a9r.2.1 (by decide) ?_
 cases h; exact a0h (t := .boolean) K.1 rfl (Or.inl rfl) a9r.2.2 rfl (a0w K)
theorem a0V (l : Launch) (Z : State) (a0 : Array Value) (hw : HW a0 Z) (n1 : Nat) (a : Addr) (ha : n1 ≤ a) {σ : St} {v1 : Int32} {r : Int32 × St} (h : a10 σ v1 = some r) : Con l Z cC cFS cFA 24 n1 a ⟨cC, "put", "(I)Z"⟩ c13 2 (some .boolean) ⟨3, 0, 0, 39⟩ [.ref 0, .int v1] σ (some (.int r.1)) r.2 :=
 a0l pnC rfl (a1m hw) a0E ha (fun X h1 K => b6j K hw h)
abbrev a96 := KKQ ⟨1, 0, 0, 13⟩ "addToken" c23 2 none
def a2D  (σ : St) : Option (St) :=
 (some (sI σ 129 ((gI σ 129) + 1)))
theorem a4U (K : a96 X Z a0 l n1 a h0) (hw : HW a0 Z)  {σ : St} {r : St}  (h : a2D  σ = some r) : Go X (none, (r, 24)) 72 [some (.ref 0), none] [] (σ, 24) := by
 unfold a2D at h
 refine a0a K.1 a8d.2.2.1 rfl (b0u K.1 a8d.2.2.2 rfl (a0s K a9z.1.1.1 (b3w hw) a0B ?_))
 refine a0c (v := 1) K.1 a9z.1.1.2 (by decide) ?_
 refine a0z K.1 a9z.1.2 (a0R (t := .int) (v' := ((gI σ 129) + 1)) K a9z.2.1.1 (b3w hw) a0B (Or.inl (b77 hw)) a1o rfl rfl ?_)
 cases h; exact a0F K.1 a9z.2.1.2 (a0w K)
def a8v (σ : St) (v1 : Int32) : Option (St) :=
 (if (gI σ 129) < 0 then (some σ) else (if (gI σ 129) < 33 then ((a3d σ v1).bind fun q19 => (if q19.1 = 0 then (if 0 ≤ ((gI q19.2 129)).toInt ∧ ((gI q19.2 129)).toInt < 33 then (if 0 ≤ ((gI (sA q19.2 10 ((gI q19.2 129)).toInt v1) 129)).toInt ∧ ((gI (sA q19.2 10 ((gI q19.2 129)).toInt v1) 129)).toInt < 33 then a2D (sA (sA q19.2 10 ((gI q19.2 129)).toInt v1) 11 ((gI (sA q19.2 10 ((gI q19.2 129)).toInt v1) 129)).toInt (0 : Int32)) else none) else none) else (if 0 ≤ ((gI q19.2 129)).toInt ∧ ((gI q19.2 129)).toInt < 33 then (if 0 ≤ ((gI (sA q19.2 10 ((gI q19.2 129)).toInt (86 : Int32)) 129)).toInt ∧ ((gI (sA q19.2 10 ((gI q19.2 129)).toInt (86 : Int32)) 129)).toInt < 33 then a2D (sA (sA q19.2 10 ((gI q19.2 129)).toInt (86 : Int32)) 11 ((gI (sA q19.2 10 ((gI q19.2 129)).toInt (86 : Int32)) 129)).toInt (v1 - 97)) else none) else none))) else (some σ)))
theorem b3v (K : a96 X Z a0 l n1 a h0) (hw : HW a0 Z) {σ : St} {v1 : Int32} {r : St} (h : a8v σ v1 = some r) : Go X (none, (r, 24)) 0 [some (.ref 0), vvI v1] [] (σ, 24) := by
 unfold a8v at h
 refine a0a K.1 a8J.1.1.1 rfl (a0s K a8J.1.1.2 (b3w hw) a0B ?_)
 rcases ifs h with ⟨hc4, h⟩ | ⟨hc4, h⟩
 ·refine a0u (pc' := 16) K.1 a8J.1.2.1 (by decide) ((if0 _ _).trans (tlt hc4).1) ?_
  cases h; exact a0F K.1 a9z.2.2 (a0w K)
 refine a0t K.1 a8J.1.2.1 ((if0 _ _).trans (flt hc4).1) (a0a K.1 a8J.1.2.2 rfl (a0s K a8J.2.1.1 (b3w hw) a0B ?_))
 refine a0d (v := 33) K.1 a8J.2.1.2 (by decide) ?_
 rcases ifs h with ⟨hc13, h⟩ | ⟨hc13, h⟩
 ·refine a0p (pc' := 17) K.1 a8J.2.2.1 (by decide) ((tlt hc13).1) ?_
  refine a0a K.1 a8J.2.2.2 rfl (a0b K.1 b0F.1.1.1 rfl ?_)
  obtain ⟨q19, hq19, h⟩ := bsq h
  refine a0g (vs := [.int v1]) K b0F.1.1.2 (w92 hw) (w93 hw) (w94 hw) (w95 hw) hyC a1D rfl rfl (a73 l Z a0 hw n1 a (a0i K) hq19) rfl (nbq rfl) (nbq rfl) rfl rfl ?_
  rcases ifs h with ⟨hc22, h⟩ | ⟨hc22, h⟩
  ·refine a0u (pc' := 52) K.1 b0F.1.2.1 (by decide) ((if0 _ _).trans (teq hc22).1) ?_
   refine a0a K.1 b0F.1.2.2 rfl (a0k K b0F.2.1.1 (w32 hw) a1V rfl (a0a K.1 b0F.2.1.2 rfl (a0s K b0F.2.2.1 (b3w hw) a0B (a0b K.1 b0F.2.2.2 rfl ?_))))
   obtain ⟨hc61, h⟩ := ifn h
   refine a0r K a7o.1.1.1 a1W rfl hc61 (a0a K.1 a7o.1.1.2 rfl (a0k K a7o.1.2.1 (w34 hw) a3B rfl (a0a K.1 a7o.1.2.2 rfl (a0s K a7o.2.1.1 (b3w hw) a0B ?_))))
   refine a0c (v := 0) K.1 a7o.2.1.2 (by decide) ?_
   obtain ⟨hc71, h⟩ := ifn h
   refine a0r K a7o.2.2.1 a3c rfl hc71 ?_
   exact a0n (a4U K hw  h) (ls (ln l0))
  refine a0t K.1 b0F.1.2.1 ((if0 _ _).trans (feq hc22).1) (a0a K.1 a7o.2.2.2 rfl (a0k K a8k.1.1.1 (w32 hw) a1V rfl (a0a K.1 a8k.1.1.2 rfl (a0s K a8k.1.2.1 (b3w hw) a0B ?_))))
  refine a0d (v := 86) K.1 a8k.1.2.2 (by decide) ?_
  obtain ⟨hc35, h⟩ := ifn h
  refine a0r K a8k.2.1.1 a1W rfl hc35 (a0a K.1 a8k.2.1.2 rfl (a0k K a8k.2.2.1 (w34 hw) a3B rfl (a0a K.1 a8k.2.2.2 rfl (a0s K a8d.1.1.1 (b3w hw) a0B (a0b K.1 a8d.1.1.2 rfl ?_)))))
  refine a0d (v := 97) K.1 a8d.1.2.1 (by decide) ?_
  refine a1l K.1 a8d.1.2.2 ?_
  obtain ⟨hc48, h⟩ := ifn h
  refine a0r K a8d.2.1.1 a3c rfl hc48 ?_
  refine a0y (pc' := 72) K.1 a8d.2.1.2 (by decide) ?_
  exact a0n (a4U K hw  h) (ls (ln l0))
 refine a0o K.1 a8J.2.2.1 ((flt hc13).1) ?_
 cases h; exact a0F K.1 a9z.2.2 (a0w K)
theorem b2U (l : Launch) (Z : State) (a0 : Array Value) (hw : HW a0 Z) (n1 : Nat) (a : Addr) (ha : n1 ≤ a) {σ : St} {v1 : Int32} {r : St} (h : a8v σ v1 = some r) : Con l Z cC cFS cFA 24 n1 a ⟨cC, "addToken", "(I)V"⟩ c23 2 none ⟨1, 0, 0, 13⟩ [.ref 0, .int v1] σ none r :=
 a0l pnC rfl (a1m hw) a0E ha (fun X h1 K => b3v K hw h)
abbrev a2i := KKQ ⟨1, 0, 0, 13⟩ "scanNumber" c24 6 (some .int)
def a02 (NF : Nat)  (i2 i3 : Int32) (σ : St) : Option (Int32 × St) :=
 (if (gI σ 129) < 0 then (some ((-1 : Int32), σ)) else (if (gI σ 129) < 33 then (if 0 ≤ ((gI σ 129)).toInt ∧ ((gI σ 129)).toInt < 33 then (if 0 ≤ ((gI (sA σ 10 ((gI σ 129)).toInt (78 : Int32)) 129)).toInt ∧ ((gI (sA σ 10 ((gI σ 129)).toInt (78 : Int32)) 129)).toInt < 33 then (some (i3, (sI (sA (sA σ 10 ((gI σ 129)).toInt (78 : Int32)) 11 ((gI (sA σ 10 ((gI σ 129)).toInt (78 : Int32)) 129)).toInt i2) 129 ((gI (sA (sA σ 10 ((gI σ 129)).toInt (78 : Int32)) 11 ((gI (sA σ 10 ((gI σ 129)).toInt (78 : Int32)) 129)).toInt i2) 129) + 1)))) else none) else none) else (some ((-1 : Int32), σ))))
theorem a1d {NF : Nat} (K : a2i X Z a0 l n1 a h0) (hw : HW a0 Z)  {i2 i3 : Int32} {σ : St} {r : Int32 × St}  (h : a02 NF  i2 i3 σ = some r) : Go X (vvI r.1, (r.2, 24)) 76 [some (.ref 0), none, vvI i2, vvI i3, none, none] [] (σ, 24) := by
 unfold a02 at h
 refine a0a K.1 a5P.1.2.1 rfl (a0s K a5P.1.2.2 (b3w hw) a0B ?_)
 rcases ifs h with ⟨hc80, h⟩ | ⟨hc80, h⟩
 ·refine a0u (pc' := 92) K.1 a5P.2.1.1 (by decide) ((if0 _ _).trans (tlt hc80).1) ?_
  refine a0c (v := -1) K.1 a5p.2.1.2 (by decide) ?_
  cases h; exact a0e K.1 a5p.2.2 (a0w K)
 refine a0t K.1 a5P.2.1.1 ((if0 _ _).trans (flt hc80).1) (a0a K.1 a5P.2.1.2 rfl (a0s K a5P.2.2.1 (b3w hw) a0B ?_))
 refine a0d (v := 33) K.1 a5P.2.2.2 (by decide) ?_
 rcases ifs h with ⟨hc89, h⟩ | ⟨hc89, h⟩
 ·refine a0p (pc' := 94) K.1 a5Z.1.1.1 (by decide) ((tlt hc89).1) ?_
  refine a0a K.1 a5Z.1.1.2 rfl (a0k K a5Z.1.2.1 (w32 hw) a1V rfl (a0a K.1 a5Z.1.2.2 rfl (a0s K a5Z.2.1.1 (b3w hw) a0B ?_)))
  refine a0d (v := 78) K.1 a5Z.2.1.2 (by decide) ?_
  obtain ⟨hc104, h⟩ := ifn h
  refine a0r K a5Z.2.2.1 a1W rfl hc104 (a0a K.1 a5Z.2.2.2 rfl (a0k K a7q.1.1.1 (w34 hw) a3B rfl (a0a K.1 a7q.1.1.2 rfl (a0s K a7q.1.2.1 (b3w hw) a0B (a0b K.1 a7q.1.2.2 rfl ?_)))))
  obtain ⟨hc114, h⟩ := ifn h
  refine a0r K a7q.2.1.1 a3c rfl hc114 (a0a K.1 a7q.2.1.2 rfl (b0u K.1 a7q.2.2.1 rfl (a0s K a7q.2.2.2 (b3w hw) a0B ?_)))
  refine a0c (v := 1) K.1 a5p.1.1.1 (by decide) ?_
  refine a0z K.1 a5p.1.1.2 (a0R (t := .int) (v' := ((gI (sA (sA σ 10 ((gI σ 129)).toInt (78 : Int32)) 11 ((gI (sA σ 10 ((gI σ 129)).toInt (78 : Int32)) 129)).toInt i2) 129) + 1)) K a5p.1.2.1 (b3w hw) a0B (Or.inl (b77 hw)) a1o rfl rfl (a0b K.1 a5p.1.2.2 rfl ?_))
  cases h; exact a0e K.1 a5p.2.1.1 (a0w K)
 refine a0o K.1 a5Z.1.1.1 ((flt hc89).1) ?_
 refine a0c (v := -1) K.1 a5p.2.1.2 (by decide) ?_
 cases h; exact a0e K.1 a5p.2.2 (a0w K)
def a3p (NF : Nat) (k7 : b73) (i2 i3 i4 : Int32) (σ : St) : Option (Int32 × St) :=
 (if i4 < 33 then (if i3 < (gI σ 117) then (if i3 < 32 then (if 0 ≤ (i3).toInt ∧ (i3).toInt < 32 then ((a40 σ (gA σ 1 (i3).toInt)).bind fun q39 => (if q39.1 = 0 then a02 NF i2 i3 q39.2 else (if i4 < 4 then k7 ((i2 * 10) + ((gA σ 1 (i3).toInt) - 48)) (i3 + 1) (i4 + 1) q39.2 else (some ((-1 : Int32), q39.2))))) else none) else a02 NF i2 i3 σ) else a02 NF i2 i3 σ) else a02 NF i2 i3 σ)
theorem b0l {NF : Nat} (K : a2i X Z a0 l n1 a h0) (hw : HW a0 Z) {k7 : Int32 → Int32 → Int32 → St → Option (Int32 × St)} {i2 i3 i4 : Int32} {σ : St} {r : Int32 × St} (hk7 : ∀ (i2 i3 i4 : Int32) (σ : St) (h : k7 i2 i3 i4 σ = some r), Go X (vvI r.1, (r.2, 24)) 7 [some (.ref 0), none, vvI i2, vvI i3, vvI i4, none] [] (σ, 24)) (h : a3p NF k7 i2 i3 i4 σ = some r) : Go X (vvI r.1, (r.2, 24)) 7 [some (.ref 0), none, vvI i2, vvI i3, vvI i4, none] [] (σ, 24) := by
 unfold a3p at h
 refine a0f K.1 b06.2.2.1 rfl ?_
 refine a0d (v := 33) K.1 b06.2.2.2 (by decide) ?_
 rcases ifs h with ⟨hc11, h⟩ | ⟨hc11, h⟩
 ·refine a0o K.1 a7S.1.1.1 ((tlt hc11).2.1) (a0b K.1 a7S.1.1.2 rfl (a0a K.1 a7S.1.2.1 rfl (a0s K a7S.1.2.2 (w73 hw) a1i ?_)))
  rcases ifs h with ⟨hc19, h⟩ | ⟨hc19, h⟩
  ·refine a0o K.1 a7S.2.1.1 ((tlt hc19).2.1) (a0b K.1 a7S.2.1.2 rfl ?_)
   refine a0d (v := 32) K.1 a7S.2.2.1 (by decide) ?_
   rcases ifs h with ⟨hc25, h⟩ | ⟨hc25, h⟩
   ·refine a0o K.1 a7S.2.2.2 ((tlt hc25).2.1) (a0a K.1 a7c.1.1.1 rfl (a0k K a7c.1.1.2 (w14 hw) b3N rfl (a0b K.1 a7c.1.2.1 rfl ?_)))
    obtain ⟨hc33, h⟩ := ifn h
    refine a0j K a7c.1.2.2 b3B rfl hc33 (a0q (L' := [some (.ref 0), none, vvI i2, vvI i3, vvI i4, some (.int (gA σ 1 (i3).toInt))]) K.1 a7c.2.1.1 (blt rfl) rfl (a0a K.1 a7c.2.1.2 rfl (a0f K.1 a7c.2.2.1 rfl ?_)))
    obtain ⟨q39, hq39, h⟩ := bsq h
    refine a0g (vs := [.int (gA σ 1 (i3).toInt)]) K a7c.2.2.2 (w88 hw) (w89 hw) (w90 hw) (w91 hw) hyC a1D rfl rfl (a5i l Z a0 hw n1 a (a0i K) hq39) rfl (nbq rfl) (nbq rfl) rfl rfl ?_
    rcases ifs h with ⟨hc42, h⟩ | ⟨hc42, h⟩
    ·refine a0t K.1 a4k.1.1.1 ((if0 _ _).trans (teq hc42).2) ?_
     refine a0y (pc' := 76) K.1 a5P.1.1.2 (by decide) ?_
     exact a0n (a1d K hw  h) (ls (ls (ls (ls (ln (ln l0))))))
    refine a0u (pc' := 48) K.1 a4k.1.1.1 (by decide) ((if0 _ _).trans (feq hc42).2) ?_
    refine a0f K.1 a4k.1.1.2 rfl ?_
    refine a0c (v := 4) K.1 a4k.1.2.1 (by decide) ?_
    rcases ifs h with ⟨hc51, h⟩ | ⟨hc51, h⟩
    ·refine a0p (pc' := 56) K.1 a4k.1.2.2 (by decide) ((tlt hc51).1) ?_
     refine a0b K.1 a4k.2.1.1 rfl ?_
     refine a0d (v := 10) K.1 a4k.2.1.2 (by decide) ?_
     refine b0a K.1 a4k.2.2.1 (a0f K.1 a4k.2.2.2 rfl ?_)
     refine a0d (v := 48) K.1 a7i.1.1.1 (by decide) ?_
     refine a1l K.1 a7i.1.1.2 (a0z K.1 a7i.1.2.1 (a0m (L' := [some (.ref 0), none, some (.int ((i2 * 10) + ((gA σ 1 (i3).toInt) - 48))), vvI i3, vvI i4, some (.int (gA σ 1 (i3).toInt))]) K.1 a7i.1.2.2 (blt rfl) rfl ?_))
     refine a09 (w := 1) (L' := [some (.ref 0), none, some (.int ((i2 * 10) + ((gA σ 1 (i3).toInt) - 48))), some (.int (i3 + 1)), vvI i4, some (.int (gA σ 1 (i3).toInt))]) K.1 a7i.2.1.1 rfl (by decide) rfl ?_
     refine a09 (w := 1) (L' := [some (.ref 0), none, some (.int ((i2 * 10) + ((gA σ 1 (i3).toInt) - 48))), some (.int (i3 + 1)), some (.int (i4 + 1)), some (.int (gA σ 1 (i3).toInt))]) K.1 a7i.2.1.2 rfl (by decide) rfl ?_
     refine a0y (pc' := 7) K.1 a7i.2.2.1 (by decide) ?_
     exact a0n (hk7 _ _ _ _ h) (ls (ls (ls (ls (ls (ln l0))))))
    refine a0o K.1 a4k.1.2.2 ((flt hc51).1) ?_
    refine a0c (v := -1) K.1 a7i.2.2.2 (by decide) ?_
    cases h; exact a0e K.1 a5P.1.1.1 (a0w K)
   refine a0p (pc' := 76) K.1 a7S.2.2.2 (by decide) ((flt hc25).2.1) ?_
   exact a0n (a1d K hw  h) (ls (ls (ls (ls (ln (ls l0))))))
  refine a0p (pc' := 76) K.1 a7S.2.1.1 (by decide) ((flt hc19).2.1) ?_
  exact a0n (a1d K hw  h) (ls (ls (ls (ls (ln (ls l0))))))
 refine a0p (pc' := 76) K.1 a7S.1.1.1 (by decide) ((flt hc11).2.1) ?_
 exact a0n (a1d K hw  h) (ls (ls (ls (ls (ln (ls l0))))))
def a3n (NF : Nat)  : Nat → b73
 | 0 => fun _ _ _ _ => none
 | n + 1 => fun i2 i3 i4 σ => a3p NF  (a3n NF  n) i2 i3 i4 σ
theorem a99 {NF : Nat} (K : a2i X Z a0 l n1 a h0) (hw : HW a0 Z) (n : Nat)  {r : Int32 × St}  : ∀ (i2 i3 i4 : Int32) (σ : St) (h : a3n NF  n i2 i3 i4 σ = some r), Go X (vvI r.1, (r.2, 24)) 7 [some (.ref 0), none, vvI i2, vvI i3, vvI i4, none] [] (σ, 24) := by
 induction n with
 | zero => intro i2 i3 i4 σ h; cases h
 | succ n ih => intro i2 i3 i4 σ h; exact b0l (NF := NF) K hw  ih h
def a3T (NF : Nat) (σ : St) (v1 : Int32) : Option (Int32 × St) :=
 a3n NF NF (0 : Int32) v1 (0 : Int32) σ
theorem b2l {NF : Nat} (K : a2i X Z a0 l n1 a h0) (hw : HW a0 Z) {σ : St} {v1 : Int32} {r : Int32 × St} (h : a3T NF σ v1 = some r) : Go X (vvI r.1, (r.2, 24)) 0 [some (.ref 0), vvI v1, none, none, none, none] [] (σ, 24) := by
 unfold a3T at h
 refine a0c (v := 0) K.1 b06.1.1.1 (by decide) ?_
 refine a0m (L' := [some (.ref 0), vvI v1, some (.int (0 : Int32)), none, none, none]) K.1 b06.1.1.2 (blt rfl) rfl (a0b K.1 b06.1.2.1 rfl (a0m (L' := [some (.ref 0), vvI v1, some (.int (0 : Int32)), vvI v1, none, none]) K.1 b06.1.2.2 (blt rfl) rfl ?_))
 refine a0c (v := 0) K.1 b06.2.1.1 (by decide) ?_
 refine a0q (L' := [some (.ref 0), vvI v1, some (.int (0 : Int32)), vvI v1, some (.int (0 : Int32)), none]) K.1 b06.2.1.2 (blt rfl) rfl ?_
 exact a0n (a99 K hw NF  _ _ _ _ h) (ls (ln (ls (ls (ls (ls l0))))))
theorem b1R (l : Launch) (Z : State) (a0 : Array Value) (hw : HW a0 Z) (n1 : Nat) (a : Addr) (ha : n1 ≤ a) {NF : Nat} {σ : St} {v1 : Int32} {r : Int32 × St} (h : a3T NF σ v1 = some r) : Con l Z cC cFS cFA 24 n1 a ⟨cC, "scanNumber", "(I)I"⟩ c24 6 (some .int) ⟨1, 0, 0, 13⟩ [.ref 0, .int v1] σ (some (.int r.1)) r.2 :=
 a0l pnC rfl (a1m hw) a0E ha (fun X h1 K => b2l K hw h)
abbrev a2a := KKQ ⟨2, 0, 0, 30⟩ "tokenize" c22 4 (some .boolean)
def a1F (NF : Nat) (k9 : b4v) (i1 i2 : Int32) (σ : St) : Option (Int32 × St) :=
 k9 i1 (i2 + 1) σ
theorem a2o {NF : Nat} (K : a2a X Z a0 l n1 a h0) (hw : HW a0 Z) {k9 : Int32 → Int32 → St → Option (Int32 × St)} {i1 i2 : Int32} {σ : St} {r : Int32 × St} (hk9 : ∀ (i1 i2 : Int32) (σ : St) (h : k9 i1 i2 σ = some r), Go X (vvI r.1, (r.2, 24)) 9 [some (.ref 0), vvI i1, vvI i2, none] [] (σ, 24)) (h : a1F NF k9 i1 i2 σ = some r) : Go X (vvI r.1, (r.2, 24)) 87 [some (.ref 0), vvI i1, vvI i2, none] [] (σ, 24) := by
 unfold a1F at h
 refine a09 (w := 1) (L' := [some (.ref 0), vvI i1, some (.int (i2 + 1)), none]) K.1 b4J.1.2 rfl (by decide) rfl ?_
 refine a0y (pc' := 9) K.1 b4J.2 (by decide) ?_
 exact hk9 _ _ _ h
def a1H (NF : Nat)  (i1 : Int32) (σ : St) : Option (Int32 × St) :=
 (if i1 < (gI σ 117) then (some ((0 : Int32), σ)) else (some ((1 : Int32), σ)))
theorem a2y {NF : Nat} (K : a2a X Z a0 l n1 a h0) (hw : HW a0 Z)  {i1 : Int32} {σ : St} {r : Int32 × St}  (h : a1H NF  i1 σ = some r) : Go X (vvI r.1, (r.2, 24)) 93 [some (.ref 0), vvI i1, none, none] [] (σ, 24) := by
 unfold a1H at h
 refine a0b K.1 a4q.1.1.2 rfl (a0a K.1 a4q.1.2.1 rfl (a0s K a4q.1.2.2 (w73 hw) a1i ?_))
 rcases ifs h with ⟨hc98, h⟩ | ⟨hc98, h⟩
 ·refine a0p (pc' := 105) K.1 a4q.2.1.1 (by decide) ((tlt hc98).1) ?_
  refine a0c (v := 0) K.1 a4q.2.1.2 (by decide) ?_
  cases h; exact a0h (t := .boolean) K.1 rfl (Or.inl rfl) a49.1.1.1 rfl (a0w K)
 refine a0o K.1 a4q.2.1.1 ((flt hc98).1) ?_
 refine a0c (v := 1) K.1 a4q.2.2.1 (by decide) ?_
 refine a0y (pc' := 106) K.1 a4q.2.2.2 (by decide) ?_
 cases h; exact a0h (t := .boolean) K.1 rfl (Or.inl rfl) a49.1.1.1 rfl (a0w K)
def a5L (NF : Nat) (k9 : b4v) (i1 i2 : Int32) (σ : St) : Option (Int32 × St) :=
 (if i2 < 40 then (if i1 < (gI σ 117) then (if i1 < 32 then (if 0 ≤ (i1).toInt ∧ (i1).toInt < 32 then (if (gA σ 1 (i1).toInt) = 32 then a1F NF k9 (i1 + 1) i2 σ else (if (gI σ 129) < 32 then ((a40 σ (gA σ 1 (i1).toInt)).bind fun q61 => (if q61.1 = 0 then ((a8v q61.2 (gA σ 1 (i1).toInt)).bind fun q81 => a1F NF k9 (i1 + 1) i2 q81) else ((a3T NF q61.2 i1).bind fun q69 => (if q69.1 < 0 then (some ((0 : Int32), q69.2)) else a1F NF k9 q69.1 i2 q69.2)))) else (some ((0 : Int32), σ)))) else none) else a1H NF i1 σ) else a1H NF i1 σ) else a1H NF i1 σ)
theorem b1V {NF : Nat} (K : a2a X Z a0 l n1 a h0) (hw : HW a0 Z) {k9 : Int32 → Int32 → St → Option (Int32 × St)} {i1 i2 : Int32} {σ : St} {r : Int32 × St} (hk9 : ∀ (i1 i2 : Int32) (σ : St) (h : k9 i1 i2 σ = some r), Go X (vvI r.1, (r.2, 24)) 9 [some (.ref 0), vvI i1, vvI i2, none] [] (σ, 24)) (h : a5L NF k9 i1 i2 σ = some r) : Go X (vvI r.1, (r.2, 24)) 9 [some (.ref 0), vvI i1, vvI i2, none] [] (σ, 24) := by
 unfold a5L at h
 refine a0b K.1 b1c.2.2.2 rfl ?_
 refine a0d (v := 40) K.1 a9j.1.1.1 (by decide) ?_
 rcases ifs h with ⟨hc12, h⟩ | ⟨hc12, h⟩
 ·refine a0o K.1 a9j.1.1.2 ((tlt hc12).2.1) (a0b K.1 a9j.1.2.1 rfl (a0a K.1 a9j.1.2.2 rfl (a0s K a9j.2.1.1 (w73 hw) a1i ?_)))
  rcases ifs h with ⟨hc20, h⟩ | ⟨hc20, h⟩
  ·refine a0o K.1 a9j.2.1.2 ((tlt hc20).2.1) (a0b K.1 a9j.2.2.1 rfl ?_)
   refine a0d (v := 32) K.1 a9j.2.2.2 (by decide) ?_
   rcases ifs h with ⟨hc26, h⟩ | ⟨hc26, h⟩
   ·refine a0o K.1 a4q.1.1.1 ((tlt hc26).2.1) (a0a K.1 a49.1.1.2 rfl (a0k K a49.1.2.1 (w14 hw) b3N rfl (a0b K.1 a49.1.2.2 rfl ?_)))
    obtain ⟨hc34, h⟩ := ifn h
    refine a0j K a49.2.1.1 b3B rfl hc34 (a0m (L' := [some (.ref 0), vvI i1, vvI i2, some (.int (gA σ 1 (i1).toInt))]) K.1 a49.2.1.2 (blt rfl) rfl (a0b K.1 a49.2.2.1 rfl ?_))
    refine a0d (v := 32) K.1 a49.2.2.2 (by decide) ?_
    rcases ifs h with ⟨hc39, h⟩ | ⟨hc39, h⟩
    ·refine a0o K.1 a4f.1.1.1 ((teq hc39).2) ?_
     refine a09 (w := 1) (L' := [some (.ref 0), some (.int (i1 + 1)), vvI i2, some (.int (gA σ 1 (i1).toInt))]) K.1 a48.2.2.2 rfl (by decide) rfl ?_
     refine a0y (pc' := 87) K.1 b4J.1.1 (by decide) ?_
     exact a0n (a2o K hw hk9 h) (ls (ls (ls (ln l0))))
    refine a0p (pc' := 48) K.1 a4f.1.1.1 (by decide) ((feq hc39).2) ?_
    refine a0a K.1 a4f.1.1.2 rfl (a0s K a4f.1.2.1 (b3w hw) a0B ?_)
    refine a0d (v := 32) K.1 a4f.1.2.2 (by decide) ?_
    rcases ifs h with ⟨hc54, h⟩ | ⟨hc54, h⟩
    ·refine a0p (pc' := 59) K.1 a4f.2.1.1 (by decide) ((tlt hc54).1) ?_
     refine a0a K.1 a4f.2.1.2 rfl (a0b K.1 a4f.2.2.1 rfl ?_)
     obtain ⟨q61, hq61, h⟩ := bsq h
     refine a0g (vs := [.int (gA σ 1 (i1).toInt)]) K a4f.2.2.2 (w88 hw) (w89 hw) (w90 hw) (w91 hw) hyC a1D rfl rfl (a5i l Z a0 hw n1 a (a0i K) hq61) rfl (nbq rfl) (nbq rfl) rfl rfl ?_
     rcases ifs h with ⟨hc64, h⟩ | ⟨hc64, h⟩
     ·refine a0u (pc' := 79) K.1 a6c.1.1.1 (by decide) ((if0 _ _).trans (teq hc64).1) ?_
      refine a0a K.1 a6c.1.1.2 rfl (a0b K.1 a6c.1.2.1 rfl ?_)
      obtain ⟨q81, hq81, h⟩ := bsq h
      refine a0g (vs := [.int (gA σ 1 (i1).toInt)]) K a6c.1.2.2 (b9R hw) (b93 hw) (c0H hw) (c1N hw) hyC a9E rfl rfl (b2U l Z a0 hw n1 a (a0i K) hq81) rfl (nbq rfl) (nbq rfl) rfl rfl ?_
      refine a09 (w := 1) (L' := [some (.ref 0), some (.int (i1 + 1)), vvI i2, some (.int (gA σ 1 (i1).toInt))]) K.1 a6c.2.1.1 rfl (by decide) rfl ?_
      exact a0n (a2o K hw hk9 h) (ls (ls (ls (ln l0))))
     refine a0t K.1 a6c.1.1.1 ((if0 _ _).trans (feq hc64).1) (a0a K.1 a6c.2.1.2 rfl (a0b K.1 a6c.2.2.1 rfl ?_))
     obtain ⟨q69, hq69, h⟩ := bsq h
     refine a0g (vs := [.int i1]) K a6c.2.2.2 (b9V hw) (b9Y hw) (c1d hw) (c1S hw) hyC a3e rfl rfl (b1R l Z a0 hw n1 a (a0i K) hq69) rfl (nbq rfl) (nbq rfl) rfl rfl (a0m (L' := [some (.ref 0), vvI q69.1, vvI i2, some (.int (gA σ 1 (i1).toInt))]) K.1 a48.1.1.1 (blt rfl) rfl (a0b K.1 a48.1.1.2 rfl ?_))
     rcases ifs h with ⟨hc74, h⟩ | ⟨hc74, h⟩
     ·refine a0t K.1 a48.1.2.1 ((if0 _ _).trans (tlt hc74).2.1) ?_
      refine a0c (v := 0) K.1 a48.1.2.2 (by decide) ?_
      cases h; exact a0h (t := .boolean) K.1 rfl (Or.inl rfl) a48.2.1.1 rfl (a0w K)
     refine a0u (pc' := 87) K.1 a48.1.2.1 (by decide) ((if0 _ _).trans (flt hc74).2.1) ?_
     exact a0n (a2o K hw hk9 h) (ls (ls (ls (ln l0))))
    refine a0o K.1 a4f.2.1.1 ((flt hc54).1) ?_
    refine a0c (v := 0) K.1 a48.2.1.2 (by decide) ?_
    cases h; exact a0h (t := .boolean) K.1 rfl (Or.inl rfl) a48.2.2.1 rfl (a0w K)
   refine a0p (pc' := 93) K.1 a4q.1.1.1 (by decide) ((flt hc26).2.1) ?_
   exact a0n (a2y K hw  h) (ls (ls (ln (ls l0))))
  refine a0p (pc' := 93) K.1 a9j.2.1.2 (by decide) ((flt hc20).2.1) ?_
  exact a0n (a2y K hw  h) (ls (ls (ln (ls l0))))
 refine a0p (pc' := 93) K.1 a9j.1.1.2 (by decide) ((flt hc12).2.1) ?_
 exact a0n (a2y K hw  h) (ls (ls (ln (ls l0))))
def a59 (NF : Nat)  : Nat → b4v
 | 0 => fun _ _ _ => none
 | n + 1 => fun i1 i2 σ => a5L NF  (a59 NF  n) i1 i2 σ
theorem b1I {NF : Nat} (K : a2a X Z a0 l n1 a h0) (hw : HW a0 Z) (n : Nat)  {r : Int32 × St}  : ∀ (i1 i2 : Int32) (σ : St) (h : a59 NF  n i1 i2 σ = some r), Go X (vvI r.1, (r.2, 24)) 9 [some (.ref 0), vvI i1, vvI i2, none] [] (σ, 24) := by
 induction n with
 | zero => intro i1 i2 σ h; cases h
 | succ n ih => intro i1 i2 σ h; exact b1V (NF := NF) K hw  ih h
def a8z (NF : Nat) (σ : St) : Option (Int32 × St) :=
 a59 NF NF (0 : Int32) (0 : Int32) (sI σ 129 (0 : Int32))
theorem b3L {NF : Nat} (K : a2a X Z a0 l n1 a h0) (hw : HW a0 Z) {σ : St} {r : Int32 × St} (h : a8z NF σ = some r) : Go X (vvI r.1, (r.2, 24)) 0 [some (.ref 0), none, none, none] [] (σ, 24) := by
 unfold a8z at h
 refine a0a K.1 b1c.1.1.1 rfl ?_
 refine a0c (v := 0) K.1 b1c.1.1.2 (by decide) ?_
 refine a0R (t := .int) (v' := (0 : Int32)) K b1c.1.2.1 (b3w hw) a0B (Or.inl (b77 hw)) a1o rfl rfl ?_
 refine a0c (v := 0) K.1 b1c.1.2.2 (by decide) ?_
 refine a0m (L' := [some (.ref 0), some (.int (0 : Int32)), none, none]) K.1 b1c.2.1.1 (blt rfl) rfl ?_
 refine a0c (v := 0) K.1 b1c.2.1.2 (by decide) ?_
 refine a0m (L' := [some (.ref 0), some (.int (0 : Int32)), some (.int (0 : Int32)), none]) K.1 b1c.2.2.1 (blt rfl) rfl ?_
 exact b1I K hw NF  _ _ _ h
theorem b21 (l : Launch) (Z : State) (a0 : Array Value) (hw : HW a0 Z) (n1 : Nat) (a : Addr) (ha : n1 ≤ a) {NF : Nat} {σ : St} {r : Int32 × St} (h : a8z NF σ = some r) : Con l Z cC cFS cFA 24 n1 a ⟨cC, "tokenize", "()Z"⟩ c22 4 (some .boolean) ⟨2, 0, 0, 30⟩ [.ref 0] σ (some (.int r.1)) r.2 :=
 a0l pnC rfl (a1m hw) a0E ha (fun X h1 K => b3L K hw h)
abbrev b4U := KKQ ⟨0, 0, 0, 0⟩ "kindAt" c27 2 (some .int)
def a8s (σ : St) (v1 : Int32) : Option (Int32 × St) :=
 (if v1 < 0 then (some ((0 : Int32), σ)) else (if v1 < (gI σ 129) then (if v1 < 33 then (if 0 ≤ (v1).toInt ∧ (v1).toInt < 33 then (some ((gA σ 10 (v1).toInt), σ)) else none) else (some ((0 : Int32), σ))) else (some ((0 : Int32), σ))))
theorem b4V (K : b4U X Z a0 l n1 a h0) (hw : HW a0 Z) {σ : St} {v1 : Int32} {r : Int32 × St} (h : a8s σ v1 = some r) : Go X (vvI r.1, (r.2, 24)) 0 [some (.ref 0), vvI v1] [] (σ, 24) := by
 unfold a8s at h
 refine a0b K.1 a87.1.1.1 rfl ?_
 rcases ifs h with ⟨hc1, h⟩ | ⟨hc1, h⟩
 ·refine a0u (pc' := 18) K.1 a87.1.1.2 (by decide) ((if0 _ _).trans (tlt hc1).1) ?_
  refine a0c (v := 0) K.1 a45.2.2.1 (by decide) ?_
  cases h; exact a0e K.1 a45.2.2.2 (a0w K)
 refine a0t K.1 a87.1.1.2 ((if0 _ _).trans (flt hc1).1) (a0b K.1 a87.1.2.1 rfl (a0a K.1 a87.1.2.2 rfl (a0s K a87.2.1.1 (b3w hw) a0B ?_)))
 rcases ifs h with ⟨hc9, h⟩ | ⟨hc9, h⟩
 ·refine a0o K.1 a87.2.1.2 ((tlt hc9).2.1) (a0b K.1 a87.2.2.1 rfl ?_)
  refine a0d (v := 33) K.1 a87.2.2.2 (by decide) ?_
  rcases ifs h with ⟨hc15, h⟩ | ⟨hc15, h⟩
  ·refine a0p (pc' := 20) K.1 a45.1.1.1 (by decide) ((tlt hc15).1) ?_
   refine a0a K.1 a45.1.1.2 rfl (a0k K a45.1.2.1 (w32 hw) a1V rfl (a0b K.1 a45.1.2.2 rfl ?_))
   obtain ⟨hc25, h⟩ := ifn h
   refine a0j K a45.2.1.1 a1W rfl hc25 ?_
   cases h; exact a0e K.1 a45.2.1.2 (a0w K)
  refine a0o K.1 a45.1.1.1 ((flt hc15).1) ?_
  refine a0c (v := 0) K.1 a45.2.2.1 (by decide) ?_
  cases h; exact a0e K.1 a45.2.2.2 (a0w K)
 refine a0p (pc' := 18) K.1 a87.2.1.2 (by decide) ((flt hc9).2.1) ?_
 refine a0c (v := 0) K.1 a45.2.2.1 (by decide) ?_
 cases h; exact a0e K.1 a45.2.2.2 (a0w K)
theorem a7b (l : Launch) (Z : State) (a0 : Array Value) (hw : HW a0 Z) (n1 : Nat) (a : Addr) (ha : n1 ≤ a) {σ : St} {v1 : Int32} {r : Int32 × St} (h : a8s σ v1 = some r) : Con l Z cC cFS cFA 24 n1 a ⟨cC, "kindAt", "(I)I"⟩ c27 2 (some .int) ⟨0, 0, 0, 0⟩ [.ref 0, .int v1] σ (some (.int r.1)) r.2 :=
 a0l pnC rfl (a1m hw) a0E ha (fun X h1 K => b4V K hw h)
abbrev a28 := KKQ ⟨0, 0, 0, 0⟩ "collapse" c28 3 none
def a2E (NF : Nat) (k2 : b6H) (i1 i2 : Int32) (σ : St) : Option (St) :=
 k2 (i1 + 1) (sI σ 138 i2)
theorem a4W {NF : Nat} (K : a28 X Z a0 l n1 a h0) (hw : HW a0 Z) {k2 : Int32 → St → Option (St)} {i1 i2 : Int32} {σ : St} {r : St} (hk2 : ∀ (i1 : Int32) (σ : St) (h : k2 i1 σ = some r), Go X (none, (r, 24)) 2 [some (.ref 0), vvI i1, none] [] (σ, 24)) (h : a2E NF k2 i1 i2 σ = some r) : Go X (none, (r, 24)) 84 [some (.ref 0), vvI i1, vvI i2] [] (σ, 24) := by
 unfold a2E at h
 refine a0a K.1 a9B.1.1.1 rfl (a0b K.1 a9B.1.1.2 rfl (a0R (t := .int) (v' := i2) K a9B.1.2 (b6U hw) b2x (Or.inl (b7Y hw)) a1o rfl rfl ?_))
 refine a09 (w := 1) (L' := [some (.ref 0), some (.int (i1 + 1)), vvI i2]) K.1 a9B.2.1.1 rfl (by decide) rfl ?_
 refine a0y (pc' := 2) K.1 a9B.2.1.2 (by decide) ?_
 exact a0n (hk2 _ _ h) (ls (ls (ln l0)))
def a5W (NF : Nat) (k2 : b6H) (i1 : Int32) (σ : St) : Option (St) :=
 (if i1 < 40 then (if 0 < (gI σ 136) then (if 0 ≤ (((gI σ 136) - 1)).toInt ∧ (((gI σ 136) - 1)).toInt < 33 then (if (gA σ 16 (((gI σ 136) - 1)).toInt) < 0 then (some σ) else (if (gA σ 16 (((gI σ 136) - 1)).toInt) < (gI σ 134) then (if 0 ≤ ((gA σ 16 (((gI σ 136) - 1)).toInt)).toInt ∧ ((gA σ 16 (((gI σ 136) - 1)).toInt)).toInt < 33 then (if (gA (sI σ 136 ((gI σ 136) - 1)) 12 ((gA σ 16 (((gI σ 136) - 1)).toInt)).toInt) = 100 then (if 0 ≤ ((gA σ 16 (((gI σ 136) - 1)).toInt)).toInt ∧ ((gA σ 16 (((gI σ 136) - 1)).toInt)).toInt < 33 then a2E NF k2 i1 (gA σ 16 (((gI σ 136) - 1)).toInt) (sA (sI σ 136 ((gI σ 136) - 1)) 15 ((gA σ 16 (((gI σ 136) - 1)).toInt)).toInt (gI (sI σ 136 ((gI σ 136) - 1)) 138)) else none) else (if 0 ≤ ((gA σ 16 (((gI σ 136) - 1)).toInt)).toInt ∧ ((gA σ 16 (((gI σ 136) - 1)).toInt)).toInt < 33 then a2E NF k2 i1 (gA σ 16 (((gI σ 136) - 1)).toInt) (sA (sI σ 136 ((gI σ 136) - 1)) 14 ((gA σ 16 (((gI σ 136) - 1)).toInt)).toInt (gI (sI σ 136 ((gI σ 136) - 1)) 138)) else none)) else none) else (some σ))) else none) else (some σ)) else (some σ))
theorem b1G {NF : Nat} (K : a28 X Z a0 l n1 a h0) (hw : HW a0 Z) {k2 : Int32 → St → Option (St)} {i1 : Int32} {σ : St} {r : St} (hk2 : ∀ (i1 : Int32) (σ : St) (h : k2 i1 σ = some r), Go X (none, (r, 24)) 2 [some (.ref 0), vvI i1, none] [] (σ, 24)) (h : a5W NF k2 i1 σ = some r) : Go X (none, (r, 24)) 2 [some (.ref 0), vvI i1, none] [] (σ, 24) := by
 unfold a5W at h
 refine a0b K.1 a88.1.2.1 rfl ?_
 refine a0d (v := 40) K.1 a88.1.2.2 (by decide) ?_
 rcases ifs h with ⟨hc5, h⟩ | ⟨hc5, h⟩
 ·refine a0o K.1 a88.2.1.1 ((tlt hc5).2.1) (a0a K.1 a88.2.1.2 rfl (a0s K a88.2.2.1 (b43 hw) a11 ?_))
  rcases ifs h with ⟨hc12, h⟩ | ⟨hc12, h⟩
  ·refine a0t K.1 a88.2.2.2 ((if0 _ _).trans (tlt hc12).2.2.2) (a0a K.1 a95.1.1.2 rfl (a0k K a95.1.2.1 (w44 hw) b2J rfl (a0a K.1 a95.1.2.2 rfl (a0s K a95.2.1.1 (b43 hw) a11 ?_))))
   refine a0c (v := 1) K.1 a95.2.1.2 (by decide) ?_
   refine a1l K.1 a95.2.2.1 ?_
   obtain ⟨hc25, h⟩ := ifn h
   refine a0j K a95.2.2.2 b2k rfl hc25 (a0m (L' := [some (.ref 0), vvI i1, some (.int (gA σ 16 (((gI σ 136) - 1)).toInt))]) K.1 a4O.1.1.1 (blt rfl) rfl (a0b K.1 a4O.1.1.2 rfl ?_))
   rcases ifs h with ⟨hc28, h⟩ | ⟨hc28, h⟩
   ·refine a0u (pc' := 39) K.1 a4O.1.2.1 (by decide) ((if0 _ _).trans (tlt hc28).1) ?_
    cases h; exact a0F K.1 a9B.2.2 (a0w K)
   refine a0t K.1 a4O.1.2.1 ((if0 _ _).trans (flt hc28).1) (a0b K.1 a4O.1.2.2 rfl (a0a K.1 a4O.2.1.1 rfl (a0s K a4O.2.1.2 (b6y hw) a1b ?_)))
   rcases ifs h with ⟨hc36, h⟩ | ⟨hc36, h⟩
   ·refine a0p (pc' := 40) K.1 a4O.2.2.1 (by decide) ((tlt hc36).1) ?_
    refine a0a K.1 a4O.2.2.2 rfl (b0u K.1 a8h.1.1.1 rfl (a0s K a8h.1.1.2 (b43 hw) a11 ?_))
    refine a0c (v := 1) K.1 a8h.1.2.1 (by decide) ?_
    refine a1l K.1 a8h.1.2.2 (a0R (t := .int) (v' := ((gI σ 136) - 1)) K a8h.2.1.1 (b43 hw) a11 (Or.inl (b7A hw)) a1o rfl rfl (a0a K.1 a8h.2.1.2 rfl (a0k K a8h.2.2.1 (w36 hw) a56 rfl (a0b K.1 a8h.2.2.2 rfl ?_))))
    obtain ⟨hc55, h⟩ := ifn h
    refine a0j K a5e.1.1.1 a5t rfl hc55 ?_
    refine a0d (v := 100) K.1 a5e.1.1.2 (by decide) ?_
    rcases ifs h with ⟨hc58, h⟩ | ⟨hc58, h⟩
    ·refine a0o K.1 a5e.1.2.1 ((teq hc58).2) (a0a K.1 a70.1.1.2 rfl (a0k K a70.1.2.1 (w42 hw) b50 rfl (a0b K.1 a70.1.2.2 rfl (a0a K.1 a70.2.1.1 rfl (a0s K a70.2.1.2 (b6U hw) b2x ?_)))))
     obtain ⟨hc70, h⟩ := ifn h
     refine a0r K a70.2.2.1 b5M rfl hc70 ?_
     refine a0y (pc' := 84) K.1 a70.2.2.2 (by decide) ?_
     exact a4W K hw hk2 h
    refine a0p (pc' := 74) K.1 a5e.1.2.1 (by decide) ((feq hc58).2) ?_
    refine a0a K.1 a5e.1.2.2 rfl (a0k K a5e.2.1.1 (w40 hw) b4x rfl (a0b K.1 a5e.2.1.2 rfl (a0a K.1 a5e.2.2.1 rfl (a0s K a5e.2.2.2 (b6U hw) b2x ?_))))
    obtain ⟨hc83, h⟩ := ifn h
    refine a0r K a70.1.1.1 b4T rfl hc83 ?_
    exact a4W K hw hk2 h
   refine a0o K.1 a4O.2.2.1 ((flt hc36).1) ?_
   cases h; exact a0F K.1 a9B.2.2 (a0w K)
  refine a0u (pc' := 95) K.1 a88.2.2.2 (by decide) ((if0 _ _).trans (flt hc12).2.2.2) ?_
  cases h; exact a0F K.1 a95.1.1.1 (a0w K)
 refine a0p (pc' := 95) K.1 a88.2.1.1 (by decide) ((flt hc5).2.1) ?_
 cases h; exact a0F K.1 a95.1.1.1 (a0w K)
def a5E (NF : Nat)  : Nat → b6H
 | 0 => fun _ _ => none
 | n + 1 => fun i1 σ => a5W NF  (a5E NF  n) i1 σ
theorem b1L {NF : Nat} (K : a28 X Z a0 l n1 a h0) (hw : HW a0 Z) (n : Nat)  {r : St}  : ∀ (i1 : Int32) (σ : St) (h : a5E NF  n i1 σ = some r), Go X (none, (r, 24)) 2 [some (.ref 0), vvI i1, none] [] (σ, 24) := by
 induction n with
 | zero => intro i1 σ h; cases h
 | succ n ih => intro i1 σ h; exact b1G (NF := NF) K hw  ih h
def a8B (NF : Nat) (σ : St) : Option (St) :=
 a5E NF NF (0 : Int32) σ
theorem b3H {NF : Nat} (K : a28 X Z a0 l n1 a h0) (hw : HW a0 Z) {σ : St} {r : St} (h : a8B NF σ = some r) : Go X (none, (r, 24)) 0 [some (.ref 0), none, none] [] (σ, 24) := by
 unfold a8B at h
 refine a0c (v := 0) K.1 a88.1.1.1 (by decide) ?_
 refine a0m (L' := [some (.ref 0), some (.int (0 : Int32)), none]) K.1 a88.1.1.2 (blt rfl) rfl ?_
 exact b1L K hw NF  _ _ h
theorem b2R (l : Launch) (Z : State) (a0 : Array Value) (hw : HW a0 Z) (n1 : Nat) (a : Addr) (ha : n1 ≤ a) {NF : Nat} {σ : St} {r : St} (h : a8B NF σ = some r) : Con l Z cC cFS cFA 24 n1 a ⟨cC, "collapse", "()V"⟩ c28 3 none ⟨0, 0, 0, 0⟩ [.ref 0] σ none r :=
 a0l pnC rfl (a1m hw) a0E ha (fun X h1 K => b3H K hw h)
abbrev b4a := KKQ ⟨0, 0, 0, 0⟩ "newNode" c29 6 (some .int)
def a3E (σ : St) (v1 v2 : Int32) (v3 v4 : Int32) : Option (Int32 × St) :=
 (if (gI σ 134) < 0 then (some ((-1 : Int32), σ)) else (if (gI σ 134) < 33 then (if 0 ≤ ((gI σ 134)).toInt ∧ ((gI σ 134)).toInt < 33 then (if 0 ≤ ((gI σ 134)).toInt ∧ ((gI σ 134)).toInt < 33 then (if 0 ≤ ((gI σ 134)).toInt ∧ ((gI σ 134)).toInt < 33 then (if 0 ≤ ((gI σ 134)).toInt ∧ ((gI σ 134)).toInt < 33 then (some ((gI σ 134), (sI (sA (sA (sA (sA σ 12 ((gI σ 134)).toInt v1) 13 ((gI σ 134)).toInt v2) 14 ((gI σ 134)).toInt v3) 15 ((gI σ 134)).toInt v4) 134 ((gI (sA (sA (sA (sA σ 12 ((gI σ 134)).toInt v1) 13 ((gI σ 134)).toInt v2) 14 ((gI σ 134)).toInt v3) 15 ((gI σ 134)).toInt v4) 134) + 1)))) else none) else none) else none) else none) else (some ((-1 : Int32), σ))))
theorem b4e (K : b4a X Z a0 l n1 a h0) (hw : HW a0 Z) {σ : St} {v1 v2 : Int32} {v3 v4 : Int32} {r : Int32 × St} (h : a3E σ v1 v2 v3 v4 = some r) : Go X (vvI r.1, (r.2, 24)) 0 [some (.ref 0), vvI v1, vvI v2, vvI v3, vvI v4, none] [] (σ, 24) := by
 unfold a3E at h
 refine a0a K.1 a9h.1.1.1 rfl (a0s K a9h.1.1.2 (b6y hw) a1b ?_)
 rcases ifs h with ⟨hc4, h⟩ | ⟨hc4, h⟩
 ·refine a0u (pc' := 16) K.1 a9h.1.2.1 (by decide) ((if0 _ _).trans (tlt hc4).1) ?_
  refine a0c (v := -1) K.1 a4n.2.2.1 (by decide) ?_
  cases h; exact a0e K.1 a4n.2.2.2 (a0w K)
 refine a0t K.1 a9h.1.2.1 ((if0 _ _).trans (flt hc4).1) (a0a K.1 a9h.1.2.2 rfl (a0s K a9h.2.1.1 (b6y hw) a1b ?_))
 refine a0d (v := 33) K.1 a9h.2.1.2 (by decide) ?_
 rcases ifs h with ⟨hc13, h⟩ | ⟨hc13, h⟩
 ·refine a0p (pc' := 18) K.1 a9h.2.2.1 (by decide) ((tlt hc13).1) ?_
  refine a0a K.1 a9h.2.2.2 rfl (a0s K b1a.1.1.1 (b6y hw) a1b (a0q (L' := [some (.ref 0), vvI v1, vvI v2, vvI v3, vvI v4, some (.int (gI σ 134))]) K.1 b1a.1.1.2 (blt rfl) rfl (a0a K.1 b1a.1.2.1 rfl (a0k K b1a.1.2.2 (w36 hw) a56 rfl (a0f K.1 b1a.2.1.1 rfl ?_)))))
  refine a0b K.1 b1a.2.1.2 rfl ?_
  obtain ⟨hc31, h⟩ := ifn h
  refine a0r K b1a.2.2.1 a5t rfl hc31 (a0a K.1 b1a.2.2.2 rfl (a0k K a6L.1.1.1 (w38 hw) b2D rfl (a0f K.1 a6L.1.1.2 rfl (a0b K.1 a6L.1.2.1 rfl ?_))))
  obtain ⟨hc39, h⟩ := ifn h
  refine a0r K a6L.1.2.2 b2v rfl hc39 (a0a K.1 a6L.2.1.1 rfl (a0k K a6L.2.1.2 (w40 hw) b4x rfl (a0f K.1 a6L.2.2.1 rfl (a0b K.1 a6L.2.2.2 rfl ?_))))
  obtain ⟨hc47, h⟩ := ifn h
  refine a0r K a69.1.1.1 b4T rfl hc47 (a0a K.1 a69.1.1.2 rfl (a0k K a69.1.2.1 (w42 hw) b50 rfl (a0f K.1 a69.1.2.2 rfl (a0f K.1 a69.2.1.1 rfl ?_))))
  obtain ⟨hc56, h⟩ := ifn h
  refine a0r K a69.2.1.2 b5M rfl hc56 (a0a K.1 a69.2.2.1 rfl (b0u K.1 a69.2.2.2 rfl (a0s K a4n.1.1.1 (b6y hw) a1b ?_)))
  refine a0c (v := 1) K.1 a4n.1.1.2 (by decide) ?_
  refine a0z K.1 a4n.1.2.1 (a0R (t := .int) (v' := ((gI (sA (sA (sA (sA σ 12 ((gI σ 134)).toInt v1) 13 ((gI σ 134)).toInt v2) 14 ((gI σ 134)).toInt v3) 15 ((gI σ 134)).toInt v4) 134) + 1)) K a4n.1.2.2 (b6y hw) a1b (Or.inl (b8S hw)) a1o rfl rfl (a0f K.1 a4n.2.1.1 rfl ?_))
  cases h; exact a0e K.1 a4n.2.1.2 (a0w K)
 refine a0o K.1 a9h.2.2.1 ((flt hc13).1) ?_
 refine a0c (v := -1) K.1 a4n.2.2.1 (by decide) ?_
 cases h; exact a0e K.1 a4n.2.2.2 (a0w K)
theorem a21 (l : Launch) (Z : State) (a0 : Array Value) (hw : HW a0 Z) (n1 : Nat) (a : Addr) (ha : n1 ≤ a) {σ : St} {v1 v2 : Int32} {v3 v4 : Int32} {r : Int32 × St} (h : a3E σ v1 v2 v3 v4 = some r) : Con l Z cC cFS cFA 24 n1 a ⟨cC, "newNode", "(IIII)I"⟩ c29 6 (some .int) ⟨0, 0, 0, 0⟩ [.ref 0, .int v1, .int v2, .int v3, .int v4] σ (some (.int r.1)) r.2 :=
 a0l pnC rfl (a1m hw) a0E ha (fun X h1 K => b4e K hw h)
abbrev b1Q := KKQ ⟨0, 0, 0, 0⟩ "pushPending" c30 2 (some .boolean)
def a1w (σ : St) (v1 : Int32) : Option (Int32 × St) :=
 (if (gI σ 136) < 0 then (some ((0 : Int32), σ)) else (if (gI σ 136) < 33 then (if 0 ≤ ((gI σ 136)).toInt ∧ ((gI σ 136)).toInt < 33 then (some ((1 : Int32), (sI (sA σ 16 ((gI σ 136)).toInt v1) 136 ((gI (sA σ 16 ((gI σ 136)).toInt v1) 136) + 1)))) else none) else (some ((0 : Int32), σ))))
theorem b1M (K : b1Q X Z a0 l n1 a h0) (hw : HW a0 Z) {σ : St} {v1 : Int32} {r : Int32 × St} (h : a1w σ v1 = some r) : Go X (vvI r.1, (r.2, 24)) 0 [some (.ref 0), vvI v1] [] (σ, 24) := by
 unfold a1w at h
 refine a0a K.1 a9b.1.1.1 rfl (a0s K a9b.1.1.2 (b43 hw) a11 ?_)
 rcases ifs h with ⟨hc4, h⟩ | ⟨hc4, h⟩
 ·refine a0u (pc' := 16) K.1 a9b.1.2.1 (by decide) ((if0 _ _).trans (tlt hc4).1) ?_
  refine a0c (v := 0) K.1 a5r.2.1.2 (by decide) ?_
  cases h; exact a0h (t := .boolean) K.1 rfl (Or.inl rfl) a5r.2.2 rfl (a0w K)
 refine a0t K.1 a9b.1.2.1 ((if0 _ _).trans (flt hc4).1) (a0a K.1 a9b.1.2.2 rfl (a0s K a9b.2.1.1 (b43 hw) a11 ?_))
 refine a0d (v := 33) K.1 a9b.2.1.2 (by decide) ?_
 rcases ifs h with ⟨hc13, h⟩ | ⟨hc13, h⟩
 ·refine a0p (pc' := 18) K.1 a9b.2.2.1 (by decide) ((tlt hc13).1) ?_
  refine a0a K.1 a9b.2.2.2 rfl (a0k K b05.1.1.1 (w44 hw) b2J rfl (a0a K.1 b05.1.1.2 rfl (a0s K b05.1.2.1 (b43 hw) a11 (a0b K.1 b05.1.2.2 rfl ?_))))
  obtain ⟨hc27, h⟩ := ifn h
  refine a0r K b05.2.1.1 b2k rfl hc27 (a0a K.1 b05.2.1.2 rfl (b0u K.1 b05.2.2.1 rfl (a0s K b05.2.2.2 (b43 hw) a11 ?_)))
  refine a0c (v := 1) K.1 a5r.1.1.1 (by decide) ?_
  refine a0z K.1 a5r.1.1.2 (a0R (t := .int) (v' := ((gI (sA σ 16 ((gI σ 136)).toInt v1) 136) + 1)) K a5r.1.2.1 (b43 hw) a11 (Or.inl (b7A hw)) a1o rfl rfl ?_)
  refine a0c (v := 1) K.1 a5r.1.2.2 (by decide) ?_
  cases h; exact a0h (t := .boolean) K.1 rfl (Or.inl rfl) a5r.2.1.1 rfl (a0w K)
 refine a0o K.1 a9b.2.2.1 ((flt hc13).1) ?_
 refine a0c (v := 0) K.1 a5r.2.1.2 (by decide) ?_
 cases h; exact a0h (t := .boolean) K.1 rfl (Or.inl rfl) a5r.2.2 rfl (a0w K)
theorem a2u (l : Launch) (Z : State) (a0 : Array Value) (hw : HW a0 Z) (n1 : Nat) (a : Addr) (ha : n1 ≤ a) {σ : St} {v1 : Int32} {r : Int32 × St} (h : a1w σ v1 = some r) : Con l Z cC cFS cFA 24 n1 a ⟨cC, "pushPending", "(I)Z"⟩ c30 2 (some .boolean) ⟨0, 0, 0, 0⟩ [.ref 0, .int v1] σ (some (.int r.1)) r.2 :=
 a0l pnC rfl (a1m hw) a0E ha (fun X h1 K => b1M K hw h)
abbrev a7W := KKQ ⟨1, 0, 0, 17⟩ "parseAfter" c26 4 (some .int)
def a1K (NF : Nat)  (i2 : Int32) (σ : St) : Option (Int32 × St) :=
 (if i2 = 0 then (if (gI σ 136) = 0 then (some ((-2 : Int32), (sI σ 139 (gI σ 138)))) else (some ((-1 : Int32), σ))) else (some ((-1 : Int32), σ)))
theorem a3j {NF : Nat} (K : a7W X Z a0 l n1 a h0) (hw : HW a0 Z)  {i2 : Int32} {σ : St} {r : Int32 × St}  (h : a1K NF  i2 σ = some r) : Go X (vvI r.1, (r.2, 24)) 81 [some (.ref 0), none, vvI i2, none] [] (σ, 24) := by
 unfold a1K at h
 refine a0b K.1 a2L.1.1.1 rfl ?_
 rcases ifs h with ⟨hc82, h⟩ | ⟨hc82, h⟩
 ·refine a0t K.1 a2L.1.1.2 ((if0 _ _).trans (teq hc82).2) (a0a K.1 a2L.1.2.1 rfl (a0s K a2L.1.2.2 (b43 hw) a11 ?_))
  rcases ifs h with ⟨hc89, h⟩ | ⟨hc89, h⟩
  ·refine a0t K.1 a2L.2.1.1 ((if0 _ _).trans (teq hc89).2) (a0a K.1 a2L.2.2.2 rfl (a0a K.1 a7H.1.1.1 rfl (a0s K a7H.1.1.2 (b6U hw) b2x (a0R (t := .int) (v' := (gI σ 138)) K a7H.1.2.1 (b76 hw) b3C (Or.inl (b8C hw)) a1o rfl rfl ?_))))
   refine a0d (v := -2) K.1 a7H.1.2.2 (by decide) ?_
   cases h; exact a0e K.1 a7H.2.1.1 (a0w K)
  refine a0u (pc' := 103) K.1 a2L.2.1.1 (by decide) ((if0 _ _).trans (feq hc89).2) ?_
  refine a0c (v := -1) K.1 a2L.2.1.2 (by decide) ?_
  cases h; exact a0e K.1 a2L.2.2.1 (a0w K)
 refine a0u (pc' := 103) K.1 a2L.1.1.2 (by decide) ((if0 _ _).trans (feq hc82).2) ?_
 refine a0c (v := -1) K.1 a2L.2.1.2 (by decide) ?_
 cases h; exact a0e K.1 a2L.2.2.1 (a0w K)
def a33 (NF : Nat) (σ : St) (v1 : Int32) : Option (Int32 × St) :=
 ((a8s σ v1).bind fun q2 => ((a08 q2.2 q2.1).bind fun q8 => (if q8.1 = 0 then ((a8B NF q8.2).bind fun q51 => (if q2.1 = 41 then (if 0 < (gI q51 136) then (some ((v1 + 1), (sI q51 136 ((gI q51 136) - 1)))) else a1K NF q2.1 q51) else a1K NF q2.1 q51)) else ((a3E q8.2 (100 : Int32) q2.1 (gI q8.2 138) (-1 : Int32)).bind fun q23 => (if q23.1 < 0 then (some ((-1 : Int32), q23.2)) else ((a1w q23.2 q23.1).bind fun q33 => (if q33.1 = 0 then (some ((-1 : Int32), q33.2)) else (some ((v1 + 1), (sI q33.2 137 (1 : Int32)))))))))))
theorem b2r {NF : Nat} (K : a7W X Z a0 l n1 a h0) (hw : HW a0 Z) {σ : St} {v1 : Int32} {r : Int32 × St} (h : a33 NF σ v1 = some r) : Go X (vvI r.1, (r.2, 24)) 0 [some (.ref 0), vvI v1, none, none] [] (σ, 24) := by
 unfold a33 at h
 refine a0a K.1 a9K.1.1.1 rfl (a0b K.1 a9K.1.1.2 rfl ?_)
 obtain ⟨q2, hq2, h⟩ := bsq h
 refine a0g (vs := [.int v1]) K a9K.1.2.1 (b8N hw) (b8o hw) (b8c hw) (b8s hw) hyC a3e rfl rfl (a7b l Z a0 hw n1 a (a0i K) hq2) rfl (nbq rfl) (nbq rfl) rfl rfl (a0m (L' := [some (.ref 0), vvI v1, vvI q2.1, none]) K.1 a9K.1.2.2 (blt rfl) rfl (a0a K.1 a9K.2.1.1 rfl (a0b K.1 a9K.2.1.2 rfl ?_)))
 obtain ⟨q8, hq8, h⟩ := bsq h
 refine a0g (vs := [.int q2.1]) K a9K.2.2.1 (b8B hw) (b8k hw) (b8F hw) (b8v hw) hyC a1D rfl rfl (a1O l Z a0 hw n1 a (a0i K) hq8) rfl (nbq rfl) (nbq rfl) rfl rfl ?_
 rcases ifs h with ⟨hc11, h⟩ | ⟨hc11, h⟩
 ·refine a0u (pc' := 50) K.1 a9K.2.2.2 (by decide) ((if0 _ _).trans (teq hc11).1) ?_
  refine a0a K.1 a8S.1.1.1 rfl ?_
  obtain ⟨q51, hq51, h⟩ := bsq h
  refine a0g (vs := []) K a8S.1.1.2 (c0X hw) (b91 hw) (c1l hw) (b9Q hw) hyC c1a rfl rfl (b2R l Z a0 hw n1 a (a0i K) hq51) rfl (nbq rfl) (nbq rfl) rfl rfl (a0b K.1 a8S.1.2.1 rfl ?_)
  refine a0d (v := 41) K.1 a8S.1.2.2 (by decide) ?_
  rcases ifs h with ⟨hc57, h⟩ | ⟨hc57, h⟩
  ·refine a0o K.1 a8S.2.1.1 ((teq hc57).2) (a0a K.1 a8S.2.1.2 rfl (a0s K a8S.2.2.1 (b43 hw) a11 ?_))
   rcases ifs h with ⟨hc64, h⟩ | ⟨hc64, h⟩
   ·refine a0t K.1 a8S.2.2.2 ((if0 _ _).trans (tlt hc64).2.2.2) (a0a K.1 a7H.2.1.2 rfl (b0u K.1 a7H.2.2.1 rfl (a0s K a7H.2.2.2 (b43 hw) a11 ?_)))
    refine a0c (v := 1) K.1 a7G.1.1.1 (by decide) ?_
    refine a1l K.1 a7G.1.1.2 (a0R (t := .int) (v' := ((gI q51 136) - 1)) K a7G.1.2.1 (b43 hw) a11 (Or.inl (b7A hw)) a1o rfl rfl (a0b K.1 a7G.1.2.2 rfl ?_))
    refine a0c (v := 1) K.1 a7G.2.1.1 (by decide) ?_
    refine a0z K.1 a7G.2.1.2 ?_
    cases h; exact a0e K.1 a7G.2.2.1 (a0w K)
   refine a0u (pc' := 81) K.1 a8S.2.2.2 (by decide) ((if0 _ _).trans (flt hc64).2.2.2) ?_
   exact a0n (a3j K hw  h) (ls (ln (ls (ls l0))))
  refine a0p (pc' := 81) K.1 a8S.2.1.1 (by decide) ((feq hc57).2) ?_
  exact a0n (a3j K hw  h) (ls (ln (ls (ls l0))))
 refine a0t K.1 a9K.2.2.2 ((if0 _ _).trans (feq hc11).1) (a0a K.1 a7G.2.2.2 rfl ?_)
 refine a0d (v := 100) K.1 a6N.1.1.1 (by decide) ?_
 refine a0b K.1 a6N.1.1.2 rfl (a0a K.1 a6N.1.2.1 rfl (a0s K a6N.1.2.2 (b6U hw) b2x ?_))
 refine a0c (v := -1) K.1 a6N.2.1.1 (by decide) ?_
 obtain ⟨q23, hq23, h⟩ := bsq h
 refine a0g (vs := [.int (100 : Int32), .int q2.1, .int (gI q8.2 138), .int (-1 : Int32)]) K a6N.2.1.2 (b74 hw) (b78 hw) (b7Z hw) (b71 hw) hyC b70 rfl rfl (a21 l Z a0 hw n1 a (a0i K) hq23) rfl (nbq rfl) (nbq rfl) rfl rfl (a0m (L' := [some (.ref 0), vvI v1, vvI q2.1, vvI q23.1]) K.1 a6N.2.2.1 (blt rfl) rfl (a0b K.1 a6N.2.2.2 rfl ?_))
 rcases ifs h with ⟨hc28, h⟩ | ⟨hc28, h⟩
 ·refine a0u (pc' := 39) K.1 a4H.1.1.1 (by decide) ((if0 _ _).trans (tlt hc28).1) ?_
  refine a0c (v := -1) K.1 a6V.2.1.2 (by decide) ?_
  cases h; exact a0e K.1 a6V.2.2 (a0w K)
 refine a0t K.1 a4H.1.1.1 ((if0 _ _).trans (flt hc28).1) (a0a K.1 a4H.1.1.2 rfl (a0b K.1 a4H.1.2.1 rfl ?_))
 obtain ⟨q33, hq33, h⟩ := bsq h
 refine a0g (vs := [.int q23.1]) K a4H.1.2.2 (b8i hw) (b8n hw) (b8z hw) (b8E hw) hyC a1D rfl rfl (a2u l Z a0 hw n1 a (a0i K) hq33) rfl (nbq rfl) (nbq rfl) rfl rfl ?_
 rcases ifs h with ⟨hc36, h⟩ | ⟨hc36, h⟩
 ·refine a0t K.1 a4H.2.1.1 ((if0 _ _).trans (teq hc36).2) ?_
  refine a0c (v := -1) K.1 a6V.2.1.2 (by decide) ?_
  cases h; exact a0e K.1 a6V.2.2 (a0w K)
 refine a0u (pc' := 41) K.1 a4H.2.1.1 (by decide) ((if0 _ _).trans (feq hc36).2) ?_
 refine a0a K.1 a4H.2.1.2 rfl ?_
 refine a0c (v := 1) K.1 a4H.2.2.1 (by decide) ?_
 refine a0R (t := .boolean) (v' := (1 : Int32)) K a4H.2.2.2 (b79 hw) a30 (Or.inl (b72 hw)) b6F rfl rfl (a0b K.1 a6V.1.1.1 rfl ?_)
 refine a0c (v := 1) K.1 a6V.1.1.2 (by decide) ?_
 refine a0z K.1 a6V.1.2 ?_
 cases h; exact a0e K.1 a6V.2.1.1 (a0w K)
theorem b1Y (l : Launch) (Z : State) (a0 : Array Value) (hw : HW a0 Z) (n1 : Nat) (a : Addr) (ha : n1 ≤ a) {NF : Nat} {σ : St} {v1 : Int32} {r : Int32 × St} (h : a33 NF σ v1 = some r) : Con l Z cC cFS cFA 24 n1 a ⟨cC, "parseAfter", "(I)I"⟩ c26 4 (some .int) ⟨1, 0, 0, 17⟩ [.ref 0, .int v1] σ (some (.int r.1)) r.2 :=
 a0l pnC rfl (a1m hw) a0E ha (fun X h1 K => b2r K hw h)
abbrev b1Z := KKQ ⟨0, 0, 0, 0⟩ "takeOperand" c33 3 (some .int)
def a13 (σ : St) (v1 v2 : Int32) : Option (Int32 × St) :=
 (if v1 < 0 then (some ((-1 : Int32), σ)) else (some (v2, (sI (sI σ 138 v1) 137 (0 : Int32)))))
theorem b1K (K : b1Z X Z a0 l n1 a h0) (hw : HW a0 Z) {σ : St} {v1 v2 : Int32} {r : Int32 × St} (h : a13 σ v1 v2 = some r) : Go X (vvI r.1, (r.2, 24)) 0 [some (.ref 0), vvI v1, vvI v2] [] (σ, 24) := by
 unfold a13 at h
 refine a0b K.1 a9G.1.1.1 rfl ?_
 rcases ifs h with ⟨hc1, h⟩ | ⟨hc1, h⟩
 ·refine a0t K.1 a9G.1.1.2 ((if0 _ _).trans (tlt hc1).2.1) ?_
  refine a0c (v := -1) K.1 b48.2.1 (by decide) ?_
  cases h; exact a0e K.1 b48.2.2 (a0w K)
 refine a0u (pc' := 6) K.1 a9G.1.1.2 (by decide) ((if0 _ _).trans (flt hc1).2.1) ?_
 refine a0a K.1 a9G.1.2.1 rfl (a0b K.1 a9G.1.2.2 rfl (a0R (t := .int) (v' := v1) K a9G.2.1.1 (b6U hw) b2x (Or.inl (b7Y hw)) a1o rfl rfl (a0a K.1 a9G.2.1.2 rfl ?_)))
 refine a0c (v := 0) K.1 a9G.2.2.1 (by decide) ?_
 refine a0R (t := .boolean) (v' := (0 : Int32)) K a9G.2.2.2 (b79 hw) a30 (Or.inl (b72 hw)) b6F rfl rfl (a0b K.1 b48.1.1 rfl ?_)
 cases h; exact a0e K.1 b48.1.2 (a0w K)
theorem a4S (l : Launch) (Z : State) (a0 : Array Value) (hw : HW a0 Z) (n1 : Nat) (a : Addr) (ha : n1 ≤ a) {σ : St} {v1 v2 : Int32} {r : Int32 × St} (h : a13 σ v1 v2 = some r) : Con l Z cC cFS cFA 24 n1 a ⟨cC, "takeOperand", "(II)I"⟩ c33 3 (some .int) ⟨0, 0, 0, 0⟩ [.ref 0, .int v1, .int v2] σ (some (.int r.1)) r.2 :=
 a0l pnC rfl (a1m hw) a0E ha (fun X h1 K => b1K K hw h)
abbrev a1u := KKQ ⟨1, 0, 0, 17⟩ "parseLiteral" c32 4 (some .int)
def a0U (NF : Nat)  (i1 i2 : Int32) (σ : St) : Option (Int32 × St) :=
 ((a3E σ (110 : Int32) (0 : Int32) i1 i2).bind fun q51 => ((a13 q51.2 q51.1 (i1 + i2)).bind fun q60 => (some (q60.1, q60.2))))
theorem a06 {NF : Nat} (K : a1u X Z a0 l n1 a h0) (hw : HW a0 Z)  {i1 i2 : Int32} {σ : St} {r : Int32 × St}  (h : a0U NF  i1 i2 σ = some r) : Go X (vvI r.1, (r.2, 24)) 45 [some (.ref 0), vvI i1, vvI i2, none] [] (σ, 24) := by
 unfold a0U at h
 refine a0a K.1 a5F.2.2.2 rfl ?_
 refine a0d (v := 110) K.1 a6C.1.1.1 (by decide) ?_
 refine a0c (v := 0) K.1 a6C.1.1.2 (by decide) ?_
 refine a0b K.1 a6C.1.2.1 rfl (a0b K.1 a6C.1.2.2 rfl ?_)
 obtain ⟨q51, hq51, h⟩ := bsq h
 refine a0g (vs := [.int (110 : Int32), .int (0 : Int32), .int i1, .int i2]) K a6C.2.1.1 (b74 hw) (b78 hw) (b7Z hw) (b71 hw) hyC b70 rfl rfl (a21 l Z a0 hw n1 a (a0i K) hq51) rfl (nbq rfl) (nbq rfl) rfl rfl (a0m (L' := [some (.ref 0), vvI i1, vvI i2, vvI q51.1]) K.1 a6C.2.1.2 (blt rfl) rfl (a0a K.1 a6C.2.2.1 rfl (a0b K.1 a6C.2.2.2 rfl (a0b K.1 b2h.1.1.1 rfl (a0b K.1 b2h.1.1.2 rfl ?_)))))
 refine a0z K.1 b2h.1.2 ?_
 obtain ⟨q60, hq60, h⟩ := bsq h
 refine a0g (vs := [.int q51.1, .int (i1 + i2)]) K b2h.2.1 (b9o hw) (b9q hw) (b9i hw) (b8Z hw) hyC b4S rfl rfl (a4S l Z a0 hw n1 a (a0i K) hq60) rfl (nbq rfl) (nbq rfl) rfl rfl ?_
 cases h; exact a0e K.1 b2h.2.2 (a0w K)
def a2m (NF : Nat) (k4 : b73) (i1 i2 i3 : Int32) (σ : St) : Option (Int32 × St) :=
 (if i3 < 0 then a0U NF i1 i2 σ else (if i3 < (gI σ 129) then (if i3 < 33 then (if 0 ≤ (i3).toInt ∧ (i3).toInt < 33 then (if (gA σ 10 (i3).toInt) = 78 then k4 i1 (i2 + 1) (i3 + 1) σ else a0U NF i1 i2 σ) else none) else a0U NF i1 i2 σ) else a0U NF i1 i2 σ))
theorem a8F {NF : Nat} (K : a1u X Z a0 l n1 a h0) (hw : HW a0 Z) {k4 : Int32 → Int32 → Int32 → St → Option (Int32 × St)} {i1 i2 i3 : Int32} {σ : St} {r : Int32 × St} (hk4 : ∀ (i1 i2 i3 : Int32) (σ : St) (h : k4 i1 i2 i3 σ = some r), Go X (vvI r.1, (r.2, 24)) 4 [some (.ref 0), vvI i1, vvI i2, vvI i3] [] (σ, 24)) (h : a2m NF k4 i1 i2 i3 σ = some r) : Go X (vvI r.1, (r.2, 24)) 4 [some (.ref 0), vvI i1, vvI i2, vvI i3] [] (σ, 24) := by
 unfold a2m at h
 refine a0b K.1 b0h.2.1.1 rfl ?_
 rcases ifs h with ⟨hc5, h⟩ | ⟨hc5, h⟩
 ·refine a0u (pc' := 45) K.1 b0h.2.1.2 (by decide) ((if0 _ _).trans (tlt hc5).1) ?_
  exact a0n (a06 K hw  h) (ls (ls (ls (ln l0))))
 refine a0t K.1 b0h.2.1.2 ((if0 _ _).trans (flt hc5).1) (a0b K.1 b0h.2.2.1 rfl (a0a K.1 b0h.2.2.2 rfl (a0s K a9d.1.1.1 (b3w hw) a0B ?_)))
 rcases ifs h with ⟨hc13, h⟩ | ⟨hc13, h⟩
 ·refine a0o K.1 a9d.1.1.2 ((tlt hc13).2.1) (a0b K.1 a9d.1.2.1 rfl ?_)
  refine a0d (v := 33) K.1 a9d.1.2.2 (by decide) ?_
  rcases ifs h with ⟨hc19, h⟩ | ⟨hc19, h⟩
  ·refine a0o K.1 a9d.2.1.1 ((tlt hc19).2.1) (a0a K.1 a9d.2.1.2 rfl (a0k K a9d.2.2.1 (w32 hw) a1V rfl (a0b K.1 a9d.2.2.2 rfl ?_)))
   obtain ⟨hc27, h⟩ := ifn h
   refine a0j K a5F.1.1.1 a1W rfl hc27 ?_
   refine a0d (v := 78) K.1 a5F.1.1.2 (by decide) ?_
   rcases ifs h with ⟨hc30, h⟩ | ⟨hc30, h⟩
   ·refine a0p (pc' := 36) K.1 a5F.1.2.1 (by decide) ((teq hc30).1) ?_
    refine a09 (w := 1) (L' := [some (.ref 0), vvI i1, some (.int (i2 + 1)), vvI i3]) K.1 a5F.1.2.2 rfl (by decide) rfl ?_
    refine a09 (w := 1) (L' := [some (.ref 0), vvI i1, some (.int (i2 + 1)), some (.int (i3 + 1))]) K.1 a5F.2.1.1 rfl (by decide) rfl ?_
    refine a0y (pc' := 4) K.1 a5F.2.1.2 (by decide) ?_
    exact hk4 _ _ _ _ h
   refine a0o K.1 a5F.1.2.1 ((feq hc30).1) ?_
   refine a0y (pc' := 45) K.1 a5F.2.2.1 (by decide) ?_
   exact a0n (a06 K hw  h) (ls (ls (ls (ln l0))))
  refine a0p (pc' := 45) K.1 a9d.2.1.1 (by decide) ((flt hc19).2.1) ?_
  exact a0n (a06 K hw  h) (ls (ls (ls (ln l0))))
 refine a0p (pc' := 45) K.1 a9d.1.1.2 (by decide) ((flt hc13).2.1) ?_
 exact a0n (a06 K hw  h) (ls (ls (ls (ln l0))))
def a2x (NF : Nat)  : Nat → b73
 | 0 => fun _ _ _ _ => none
 | n + 1 => fun i1 i2 i3 σ => a2m NF  (a2x NF  n) i1 i2 i3 σ
theorem a8G {NF : Nat} (K : a1u X Z a0 l n1 a h0) (hw : HW a0 Z) (n : Nat)  {r : Int32 × St}  : ∀ (i1 i2 i3 : Int32) (σ : St) (h : a2x NF  n i1 i2 i3 σ = some r), Go X (vvI r.1, (r.2, 24)) 4 [some (.ref 0), vvI i1, vvI i2, vvI i3] [] (σ, 24) := by
 induction n with
 | zero => intro i1 i2 i3 σ h; cases h
 | succ n ih => intro i1 i2 i3 σ h; exact a8F (NF := NF) K hw  ih h
def a2G (NF : Nat) (σ : St) (v1 : Int32) : Option (Int32 × St) :=
 a2x NF NF v1 (0 : Int32) v1 σ
theorem b0L {NF : Nat} (K : a1u X Z a0 l n1 a h0) (hw : HW a0 Z) {σ : St} {v1 : Int32} {r : Int32 × St} (h : a2G NF σ v1 = some r) : Go X (vvI r.1, (r.2, 24)) 0 [some (.ref 0), vvI v1, none, none] [] (σ, 24) := by
 unfold a2G at h
 refine a0c (v := 0) K.1 b0h.1.1.1 (by decide) ?_
 refine a0m (L' := [some (.ref 0), vvI v1, some (.int (0 : Int32)), none]) K.1 b0h.1.1.2 (blt rfl) rfl (a0b K.1 b0h.1.2.1 rfl (a0m (L' := [some (.ref 0), vvI v1, some (.int (0 : Int32)), vvI v1]) K.1 b0h.1.2.2 (blt rfl) rfl ?_))
 exact a8G K hw NF  _ _ _ _ h
theorem b0o (l : Launch) (Z : State) (a0 : Array Value) (hw : HW a0 Z) (n1 : Nat) (a : Addr) (ha : n1 ≤ a) {NF : Nat} {σ : St} {v1 : Int32} {r : Int32 × St} (h : a2G NF σ v1 = some r) : Con l Z cC cFS cFA 24 n1 a ⟨cC, "parseLiteral", "(I)I"⟩ c32 4 (some .int) ⟨1, 0, 0, 17⟩ [.ref 0, .int v1] σ (some (.int r.1)) r.2 :=
 a0l pnC rfl (a1m hw) a0E ha (fun X h1 K => b0L K hw h)
abbrev a34 := KKQ ⟨1, 0, 0, 17⟩ "parseFunction" c34 7 (some .int)
def a0Z  (i1 i2 : Int32) (i4 i5 : Int32) (σ : St) : Option (Int32 × St) :=
 ((a3E σ i4 i1 (-1 : Int32) (0 : Int32)).bind fun q70 => (if q70.1 < 0 then (some ((-1 : Int32), q70.2)) else ((a1w q70.2 q70.1).bind fun q83 => (if q83.1 = 0 then (some ((-1 : Int32), q83.2)) else (some ((i2 + i5), q83.2))))))
theorem a1k (K : a34 X Z a0 l n1 a h0) (hw : HW a0 Z)  {i1 i2 : Int32} {i4 i5 : Int32} {σ : St} {r : Int32 × St}  (h : a0Z  i1 i2 i4 i5 σ = some r) : Go X (vvI r.1, (r.2, 24)) 64 [some (.ref 0), vvI i1, vvI i2, none, vvI i4, vvI i5, none] [] (σ, 24) := by
 unfold a0Z at h
 refine a0a K.1 a6Q.1.2.2 rfl (a0f K.1 a6Q.2.1.1 rfl (a0b K.1 a6Q.2.1.2 rfl ?_))
 refine a0c (v := -1) K.1 a6Q.2.2.1 (by decide) ?_
 refine a0c (v := 0) K.1 a6Q.2.2.2 (by decide) ?_
 obtain ⟨q70, hq70, h⟩ := bsq h
 refine a0g (vs := [.int i4, .int i1, .int (-1 : Int32), .int (0 : Int32)]) K a4M.1.1.1 (b74 hw) (b78 hw) (b7Z hw) (b71 hw) hyC b70 rfl rfl (a21 l Z a0 hw n1 a (a0i K) hq70) rfl (nbq rfl) (nbq rfl) rfl rfl (a0q (L' := [some (.ref 0), vvI i1, vvI i2, none, vvI i4, vvI i5, vvI q70.1]) K.1 a4M.1.1.2 (blt rfl) rfl (a0f K.1 a4M.1.2.1 rfl ?_))
 rcases ifs h with ⟨hc77, h⟩ | ⟨hc77, h⟩
 ·refine a0u (pc' := 89) K.1 a4M.1.2.2 (by decide) ((if0 _ _).trans (tlt hc77).1) ?_
  refine a0c (v := -1) K.1 a4u.2.1.1 (by decide) ?_
  cases h; exact a0e K.1 a4u.2.1.2 (a0w K)
 refine a0t K.1 a4M.1.2.2 ((if0 _ _).trans (flt hc77).1) (a0a K.1 a4M.2.1.1 rfl (a0f K.1 a4M.2.1.2 rfl ?_))
 obtain ⟨q83, hq83, h⟩ := bsq h
 refine a0g (vs := [.int q70.1]) K a4M.2.2.1 (b8i hw) (b8n hw) (b8z hw) (b8E hw) hyC a1D rfl rfl (a2u l Z a0 hw n1 a (a0i K) hq83) rfl (nbq rfl) (nbq rfl) rfl rfl ?_
 rcases ifs h with ⟨hc86, h⟩ | ⟨hc86, h⟩
 ·refine a0t K.1 a4M.2.2.2 ((if0 _ _).trans (teq hc86).2) ?_
  refine a0c (v := -1) K.1 a4u.2.1.1 (by decide) ?_
  cases h; exact a0e K.1 a4u.2.1.2 (a0w K)
 refine a0u (pc' := 91) K.1 a4M.2.2.2 (by decide) ((if0 _ _).trans (feq hc86).2) ?_
 refine a0b K.1 a4u.1.1.1 rfl (a0f K.1 a4u.1.1.2 rfl (a0z K.1 a4u.1.2.1 ?_))
 cases h; exact a0e K.1 a4u.1.2.2 (a0w K)
def a2d (σ : St) (v1 v2 : Int32) : Option (Int32 × St) :=
 ((a8s σ (v2 + 1)).bind fun q4 => (if q4.1 = 47 then ((a08 q4.2 v1).bind fun q23 => (if q23.1 = 0 then (some ((-1 : Int32), q23.2)) else a0Z v1 v2 (47 : Int32) (2 : Int32) q23.2)) else ((a1h q4.2 v1).bind fun q43 => (if q43.1 = 0 then (some ((-1 : Int32), q43.2)) else (if q4.1 = 126 then a0Z v1 v2 (126 : Int32) (2 : Int32) q43.2 else a0Z v1 v2 (109 : Int32) (1 : Int32) q43.2)))))
theorem b0s (K : a34 X Z a0 l n1 a h0) (hw : HW a0 Z) {σ : St} {v1 v2 : Int32} {r : Int32 × St} (h : a2d σ v1 v2 = some r) : Go X (vvI r.1, (r.2, 24)) 0 [some (.ref 0), vvI v1, vvI v2, none, none, none, none] [] (σ, 24) := by
 unfold a2d at h
 refine a0a K.1 b1n.1.1.1 rfl (a0b K.1 b1n.1.1.2 rfl ?_)
 refine a0c (v := 1) K.1 b1n.1.2.1 (by decide) ?_
 refine a0z K.1 b1n.1.2.2 ?_
 obtain ⟨q4, hq4, h⟩ := bsq h
 refine a0g (vs := [.int (v2 + 1)]) K b1n.2.1.1 (b8N hw) (b8o hw) (b8c hw) (b8s hw) hyC a3e rfl rfl (a7b l Z a0 hw n1 a (a0i K) hq4) rfl (nbq rfl) (nbq rfl) rfl rfl (a0m (L' := [some (.ref 0), vvI v1, vvI v2, vvI q4.1, none, none, none]) K.1 b1n.2.1.2 (blt rfl) rfl ?_)
 refine a0d (v := 109) K.1 b1n.2.2.1 (by decide) ?_
 refine a0q (L' := [some (.ref 0), vvI v1, vvI v2, vvI q4.1, some (.int (109 : Int32)), none, none]) K.1 b1n.2.2.2 (blt rfl) rfl ?_
 refine a0c (v := 1) K.1 b0C.1.1.1 (by decide) ?_
 refine a0q (L' := [some (.ref 0), vvI v1, vvI v2, vvI q4.1, some (.int (109 : Int32)), some (.int (1 : Int32)), none]) K.1 b0C.1.1.2 (blt rfl) rfl (a0b K.1 b0C.1.2.1 rfl ?_)
 refine a0d (v := 47) K.1 b0C.1.2.2 (by decide) ?_
 rcases ifs h with ⟨hc18, h⟩ | ⟨hc18, h⟩
 ·refine a0o K.1 b0C.2.1.1 ((teq hc18).2) (a0a K.1 a6d.1.2.1 rfl (a0b K.1 a6d.1.2.2 rfl ?_))
  obtain ⟨q23, hq23, h⟩ := bsq h
  refine a0g (vs := [.int v1]) K a6d.2.1.1 (b8B hw) (b8k hw) (b8F hw) (b8v hw) hyC a1D rfl rfl (a1O l Z a0 hw n1 a (a0i K) hq23) rfl (nbq rfl) (nbq rfl) rfl rfl ?_
  rcases ifs h with ⟨hc26, h⟩ | ⟨hc26, h⟩
  ·refine a0t K.1 a6d.2.1.2 ((if0 _ _).trans (teq hc26).2) ?_
   refine a0c (v := -1) K.1 a4u.2.2.1 (by decide) ?_
   cases h; exact a0e K.1 a4u.2.2.2 (a0w K)
  refine a0u (pc' := 31) K.1 a6d.2.1.2 (by decide) ((if0 _ _).trans (feq hc26).2) ?_
  refine a0d (v := 47) K.1 a6d.2.2.1 (by decide) ?_
  refine a0q (L' := [some (.ref 0), vvI v1, vvI v2, vvI q4.1, some (.int (47 : Int32)), some (.int (1 : Int32)), none]) K.1 a6d.2.2.2 (blt rfl) rfl ?_
  refine a0c (v := 2) K.1 a6Q.1.1.1 (by decide) ?_
  refine a0q (L' := [some (.ref 0), vvI v1, vvI v2, vvI q4.1, some (.int (47 : Int32)), some (.int (2 : Int32)), none]) K.1 a6Q.1.1.2 (blt rfl) rfl ?_
  refine a0y (pc' := 64) K.1 a6Q.1.2.1 (by decide) ?_
  exact a0n (a1k K hw  h) (ls (ls (ls (ln (ls (ls (ls l0)))))))
 refine a0p (pc' := 41) K.1 b0C.2.1.1 (by decide) ((feq hc18).2) ?_
 refine a0a K.1 b0C.2.1.2 rfl (a0b K.1 b0C.2.2.1 rfl ?_)
 obtain ⟨q43, hq43, h⟩ := bsq h
 refine a0g (vs := [.int v1]) K b0C.2.2.2 (b85 hw) (b9r hw) (b9E hw) (b88 hw) hyC a1D rfl rfl (a2S l Z a0 hw n1 a (a0i K) hq43) rfl (nbq rfl) (nbq rfl) rfl rfl ?_
 rcases ifs h with ⟨hc46, h⟩ | ⟨hc46, h⟩
 ·refine a0t K.1 a4i.1.1.1 ((if0 _ _).trans (teq hc46).2) ?_
  refine a0c (v := -1) K.1 a6d.1.1.1 (by decide) ?_
  cases h; exact a0e K.1 a6d.1.1.2 (a0w K)
 refine a0u (pc' := 51) K.1 a4i.1.1.1 (by decide) ((if0 _ _).trans (feq hc46).2) ?_
 refine a0b K.1 a4i.1.1.2 rfl ?_
 refine a0d (v := 126) K.1 a4i.1.2.1 (by decide) ?_
 rcases ifs h with ⟨hc54, h⟩ | ⟨hc54, h⟩
 ·refine a0o K.1 a4i.1.2.2 ((teq hc54).2) ?_
  refine a0d (v := 126) K.1 a4i.2.1.1 (by decide) ?_
  refine a0q (L' := [some (.ref 0), vvI v1, vvI v2, vvI q4.1, some (.int (126 : Int32)), some (.int (1 : Int32)), none]) K.1 a4i.2.1.2 (blt rfl) rfl ?_
  refine a0c (v := 2) K.1 a4i.2.2.1 (by decide) ?_
  refine a0q (L' := [some (.ref 0), vvI v1, vvI v2, vvI q4.1, some (.int (126 : Int32)), some (.int (2 : Int32)), none]) K.1 a4i.2.2.2 (blt rfl) rfl ?_
  exact a0n (a1k K hw  h) (ls (ls (ls (ln (ls (ls (ls l0)))))))
 refine a0p (pc' := 64) K.1 a4i.1.2.2 (by decide) ((feq hc54).2) ?_
 exact a0n (a1k K hw  h) (ls (ls (ls (ln (ls (ls (ls l0)))))))
theorem a9n (l : Launch) (Z : State) (a0 : Array Value) (hw : HW a0 Z) (n1 : Nat) (a : Addr) (ha : n1 ≤ a) {σ : St} {v1 v2 : Int32} {r : Int32 × St} (h : a2d σ v1 v2 = some r) : Con l Z cC cFS cFA 24 n1 a ⟨cC, "parseFunction", "(II)I"⟩ c34 7 (some .int) ⟨1, 0, 0, 17⟩ [.ref 0, .int v1, .int v2] σ (some (.int r.1)) r.2 :=
 a0l pnC rfl (a1m hw) a0E ha (fun X h1 K => b0s K hw h)
abbrev b2g := KKQ ⟨2, 0, 0, 35⟩ "parseStart" c31 4 (some .int)
def a3M (NF : Nat) (σ : St) (v1 : Int32) : Option (Int32 × St) :=
 ((a8s σ v1).bind fun q2 => (if q2.1 = 40 then ((a1w q2.2 (-1 : Int32)).bind fun q14 => (if q14.1 = 0 then (some ((-1 : Int32), q14.2)) else (some ((v1 + 1), q14.2)))) else (if q2.1 = 78 then ((a2G NF q2.2 v1).bind fun q36 => (some (q36.1, q36.2))) else (if q2.1 = 86 then (if 0 ≤ (v1).toInt ∧ (v1).toInt < 33 then ((a3E q2.2 (118 : Int32) (0 : Int32) (gA q2.2 11 (v1).toInt) (0 : Int32)).bind fun q57 => ((a13 q57.2 q57.1 (v1 + 1)).bind fun q66 => (some (q66.1, q66.2)))) else none) else ((a7Z q2.2 q2.1).bind fun q72 => (if q72.1 = 0 then (some ((-1 : Int32), q72.2)) else ((a2d q72.2 q2.1 v1).bind fun q83 => (some (q83.1, q83.2)))))))))
theorem b2N {NF : Nat} (K : b2g X Z a0 l n1 a h0) (hw : HW a0 Z) {σ : St} {v1 : Int32} {r : Int32 × St} (h : a3M NF σ v1 = some r) : Go X (vvI r.1, (r.2, 24)) 0 [some (.ref 0), vvI v1, none, none] [] (σ, 24) := by
 unfold a3M at h
 refine a0a K.1 a9Y.1.1.1 rfl (a0b K.1 a9Y.1.1.2 rfl ?_)
 obtain ⟨q2, hq2, h⟩ := bsq h
 refine a0g (vs := [.int v1]) K a9Y.1.2.1 (b8N hw) (b8o hw) (b8c hw) (b8s hw) hyC a3e rfl rfl (a7b l Z a0 hw n1 a (a0i K) hq2) rfl (nbq rfl) (nbq rfl) rfl rfl (a0m (L' := [some (.ref 0), vvI v1, vvI q2.1, none]) K.1 a9Y.1.2.2 (blt rfl) rfl (a0b K.1 a9Y.2.1.1 rfl ?_))
 refine a0d (v := 40) K.1 a9Y.2.1.2 (by decide) ?_
 rcases ifs h with ⟨hc9, h⟩ | ⟨hc9, h⟩
 ·refine a0o K.1 a9Y.2.2.1 ((teq hc9).2) (a0a K.1 a6Y.2.1.2 rfl ?_)
  refine a0c (v := -1) K.1 a6Y.2.2.1 (by decide) ?_
  obtain ⟨q14, hq14, h⟩ := bsq h
  refine a0g (vs := [.int (-1 : Int32)]) K a6Y.2.2.2 (b8i hw) (b8n hw) (b8z hw) (b8E hw) hyC a1D rfl rfl (a2u l Z a0 hw n1 a (a0i K) hq14) rfl (nbq rfl) (nbq rfl) rfl rfl ?_
  rcases ifs h with ⟨hc17, h⟩ | ⟨hc17, h⟩
  ·refine a0u (pc' := 26) K.1 a5j.1.1.1 (by decide) ((if0 _ _).trans (teq hc17).1) ?_
   refine a0c (v := -1) K.1 a5j.1.1.2 (by decide) ?_
   cases h; exact a0e K.1 a5j.2.2 (a0w K)
  refine a0t K.1 a5j.1.1.1 ((if0 _ _).trans (feq hc17).1) (a0b K.1 a5j.1.2.1 rfl ?_)
  refine a0c (v := 1) K.1 a5j.1.2.2 (by decide) ?_
  refine a0z K.1 a5j.2.1.1 ?_
  refine a0y (pc' := 27) K.1 a5j.2.1.2 (by decide) ?_
  cases h; exact a0e K.1 a5j.2.2 (a0w K)
 refine a0p (pc' := 28) K.1 a9Y.2.2.1 (by decide) ((feq hc9).2) ?_
 refine a0b K.1 a9Y.2.2.2 rfl ?_
 refine a0d (v := 78) K.1 a86.1.1.1 (by decide) ?_
 rcases ifs h with ⟨hc31, h⟩ | ⟨hc31, h⟩
 ·refine a0o K.1 a86.1.1.2 ((teq hc31).2) (a0a K.1 a6Y.1.1.2 rfl (a0b K.1 a6Y.1.2.1 rfl ?_))
  obtain ⟨q36, hq36, h⟩ := bsq h
  refine a0g (vs := [.int v1]) K a6Y.1.2.2 (c0g hw) (c1z hw) (c1i hw) (c1D hw) hyC a3e rfl rfl (b0o l Z a0 hw n1 a (a0i K) hq36) rfl (nbq rfl) (nbq rfl) rfl rfl ?_
  cases h; exact a0e K.1 a6Y.2.1.1 (a0w K)
 refine a0p (pc' := 40) K.1 a86.1.1.2 (by decide) ((feq hc31).2) ?_
 refine a0b K.1 a86.1.2.1 rfl ?_
 refine a0d (v := 86) K.1 a86.1.2.2 (by decide) ?_
 rcases ifs h with ⟨hc43, h⟩ | ⟨hc43, h⟩
 ·refine a0o K.1 a86.2.1.1 ((teq hc43).2) (a0a K.1 a7R.1.1.1 rfl ?_)
  refine a0d (v := 118) K.1 a7R.1.1.2 (by decide) ?_
  refine a0c (v := 0) K.1 a7R.1.2.1 (by decide) ?_
  refine a0a K.1 a7R.1.2.2 rfl (a0k K a7R.2.1.1 (w34 hw) a3B rfl (a0b K.1 a7R.2.1.2 rfl ?_))
  obtain ⟨hc55, h⟩ := ifn h
  refine a0j K a7R.2.2.1 a3c rfl hc55 ?_
  refine a0c (v := 0) K.1 a7R.2.2.2 (by decide) ?_
  obtain ⟨q57, hq57, h⟩ := bsq h
  refine a0g (vs := [.int (118 : Int32), .int (0 : Int32), .int (gA q2.2 11 (v1).toInt), .int (0 : Int32)]) K a6M.1.1.1 (b74 hw) (b78 hw) (b7Z hw) (b71 hw) hyC b70 rfl rfl (a21 l Z a0 hw n1 a (a0i K) hq57) rfl (nbq rfl) (nbq rfl) rfl rfl (a0m (L' := [some (.ref 0), vvI v1, vvI q2.1, vvI q57.1]) K.1 a6M.1.1.2 (blt rfl) rfl (a0a K.1 a6M.1.2.1 rfl (a0b K.1 a6M.1.2.2 rfl (a0b K.1 a6M.2.1.1 rfl ?_))))
  refine a0c (v := 1) K.1 a6M.2.1.2 (by decide) ?_
  refine a0z K.1 a6M.2.2.1 ?_
  obtain ⟨q66, hq66, h⟩ := bsq h
  refine a0g (vs := [.int q57.1, .int (v1 + 1)]) K a6M.2.2.2 (b9o hw) (b9q hw) (b9i hw) (b8Z hw) hyC b4S rfl rfl (a4S l Z a0 hw n1 a (a0i K) hq66) rfl (nbq rfl) (nbq rfl) rfl rfl ?_
  cases h; exact a0e K.1 a6Y.1.1.1 (a0w K)
 refine a0p (pc' := 70) K.1 a86.2.1.1 (by decide) ((feq hc43).2) ?_
 refine a0a K.1 a86.2.1.2 rfl (a0b K.1 a86.2.2.1 rfl ?_)
 obtain ⟨q72, hq72, h⟩ := bsq h
 refine a0g (vs := [.int q2.1]) K a86.2.2.2 (w96 hw) (w97 hw) (w98 hw) (w99 hw) hyC a1D rfl rfl (b0z l Z a0 hw n1 a (a0i K) hq72) rfl (nbq rfl) (nbq rfl) rfl rfl ?_
 rcases ifs h with ⟨hc75, h⟩ | ⟨hc75, h⟩
 ·refine a0t K.1 a5x.1.1.1 ((if0 _ _).trans (teq hc75).2) ?_
  refine a0c (v := -1) K.1 a5x.2.2.1 (by decide) ?_
  cases h; exact a0e K.1 a5x.2.2.2 (a0w K)
 refine a0u (pc' := 80) K.1 a5x.1.1.1 (by decide) ((if0 _ _).trans (feq hc75).2) ?_
 refine a0a K.1 a5x.1.1.2 rfl (a0b K.1 a5x.1.2.1 rfl (a0b K.1 a5x.1.2.2 rfl ?_))
 obtain ⟨q83, hq83, h⟩ := bsq h
 refine a0g (vs := [.int q2.1, .int v1]) K a5x.2.1.1 (c1I hw) (c0R hw) (c1G hw) (c1j hw) hyC b4S rfl rfl (a9n l Z a0 hw n1 a (a0i K) hq83) rfl (nbq rfl) (nbq rfl) rfl rfl ?_
 cases h; exact a0e K.1 a5x.2.1.2 (a0w K)
theorem b1N (l : Launch) (Z : State) (a0 : Array Value) (hw : HW a0 Z) (n1 : Nat) (a : Addr) (ha : n1 ≤ a) {NF : Nat} {σ : St} {v1 : Int32} {r : Int32 × St} (h : a3M NF σ v1 = some r) : Con l Z cC cFS cFA 24 n1 a ⟨cC, "parseStart", "(I)I"⟩ c31 4 (some .int) ⟨2, 0, 0, 35⟩ [.ref 0, .int v1] σ (some (.int r.1)) r.2 :=
 a0l pnC rfl (a1m hw) a0E ha (fun X h1 K => b2N K hw h)
abbrev a4V := KKQ ⟨3, 0, 0, 50⟩ "parse" c25 4 (some .boolean)
def a3Y (NF : Nat) (k76 : b4v) (i2 t0 : Int32) (σ : St) : Option (Int32 × St) :=
 (if t0 = (-2 : Int32) then (if (gI σ 139) < 0 then (some ((0 : Int32), σ)) else (some ((1 : Int32), σ))) else (if t0 < 0 then (some ((0 : Int32), σ)) else k76 t0 (i2 + 1) σ))
theorem a8i {NF : Nat} (K : a4V X Z a0 l n1 a h0) (hw : HW a0 Z) {k76 : Int32 → Int32 → St → Option (Int32 × St)} {i2 t0 : Int32} {σ : St} {r : Int32 × St} (hk76 : ∀ (i1 i2 : Int32) (σ : St) (h : k76 i1 i2 σ = some r), Go X (vvI r.1, (r.2, 24)) 76 [some (.ref 0), vvI i1, vvI i2, none] [] (σ, 24)) (h : a3Y NF k76 i2 t0 σ = some r) : Go X (vvI r.1, (r.2, 24)) 102 [some (.ref 0), none, vvI i2, none] [.int t0] (σ, 24) := by
 unfold a3Y at h
 refine a0m (L' := [some (.ref 0), none, vvI i2, vvI t0]) K.1 a78.2.1.2 (blt rfl) rfl (a0b K.1 a78.2.2.1 rfl ?_)
 refine a0d (v := -2) K.1 a78.2.2.2 (by decide) ?_
 rcases ifs h with ⟨hc106, h⟩ | ⟨hc106, h⟩
 ·refine a0o K.1 a4x.1.1.1 ((teq hc106).2) (a0a K.1 a4w.1.1.2 rfl (a0s K a4w.1.2.1 (b76 hw) b3C ?_))
  rcases ifs h with ⟨hc113, h⟩ | ⟨hc113, h⟩
  ·refine a0u (pc' := 120) K.1 a4w.1.2.2 (by decide) ((if0 _ _).trans (tlt hc113).1) ?_
   refine a0c (v := 0) K.1 a4w.2.1.1 (by decide) ?_
   cases h; exact a0h (t := .boolean) K.1 rfl (Or.inl rfl) a4w.2.2.2 rfl (a0w K)
  refine a0t K.1 a4w.1.2.2 ((if0 _ _).trans (flt hc113).1) ?_
  refine a0c (v := 1) K.1 a4w.2.1.2 (by decide) ?_
  refine a0y (pc' := 121) K.1 a4w.2.2.1 (by decide) ?_
  cases h; exact a0h (t := .boolean) K.1 rfl (Or.inl rfl) a4w.2.2.2 rfl (a0w K)
 refine a0p (pc' := 122) K.1 a4x.1.1.1 (by decide) ((feq hc106).2) ?_
 refine a0b K.1 a4x.1.1.2 rfl ?_
 rcases ifs h with ⟨hc123, h⟩ | ⟨hc123, h⟩
 ·refine a0t K.1 a4x.1.2.1 ((if0 _ _).trans (tlt hc123).2.1) ?_
  refine a0c (v := 0) K.1 a4x.2.2.2 (by decide) ?_
  cases h; exact a0h (t := .boolean) K.1 rfl (Or.inl rfl) a4w.1.1.1 rfl (a0w K)
 refine a0u (pc' := 128) K.1 a4x.1.2.1 (by decide) ((if0 _ _).trans (flt hc123).2.1) ?_
 refine a0b K.1 a4x.1.2.2 rfl (a0m (L' := [some (.ref 0), vvI t0, vvI i2, vvI t0]) K.1 a4x.2.1.1 (blt rfl) rfl ?_)
 refine a09 (w := 1) (L' := [some (.ref 0), vvI t0, some (.int (i2 + 1)), vvI t0]) K.1 a4x.2.1.2 rfl (by decide) rfl ?_
 refine a0y (pc' := 76) K.1 a4x.2.2.1 (by decide) ?_
 exact a0n (hk76 _ _ _ h) (ls (ls (ls (ln l0))))
def a9A (NF : Nat) (k76 : b4v) (i1 i2 : Int32) (σ : St) : Option (Int32 × St) :=
 (if i2 < 80 then (if (gI σ 137) = 0 then ((a33 NF σ i1).bind fun q99 => a3Y NF k76 i2 q99.1 q99.2) else ((a3M NF σ i1).bind fun q91 => a3Y NF k76 i2 q91.1 q91.2)) else (some ((0 : Int32), σ)))
theorem b2T {NF : Nat} (K : a4V X Z a0 l n1 a h0) (hw : HW a0 Z) {k76 : Int32 → Int32 → St → Option (Int32 × St)} {i1 i2 : Int32} {σ : St} {r : Int32 × St} (hk76 : ∀ (i1 i2 : Int32) (σ : St) (h : k76 i1 i2 σ = some r), Go X (vvI r.1, (r.2, 24)) 76 [some (.ref 0), vvI i1, vvI i2, none] [] (σ, 24)) (h : a9A NF k76 i1 i2 σ = some r) : Go X (vvI r.1, (r.2, 24)) 76 [some (.ref 0), vvI i1, vvI i2, none] [] (σ, 24) := by
 unfold a9A at h
 refine a0b K.1 a7e.2.2.1 rfl ?_
 refine a0d (v := 80) K.1 a7e.2.2.2 (by decide) ?_
 rcases ifs h with ⟨hc79, h⟩ | ⟨hc79, h⟩
 ·refine a0o K.1 a4g.1.1.1 ((tlt hc79).2.1) (a0a K.1 a4g.1.2.2 rfl (a0s K a4g.2.1.1 (b79 hw) a30 ?_))
  rcases ifs h with ⟨hc86, h⟩ | ⟨hc86, h⟩
  ·refine a0u (pc' := 97) K.1 a4g.2.1.2 (by decide) ((if0 _ _).trans (teq hc86).1) ?_
   refine a0a K.1 a4g.2.2.1 rfl (a0b K.1 a4g.2.2.2 rfl ?_)
   obtain ⟨q99, hq99, h⟩ := bsq h
   refine a0g (vs := [.int i1]) K a78.1.1.1 (c0p hw) (c1b hw) (c0K hw) (c1E hw) hyC a3e rfl rfl (b1Y l Z a0 hw n1 a (a0i K) hq99) rfl (nbq rfl) (nbq rfl) rfl rfl ?_
   exact a0n (a8i K hw hk76 h) (ls (ln (ls (ls l0))))
  refine a0t K.1 a4g.2.1.2 ((if0 _ _).trans (feq hc86).1) (a0a K.1 a78.1.1.2 rfl (a0b K.1 a78.1.2.1 rfl ?_))
  obtain ⟨q91, hq91, h⟩ := bsq h
  refine a0g (vs := [.int i1]) K a78.1.2.2 (c06 hw) (c1f hw) (c0G hw) (b96 hw) hyC a3e rfl rfl (b1N l Z a0 hw n1 a (a0i K) hq91) rfl (nbq rfl) (nbq rfl) rfl rfl ?_
  refine a0y (pc' := 102) K.1 a78.2.1.1 (by decide) ?_
  exact a0n (a8i K hw hk76 h) (ls (ln (ls (ls l0))))
 refine a0p (pc' := 136) K.1 a4g.1.1.1 (by decide) ((flt hc79).2.1) ?_
 refine a0c (v := 0) K.1 a4g.1.1.2 (by decide) ?_
 cases h; exact a0h (t := .boolean) K.1 rfl (Or.inl rfl) a4g.1.2.1 rfl (a0w K)
def a9y (NF : Nat)  : Nat → b4v
 | 0 => fun _ _ _ => none
 | n + 1 => fun i1 i2 σ => a9A NF  (a9y NF  n) i1 i2 σ
theorem b2X {NF : Nat} (K : a4V X Z a0 l n1 a h0) (hw : HW a0 Z) (n : Nat)  {r : Int32 × St}  : ∀ (i1 i2 : Int32) (σ : St) (h : a9y NF  n i1 i2 σ = some r), Go X (vvI r.1, (r.2, 24)) 76 [some (.ref 0), vvI i1, vvI i2, none] [] (σ, 24) := by
 induction n with
 | zero => intro i1 i2 σ h; cases h
 | succ n ih => intro i1 i2 σ h; exact b2T (NF := NF) K hw  ih h
def a2v (NF : Nat)  (i1 : Int32) (σ : St) : Option (Int32 × St) :=
 a9y NF NF i1 (0 : Int32) σ
theorem a2F {NF : Nat} (K : a4V X Z a0 l n1 a h0) (hw : HW a0 Z)  {i1 : Int32} {σ : St} {r : Int32 × St}  (h : a2v NF  i1 σ = some r) : Go X (vvI r.1, (r.2, 24)) 74 [some (.ref 0), vvI i1, none, none] [] (σ, 24) := by
 unfold a2v at h
 refine a0c (v := 0) K.1 a7e.2.1.1 (by decide) ?_
 refine a0m (L' := [some (.ref 0), vvI i1, some (.int (0 : Int32)), none]) K.1 a7e.2.1.2 (blt rfl) rfl ?_
 exact b2X K hw NF  _ _ _ h
def b3r (NF : Nat) (σ : St) : Option (Int32 × St) :=
 (if (gI (sI (sI (sI (sI (sI (sI σ 134 (0 : Int32)) 136 (0 : Int32)) 140 (-1 : Int32)) 139 (-1 : Int32)) 138 (-1 : Int32)) 137 (1 : Int32)) 129) < 2 then a2v NF (0 : Int32) (sI (sI (sI (sI (sI (sI σ 134 (0 : Int32)) 136 (0 : Int32)) 140 (-1 : Int32)) 139 (-1 : Int32)) 138 (-1 : Int32)) 137 (1 : Int32)) else (if (gA (sI (sI (sI (sI (sI (sI σ 134 (0 : Int32)) 136 (0 : Int32)) 140 (-1 : Int32)) 139 (-1 : Int32)) 138 (-1 : Int32)) 137 (1 : Int32)) 10 ((0 : Int32)).toInt) = 86 then (if (gA (sI (sI (sI (sI (sI (sI σ 134 (0 : Int32)) 136 (0 : Int32)) 140 (-1 : Int32)) 139 (-1 : Int32)) 138 (-1 : Int32)) 137 (1 : Int32)) 10 ((1 : Int32)).toInt) = 58 then a2v NF (2 : Int32) (sI (sI (sI (sI (sI (sI (sI σ 134 (0 : Int32)) 136 (0 : Int32)) 140 (-1 : Int32)) 139 (-1 : Int32)) 138 (-1 : Int32)) 137 (1 : Int32)) 140 (gA (sI (sI (sI (sI (sI (sI σ 134 (0 : Int32)) 136 (0 : Int32)) 140 (-1 : Int32)) 139 (-1 : Int32)) 138 (-1 : Int32)) 137 (1 : Int32)) 11 ((0 : Int32)).toInt)) else a2v NF (0 : Int32) (sI (sI (sI (sI (sI (sI σ 134 (0 : Int32)) 136 (0 : Int32)) 140 (-1 : Int32)) 139 (-1 : Int32)) 138 (-1 : Int32)) 137 (1 : Int32))) else a2v NF (0 : Int32) (sI (sI (sI (sI (sI (sI σ 134 (0 : Int32)) 136 (0 : Int32)) 140 (-1 : Int32)) 139 (-1 : Int32)) 138 (-1 : Int32)) 137 (1 : Int32))))
theorem b5s {NF : Nat} (K : a4V X Z a0 l n1 a h0) (hw : HW a0 Z) {σ : St} {r : Int32 × St} (h : b3r NF σ = some r) : Go X (vvI r.1, (r.2, 24)) 0 [some (.ref 0), none, none, none] [] (σ, 24) := by
 unfold b3r at h
 refine a0a K.1 b1e.1.1.1 rfl ?_
 refine a0c (v := 0) K.1 b1e.1.1.2 (by decide) ?_
 refine a0R (t := .int) (v' := (0 : Int32)) K b1e.1.2.1 (b6y hw) a1b (Or.inl (b8S hw)) a1o rfl rfl (a0a K.1 b1e.1.2.2 rfl ?_)
 refine a0c (v := 0) K.1 b1e.2.1.1 (by decide) ?_
 refine a0R (t := .int) (v' := (0 : Int32)) K b1e.2.1.2 (b43 hw) a11 (Or.inl (b7A hw)) a1o rfl rfl (a0a K.1 b1e.2.2.1 rfl ?_)
 refine a0c (v := -1) K.1 b1e.2.2.2 (by decide) ?_
 refine a0R (t := .int) (v' := (-1 : Int32)) K b1q.1.1.1 (b67 hw) a4Y (Or.inl (b8H hw)) a1o rfl rfl (a0a K.1 b1q.1.1.2 rfl ?_)
 refine a0c (v := -1) K.1 b1q.1.2.1 (by decide) ?_
 refine a0R (t := .int) (v' := (-1 : Int32)) K b1q.1.2.2 (b76 hw) b3C (Or.inl (b8C hw)) a1o rfl rfl (a0a K.1 b1q.2.1.1 rfl ?_)
 refine a0c (v := -1) K.1 b1q.2.1.2 (by decide) ?_
 refine a0R (t := .int) (v' := (-1 : Int32)) K b1q.2.2.1 (b6U hw) b2x (Or.inl (b7Y hw)) a1o rfl rfl (a0a K.1 b1q.2.2.2 rfl ?_)
 refine a0c (v := 1) K.1 a5N.1.1.1 (by decide) ?_
 refine a0R (t := .boolean) (v' := (1 : Int32)) K a5N.1.1.2 (b79 hw) a30 (Or.inl (b72 hw)) b6F rfl rfl ?_
 refine a0c (v := 0) K.1 a5N.1.2.1 (by decide) ?_
 refine a0m (L' := [some (.ref 0), some (.int (0 : Int32)), none, none]) K.1 a5N.1.2.2 (blt rfl) rfl (a0a K.1 a5N.2.1.1 rfl (a0s K a5N.2.1.2 (b3w hw) a0B ?_))
 refine a0c (v := 2) K.1 a5N.2.2.1 (by decide) ?_
 rcases ifs h with ⟨hc37, h⟩ | ⟨hc37, h⟩
 ·refine a0p (pc' := 74) K.1 a5N.2.2.2 (by decide) ((tlt hc37).1) ?_
  exact a2F K hw  h
 refine a0o K.1 a5N.2.2.2 ((flt hc37).1) (a0a K.1 a5D.1.1.1 rfl (a0k K a5D.1.1.2 (w32 hw) a1V rfl ?_))
 refine a0c (v := 0) K.1 a5D.1.2.1 (by decide) ?_
 refine a0j K a5D.1.2.2 a1W rfl (by decide) ?_
 refine a0d (v := 86) K.1 a5D.2.1.1 (by decide) ?_
 rcases ifs h with ⟨hc48, h⟩ | ⟨hc48, h⟩
 ·refine a0o K.1 a5D.2.1.2 ((teq hc48).2) (a0a K.1 a5D.2.2.1 rfl (a0k K a5D.2.2.2 (w32 hw) a1V rfl ?_))
  refine a0c (v := 1) K.1 a5X.1.1.1 (by decide) ?_
  refine a0j K a5X.1.1.2 a1W rfl (by decide) ?_
  refine a0d (v := 58) K.1 a5X.1.2.1 (by decide) ?_
  rcases ifs h with ⟨hc59, h⟩ | ⟨hc59, h⟩
  ·refine a0o K.1 a5X.1.2.2 ((teq hc59).2) (a0a K.1 a5X.2.1.1 rfl (a0a K.1 a5X.2.1.2 rfl (a0k K a5X.2.2.1 (w34 hw) a3B rfl ?_)))
   refine a0c (v := 0) K.1 a5X.2.2.2 (by decide) ?_
   refine a0j K a7e.1.1.1 a3c rfl (by decide) ?_
   refine a0R (t := .int) (v' := (gA (sI (sI (sI (sI (sI (sI σ 134 (0 : Int32)) 136 (0 : Int32)) 140 (-1 : Int32)) 139 (-1 : Int32)) 138 (-1 : Int32)) 137 (1 : Int32)) 11 ((0 : Int32)).toInt)) K a7e.1.1.2 (b67 hw) a4Y (Or.inl (b8H hw)) a1o rfl rfl ?_
   refine a0c (v := 2) K.1 a7e.1.2.1 (by decide) ?_
   refine a0m (L' := [some (.ref 0), some (.int (2 : Int32)), none, none]) K.1 a7e.1.2.2 (blt rfl) rfl ?_
   exact a2F K hw  h
  refine a0p (pc' := 74) K.1 a5X.1.2.2 (by decide) ((feq hc59).2) ?_
  exact a2F K hw  h
 refine a0p (pc' := 74) K.1 a5D.2.1.2 (by decide) ((feq hc48).2) ?_
 exact a2F K hw  h
theorem b4W (l : Launch) (Z : State) (a0 : Array Value) (hw : HW a0 Z) (n1 : Nat) (a : Addr) (ha : n1 ≤ a) {NF : Nat} {σ : St} {r : Int32 × St} (h : b3r NF σ = some r) : Con l Z cC cFS cFA 24 n1 a ⟨cC, "parse", "()Z"⟩ c25 4 (some .boolean) ⟨3, 0, 0, 50⟩ [.ref 0] σ (some (.int r.1)) r.2 :=
 a0l pnC rfl (a1m hw) a0E ha (fun X h1 K => b5s K hw h)
abbrev a1I := KKQ ⟨1, 0, 0, 13⟩ "freeArray" c38 8 (some .int)
def a00 (NF : Nat) (k13 : b5A) (i1 i3 : Int32) (i4 i5 : Int32) (σ : St) : Option (Int32 × St) :=
 k13 i1 i3 i4 (i5 + 1) σ
theorem a05 {NF : Nat} (K : a1I X Z a0 l n1 a h0) (hw : HW a0 Z) {k13 : Int32 → Int32 → Int32 → Int32 → St → Option (Int32 × St)} {i1 i3 : Int32} {i4 i5 : Int32} {σ : St} {r : Int32 × St} (hk13 : ∀ (i1 i3 : Int32) (i4 i5 : Int32) (σ : St) (h : k13 i1 i3 i4 i5 σ = some r), Go X (vvI r.1, (r.2, 24)) 13 [some (.ref 0), vvI i1, none, vvI i3, vvI i4, vvI i5, none, none] [] (σ, 24)) (h : a00 NF k13 i1 i3 i4 i5 σ = some r) : Go X (vvI r.1, (r.2, 24)) 91 [some (.ref 0), vvI i1, none, vvI i3, vvI i4, vvI i5, none, none] [] (σ, 24) := by
 unfold a00 at h
 refine a09 (w := 1) (L' := [some (.ref 0), vvI i1, none, vvI i3, vvI i4, some (.int (i5 + 1)), none, none]) K.1 b2E.2.1 rfl (by decide) rfl ?_
 refine a0y (pc' := 13) K.1 b2E.2.2 (by decide) ?_
 exact hk13 _ _ _ _ _ h
def a19 (NF : Nat)  (i1 i4 : Int32) (σ : St) : Option (Int32 × St) :=
 (if 0 ≤ (i1).toInt ∧ (i1).toInt < 1024 then (if 0 ≤ (i1).toInt ∧ (i1).toInt < 1024 then (if 0 ≤ (i1).toInt ∧ (i1).toInt < 1024 then (if (gI (sA (sA (sA σ 2 (i1).toInt (0 : Int32)) 4 (i1).toInt (0 : Int32)) 5 (i1).toInt (1 : Int32)) 124) < 0 then (some (i4, (sA (sA (sA σ 2 (i1).toInt (0 : Int32)) 4 (i1).toInt (0 : Int32)) 5 (i1).toInt (1 : Int32)))) else (if (gI (sA (sA (sA σ 2 (i1).toInt (0 : Int32)) 4 (i1).toInt (0 : Int32)) 5 (i1).toInt (1 : Int32)) 124) < 1024 then (if 0 ≤ ((gI (sA (sA (sA σ 2 (i1).toInt (0 : Int32)) 4 (i1).toInt (0 : Int32)) 5 (i1).toInt (1 : Int32)) 124)).toInt ∧ ((gI (sA (sA (sA σ 2 (i1).toInt (0 : Int32)) 4 (i1).toInt (0 : Int32)) 5 (i1).toInt (1 : Int32)) 124)).toInt < 1024 then (some (i4, (sI (sA (sA (sA (sA σ 2 (i1).toInt (0 : Int32)) 4 (i1).toInt (0 : Int32)) 5 (i1).toInt (1 : Int32)) 7 ((gI (sA (sA (sA σ 2 (i1).toInt (0 : Int32)) 4 (i1).toInt (0 : Int32)) 5 (i1).toInt (1 : Int32)) 124)).toInt i1) 124 ((gI (sA (sA (sA (sA σ 2 (i1).toInt (0 : Int32)) 4 (i1).toInt (0 : Int32)) 5 (i1).toInt (1 : Int32)) 7 ((gI (sA (sA (sA σ 2 (i1).toInt (0 : Int32)) 4 (i1).toInt (0 : Int32)) 5 (i1).toInt (1 : Int32)) 124)).toInt i1) 124) + 1)))) else none) else (some (i4, (sA (sA (sA σ 2 (i1).toInt (0 : Int32)) 4 (i1).toInt (0 : Int32)) 5 (i1).toInt (1 : Int32)))))) else none) else none) else none)
theorem a35 {NF : Nat} (K : a1I X Z a0 l n1 a h0) (hw : HW a0 Z)  {i1 i4 : Int32} {σ : St} {r : Int32 × St}  (h : a19 NF  i1 i4 σ = some r) : Go X (vvI r.1, (r.2, 24)) 97 [some (.ref 0), vvI i1, none, none, vvI i4, none, none, none] [] (σ, 24) := by
 unfold a19 at h
 refine a0a K.1 a8R.2.2.2 rfl (a0k K a8n.1.1.1 (w16 hw) a0L rfl (a0b K.1 a8n.1.1.2 rfl ?_))
 refine a0c (v := 0) K.1 a8n.1.2.1 (by decide) ?_
 obtain ⟨hc103, h⟩ := ifn h
 refine a0r K a8n.1.2.2 a0K rfl hc103 (a0a K.1 a8n.2.1.1 rfl (a0k K a8n.2.1.2 (w20 hw) a1N rfl (a0b K.1 a8n.2.2.1 rfl ?_)))
 refine a0c (v := 0) K.1 a8n.2.2.2 (by decide) ?_
 obtain ⟨hc110, h⟩ := ifn h
 refine a0r K a7D.1.1.1 a1B rfl hc110 (a0a K.1 a7D.1.1.2 rfl (a0k K a7D.1.2.1 (w22 hw) a1r rfl (a0b K.1 a7D.1.2.2 rfl ?_)))
 refine a0c (v := 1) K.1 a7D.2.1.1 (by decide) ?_
 obtain ⟨hc117, h⟩ := ifn h
 refine a0r K a7D.2.1.2 a1n rfl hc117 (a0a K.1 a7D.2.2.1 rfl (a0s K a7D.2.2.2 (w71 hw) a1a ?_))
 rcases ifs h with ⟨hc122, h⟩ | ⟨hc122, h⟩
 ·refine a0u (pc' := 155) K.1 a4D.1.1.1 (by decide) ((if0 _ _).trans (tlt hc122).1) ?_
  refine a0f K.1 a2M.1.1.2 rfl ?_
  cases h; exact a0e K.1 a2M.1.2.1 (a0w K)
 refine a0t K.1 a4D.1.1.1 ((if0 _ _).trans (flt hc122).1) (a0a K.1 a4D.1.1.2 rfl (a0s K a4D.1.2.1 (w71 hw) a1a ?_))
 refine a0I (v := 1024) K.1 a4D.1.2.2 (by decide) ?_
 rcases ifs h with ⟨hc132, h⟩ | ⟨hc132, h⟩
 ·refine a0o K.1 a4D.2.1.1 ((tlt hc132).2.1) (a0a K.1 a4D.2.1.2 rfl (a0k K a4D.2.2.1 (w26 hw) a5K rfl (a0a K.1 a4D.2.2.2 rfl (a0s K a79.1.1.1 (w71 hw) a1a (a0b K.1 a79.1.1.2 rfl ?_)))))
  obtain ⟨hc144, h⟩ := ifn h
  refine a0r K a79.1.2.1 a46 rfl hc144 (a0a K.1 a79.1.2.2 rfl (b0u K.1 a79.2.1.1 rfl (a0s K a79.2.1.2 (w71 hw) a1a ?_)))
  refine a0c (v := 1) K.1 a79.2.2.1 (by decide) ?_
  refine a0z K.1 a79.2.2.2 (a0R (t := .int) (v' := ((gI (sA (sA (sA (sA σ 2 (i1).toInt (0 : Int32)) 4 (i1).toInt (0 : Int32)) 5 (i1).toInt (1 : Int32)) 7 ((gI (sA (sA (sA σ 2 (i1).toInt (0 : Int32)) 4 (i1).toInt (0 : Int32)) 5 (i1).toInt (1 : Int32)) 124)).toInt i1) 124) + 1)) K a2M.1.1.1 (w71 hw) a1a (Or.inl (w72 hw)) a1o rfl rfl (a0f K.1 a2M.1.1.2 rfl ?_))
  cases h; exact a0e K.1 a2M.1.2.1 (a0w K)
 refine a0p (pc' := 155) K.1 a4D.2.1.1 (by decide) ((flt hc132).2.1) ?_
 refine a0f K.1 a2M.1.1.2 rfl ?_
 cases h; exact a0e K.1 a2M.1.2.1 (a0w K)
def a3z (NF : Nat) (k13 : b5A) (i1 i3 : Int32) (i4 i5 : Int32) (σ : St) : Option (Int32 × St) :=
 (if i5 < i3 then (if i5 < 8 then (if 0 ≤ (((i1 * 8) + i5)).toInt ∧ (((i1 * 8) + i5)).toInt < 8192 then ((a3a σ (gA σ 6 (((i1 * 8) + i5)).toInt)).bind fun q43 => ((a4B q43.2 (gA σ 6 (((i1 * 8) + i5)).toInt)).bind fun q51 => (if q51.1 = 0 then a00 NF k13 i1 i3 i4 i5 q51.2 else ((a0Y q51.2 q43.1).bind fun q60 => (if q60.1 = 0 then a00 NF k13 i1 i3 i4 i5 q60.2 else (if i4 < 0 then a00 NF k13 i1 i3 i4 i5 q60.2 else (if i4 < 256 then (if 0 ≤ (i4).toInt ∧ (i4).toInt < 256 then a00 NF k13 i1 i3 (i4 + 1) i5 (sA q60.2 8 (i4).toInt q43.1) else none) else a00 NF k13 i1 i3 i4 i5 q60.2))))))) else none) else a19 NF i1 i4 σ) else a19 NF i1 i4 σ)
theorem a9Z {NF : Nat} (K : a1I X Z a0 l n1 a h0) (hw : HW a0 Z) {k13 : Int32 → Int32 → Int32 → Int32 → St → Option (Int32 × St)} {i1 i3 : Int32} {i4 i5 : Int32} {σ : St} {r : Int32 × St} (hk13 : ∀ (i1 i3 : Int32) (i4 i5 : Int32) (σ : St) (h : k13 i1 i3 i4 i5 σ = some r), Go X (vvI r.1, (r.2, 24)) 13 [some (.ref 0), vvI i1, none, vvI i3, vvI i4, vvI i5, none, none] [] (σ, 24)) (h : a3z NF k13 i1 i3 i4 i5 σ = some r) : Go X (vvI r.1, (r.2, 24)) 13 [some (.ref 0), vvI i1, none, vvI i3, vvI i4, vvI i5, none, none] [] (σ, 24) := by
 unfold a3z at h
 refine a0f K.1 a8R.1.1.2 rfl (a0b K.1 a8R.1.2.1 rfl ?_)
 rcases ifs h with ⟨hc16, h⟩ | ⟨hc16, h⟩
 ·refine a0o K.1 a8R.1.2.2 ((tlt hc16).2.1) (a0f K.1 a8R.2.1.1 rfl ?_)
  refine a0d (v := 8) K.1 a8R.2.1.2 (by decide) ?_
  rcases ifs h with ⟨hc23, h⟩ | ⟨hc23, h⟩
  ·refine a0o K.1 a8R.2.2.1 ((tlt hc23).2.1) (a0a K.1 a2M.1.2.2 rfl (a0k K a2M.2.1.1 (w24 hw) a4a rfl (a0b K.1 a2M.2.1.2 rfl ?_)))
   refine a0d (v := 8) K.1 a2M.2.2.1 (by decide) ?_
   refine b0a K.1 a2M.2.2.2 (a0f K.1 a7Y.1.1.1 rfl (a0z K.1 a7Y.1.1.2 ?_))
   obtain ⟨hc37, h⟩ := ifn h
   refine a0j K a7Y.1.2.1 a3N rfl hc37 (a0q (L' := [some (.ref 0), vvI i1, none, vvI i3, vvI i4, vvI i5, some (.int (gA σ 6 (((i1 * 8) + i5)).toInt)), none]) K.1 a7Y.1.2.2 (blt rfl) rfl (a0a K.1 a7Y.2.1.1 rfl (a0f K.1 a7Y.2.1.2 rfl ?_)))
   obtain ⟨q43, hq43, h⟩ := bsq h
   refine a0g (vs := [.int (gA σ 6 (((i1 * 8) + i5)).toInt)]) K a7Y.2.2.1 (b7l hw) (b7h hw) (b7k hw) (b64 hw) hyC a3e rfl rfl (a1Y l Z a0 hw n1 a (a0i K) hq43) rfl (nbq rfl) (nbq rfl) rfl rfl (a0q (L' := [some (.ref 0), vvI i1, none, vvI i3, vvI i4, vvI i5, some (.int (gA σ 6 (((i1 * 8) + i5)).toInt)), vvI q43.1]) K.1 a7Y.2.2.2 (blt rfl) rfl (a0a K.1 a4C.1.1.1 rfl (a0f K.1 a4C.1.1.2 rfl ?_)))
   obtain ⟨q51, hq51, h⟩ := bsq h
   refine a0g (vs := [.int (gA σ 6 (((i1 * 8) + i5)).toInt)]) K a4C.1.2.1 (b6P hw) (b6L hw) (b6O hw) (b6J hw) hyC a1D rfl rfl (a1R l Z a0 hw n1 a (a0i K) hq51) rfl (nbq rfl) (nbq rfl) rfl rfl ?_
   rcases ifs h with ⟨hc54, h⟩ | ⟨hc54, h⟩
   ·refine a0u (pc' := 91) K.1 a4C.1.2.2 (by decide) ((if0 _ _).trans (teq hc54).1) ?_
    exact a0n (a05 K hw hk13 h) (ls (ls (ls (ls (ls (ls (ln (ln l0))))))))
   refine a0t K.1 a4C.1.2.2 ((if0 _ _).trans (feq hc54).1) (a0a K.1 a4C.2.1.1 rfl (a0f K.1 a4C.2.1.2 rfl ?_))
   obtain ⟨q60, hq60, h⟩ := bsq h
   refine a0g (vs := [.int q43.1]) K a4C.2.2.1 (b29 hw) (b27 hw) (b2O hw) (b2Q hw) hyC a1D rfl rfl (a0x l Z a0 hw n1 a (a0i K) hq60) rfl (nbq rfl) (nbq rfl) rfl rfl ?_
   rcases ifs h with ⟨hc63, h⟩ | ⟨hc63, h⟩
   ·refine a0u (pc' := 91) K.1 a4C.2.2.2 (by decide) ((if0 _ _).trans (teq hc63).1) ?_
    exact a0n (a05 K hw hk13 h) (ls (ls (ls (ls (ls (ls (ln (ln l0))))))))
   refine a0t K.1 a4C.2.2.2 ((if0 _ _).trans (feq hc63).1) (a0f K.1 a4z.1.1.1 rfl ?_)
   rcases ifs h with ⟨hc68, h⟩ | ⟨hc68, h⟩
   ·refine a0u (pc' := 91) K.1 a4z.1.1.2 (by decide) ((if0 _ _).trans (tlt hc68).1) ?_
    exact a0n (a05 K hw hk13 h) (ls (ls (ls (ls (ls (ls (ln (ln l0))))))))
   refine a0t K.1 a4z.1.1.2 ((if0 _ _).trans (flt hc68).1) (a0f K.1 a4z.1.2.1 rfl ?_)
   refine a0I (v := 256) K.1 a4z.1.2.2 (by decide) ?_
   rcases ifs h with ⟨hc76, h⟩ | ⟨hc76, h⟩
   ·refine a0o K.1 a4z.2.1.1 ((tlt hc76).2.1) (a0a K.1 a4z.2.1.2 rfl (a0k K a4z.2.2.1 (w28 hw) a5Y rfl (a0f K.1 a4z.2.2.2 rfl (a0f K.1 b2E.1.1.1 rfl ?_))))
    obtain ⟨hc87, h⟩ := ifn h
    refine a0r K b2E.1.1.2 a5a rfl hc87 ?_
    refine a09 (w := 1) (L' := [some (.ref 0), vvI i1, none, vvI i3, some (.int (i4 + 1)), vvI i5, some (.int (gA σ 6 (((i1 * 8) + i5)).toInt)), vvI q43.1]) K.1 b2E.1.2 rfl (by decide) rfl ?_
    exact a0n (a05 K hw hk13 h) (ls (ls (ls (ls (ls (ls (ln (ln l0))))))))
   refine a0p (pc' := 91) K.1 a4z.2.1.1 (by decide) ((flt hc76).2.1) ?_
   exact a0n (a05 K hw hk13 h) (ls (ls (ls (ls (ls (ls (ln (ln l0))))))))
  refine a0p (pc' := 97) K.1 a8R.2.2.1 (by decide) ((flt hc23).2.1) ?_
  exact a0n (a35 K hw  h) (ls (ls (ls (ln (ls (ln (ls (ls l0))))))))
 refine a0p (pc' := 97) K.1 a8R.1.2.2 (by decide) ((flt hc16).2.1) ?_
 exact a0n (a35 K hw  h) (ls (ls (ls (ln (ls (ln (ls (ls l0))))))))
def a3x (NF : Nat)  : Nat → b5A
 | 0 => fun _ _ _ _ _ => none
 | n + 1 => fun i1 i3 i4 i5 σ => a3z NF  (a3x NF  n) i1 i3 i4 i5 σ
theorem b0i {NF : Nat} (K : a1I X Z a0 l n1 a h0) (hw : HW a0 Z) (n : Nat)  {r : Int32 × St}  : ∀ (i1 i3 : Int32) (i4 i5 : Int32) (σ : St) (h : a3x NF  n i1 i3 i4 i5 σ = some r), Go X (vvI r.1, (r.2, 24)) 13 [some (.ref 0), vvI i1, none, vvI i3, vvI i4, vvI i5, none, none] [] (σ, 24) := by
 induction n with
 | zero => intro i1 i3 i4 i5 σ h; cases h
 | succ n ih => intro i1 i3 i4 i5 σ h; exact a9Z (NF := NF) K hw  ih h
def a5u (NF : Nat) (σ : St) (v1 v2 : Int32) : Option (Int32 × St) :=
 (if 0 ≤ (v1).toInt ∧ (v1).toInt < 1024 then a3x NF NF v1 (gA σ 2 (v1).toInt) v2 (0 : Int32) σ else none)
theorem b24 {NF : Nat} (K : a1I X Z a0 l n1 a h0) (hw : HW a0 Z) {σ : St} {v1 v2 : Int32} {r : Int32 × St} (h : a5u NF σ v1 v2 = some r) : Go X (vvI r.1, (r.2, 24)) 0 [some (.ref 0), vvI v1, vvI v2, none, none, none, none, none] [] (σ, 24) := by
 unfold a5u at h
 refine a0a K.1 b1j.1.1.1 rfl (a0k K b1j.1.1.2 (w16 hw) a0L rfl (a0b K.1 b1j.1.2.1 rfl ?_))
 obtain ⟨hc5, h⟩ := ifn h
 refine a0j K b1j.1.2.2 a0K rfl hc5 (a0m (L' := [some (.ref 0), vvI v1, vvI v2, some (.int (gA σ 2 (v1).toInt)), none, none, none, none]) K.1 b1j.2.1.1 (blt rfl) rfl (a0b K.1 b1j.2.1.2 rfl (a0q (L' := [some (.ref 0), vvI v1, vvI v2, some (.int (gA σ 2 (v1).toInt)), vvI v2, none, none, none]) K.1 b1j.2.2.1 (blt rfl) rfl ?_)))
 refine a0c (v := 0) K.1 b1j.2.2.2 (by decide) ?_
 refine a0q (L' := [some (.ref 0), vvI v1, vvI v2, some (.int (gA σ 2 (v1).toInt)), vvI v2, some (.int (0 : Int32)), none, none]) K.1 a8R.1.1.1 (blt rfl) rfl ?_
 exact a0n (b0i K hw NF  _ _ _ _ _ h) (ls (ls (ln (ls (ls (ls (ls (ls l0))))))))
theorem b2H (l : Launch) (Z : State) (a0 : Array Value) (hw : HW a0 Z) (n1 : Nat) (a : Addr) (ha : n1 ≤ a) {NF : Nat} {σ : St} {v1 v2 : Int32} {r : Int32 × St} (h : a5u NF σ v1 v2 = some r) : Con l Z cC cFS cFA 24 n1 a ⟨cC, "freeArray", "(II)I"⟩ c38 8 (some .int) ⟨1, 0, 0, 13⟩ [.ref 0, .int v1, .int v2] σ (some (.int r.1)) r.2 :=
 a0l pnC rfl (a1m hw) a0E ha (fun X h1 K => b24 K hw h)
abbrev a3R := KKQ ⟨2, 0, 0, 32⟩ "release" c37 5 none
def a1x (NF : Nat) (k20 : b6D) (i2 i3 : Int32) (σ : St) : Option (St) :=
 k20 i2 (i3 + 1) σ
theorem a1L {NF : Nat} (K : a3R X Z a0 l n1 a h0) (hw : HW a0 Z) {k20 : Int32 → Int32 → St → Option (St)} {i2 i3 : Int32} {σ : St} {r : St} (hk20 : ∀ (i2 i3 : Int32) (σ : St) (h : k20 i2 i3 σ = some r), Go X (none, (r, 24)) 20 [some (.ref 0), none, vvI i2, vvI i3, none] [] (σ, 24)) (h : a1x NF k20 i2 i3 σ = some r) : Go X (none, (r, 24)) 90 [some (.ref 0), none, vvI i2, vvI i3, none] [] (σ, 24) := by
 unfold a1x at h
 refine a09 (w := 1) (L' := [some (.ref 0), none, vvI i2, some (.int (i3 + 1)), none]) K.1 a9q.2.1.1 rfl (by decide) rfl ?_
 refine a0y (pc' := 20) K.1 a9q.2.1.2 (by decide) ?_
 exact hk20 _ _ _ h
def a5G (NF : Nat) (k20 : b6D) (i2 i3 : Int32) (σ : St) : Option (St) :=
 (if i3 < 4096 then (if 0 < i2 then (if 0 ≤ ((i2 + (-1 : Int32))).toInt ∧ ((i2 + (-1 : Int32))).toInt < 256 then ((a0Y σ (gA σ 8 ((i2 + (-1 : Int32))).toInt)).bind fun q45 => (if q45.1 = 0 then a1x NF k20 (i2 + (-1 : Int32)) i3 q45.2 else (if 0 ≤ ((gA σ 8 ((i2 + (-1 : Int32))).toInt)).toInt ∧ ((gA σ 8 ((i2 + (-1 : Int32))).toInt)).toInt < 1024 then (if 0 < (gA q45.2 3 ((gA σ 8 ((i2 + (-1 : Int32))).toInt)).toInt) then (if 0 ≤ ((gA σ 8 ((i2 + (-1 : Int32))).toInt)).toInt ∧ ((gA σ 8 ((i2 + (-1 : Int32))).toInt)).toInt < 1024 then (if 0 ≤ ((gA σ 8 ((i2 + (-1 : Int32))).toInt)).toInt ∧ ((gA σ 8 ((i2 + (-1 : Int32))).toInt)).toInt < 1024 then (if 0 ≤ ((gA σ 8 ((i2 + (-1 : Int32))).toInt)).toInt ∧ ((gA σ 8 ((i2 + (-1 : Int32))).toInt)).toInt < 1024 then (if (gA (sA q45.2 3 ((gA σ 8 ((i2 + (-1 : Int32))).toInt)).toInt ((gA q45.2 3 ((gA σ 8 ((i2 + (-1 : Int32))).toInt)).toInt) - 1)) 3 ((gA σ 8 ((i2 + (-1 : Int32))).toInt)).toInt) = 0 then ((a5u NF (sA q45.2 3 ((gA σ 8 ((i2 + (-1 : Int32))).toInt)).toInt ((gA q45.2 3 ((gA σ 8 ((i2 + (-1 : Int32))).toInt)).toInt) - 1)) (gA σ 8 ((i2 + (-1 : Int32))).toInt) (i2 + (-1 : Int32))).bind fun q86 => a1x NF k20 q86.1 i3 q86.2) else a1x NF k20 (i2 + (-1 : Int32)) i3 (sA q45.2 3 ((gA σ 8 ((i2 + (-1 : Int32))).toInt)).toInt ((gA q45.2 3 ((gA σ 8 ((i2 + (-1 : Int32))).toInt)).toInt) - 1))) else none) else none) else none) else a1x NF k20 (i2 + (-1 : Int32)) i3 q45.2) else none))) else none) else (some σ)) else (some σ))
theorem b1S {NF : Nat} (K : a3R X Z a0 l n1 a h0) (hw : HW a0 Z) {k20 : Int32 → Int32 → St → Option (St)} {i2 i3 : Int32} {σ : St} {r : St} (hk20 : ∀ (i2 i3 : Int32) (σ : St) (h : k20 i2 i3 σ = some r), Go X (none, (r, 24)) 20 [some (.ref 0), none, vvI i2, vvI i3, none] [] (σ, 24)) (h : a5G NF k20 i2 i3 σ = some r) : Go X (none, (r, 24)) 20 [some (.ref 0), none, vvI i2, vvI i3, none] [] (σ, 24) := by
 unfold a5G at h
 refine a0b K.1 b0y.2.1.2 rfl ?_
 refine a0I (v := 4096) K.1 b0y.2.2.1 (by decide) ?_
 rcases ifs h with ⟨hc24, h⟩ | ⟨hc24, h⟩
 ·refine a0o K.1 b0y.2.2.2 ((tlt hc24).2.1) (a0b K.1 a4y.1.1.1 rfl ?_)
  rcases ifs h with ⟨hc28, h⟩ | ⟨hc28, h⟩
  ·refine a0t K.1 a4y.1.1.2 ((if0 _ _).trans (tlt hc28).2.2.2) ?_
   refine a09 (w := -1) (L' := [some (.ref 0), none, some (.int (i2 + (-1 : Int32))), vvI i3, none]) K.1 a4y.1.2.2 rfl (by decide) rfl ?_
   refine a0a K.1 a4y.2.1.1 rfl (a0k K a4y.2.1.2 (w28 hw) a5Y rfl (a0b K.1 a4y.2.2.1 rfl ?_))
   obtain ⟨hc39, h⟩ := ifn h
   refine a0j K a4y.2.2.2 a5a rfl hc39 (a0q (L' := [some (.ref 0), none, some (.int (i2 + (-1 : Int32))), vvI i3, some (.int (gA σ 8 ((i2 + (-1 : Int32))).toInt))]) K.1 a55.1.1.1 (blt rfl) rfl (a0a K.1 a55.1.1.2 rfl (a0f K.1 a55.1.2.1 rfl ?_)))
   obtain ⟨q45, hq45, h⟩ := bsq h
   refine a0g (vs := [.int (gA σ 8 ((i2 + (-1 : Int32))).toInt)]) K a55.1.2.2 (b29 hw) (b27 hw) (b2O hw) (b2Q hw) hyC a1D rfl rfl (a0x l Z a0 hw n1 a (a0i K) hq45) rfl (nbq rfl) (nbq rfl) rfl rfl ?_
   rcases ifs h with ⟨hc48, h⟩ | ⟨hc48, h⟩
   ·refine a0u (pc' := 90) K.1 a55.2.1.1 (by decide) ((if0 _ _).trans (teq hc48).1) ?_
    exact a0n (a1L K hw hk20 h) (ls (ls (ls (ls (ln l0)))))
   refine a0t K.1 a55.2.1.1 ((if0 _ _).trans (feq hc48).1) (a0a K.1 a55.2.1.2 rfl (a0k K a55.2.2.1 (w18 hw) b0Q rfl (a0f K.1 a55.2.2.2 rfl ?_)))
   obtain ⟨hc57, h⟩ := ifn h
   refine a0j K a5y.1.1.1 a7Q rfl hc57 ?_
   rcases ifs h with ⟨hc58, h⟩ | ⟨hc58, h⟩
   ·refine a0t K.1 a5y.1.1.2 ((if0 _ _).trans (tlt hc58).2.2.2) (a0a K.1 a5y.1.2.1 rfl (a0k K a5y.1.2.2 (w18 hw) b0Q rfl (a0f K.1 a5y.2.1.1 rfl (b52 K.1 a5y.2.1.2 rfl rfl ?_))))
    obtain ⟨hc68, h⟩ := ifn h
    refine a0j K a5y.2.2.1 a7Q rfl hc68 ?_
    refine a0c (v := 1) K.1 a5y.2.2.2 (by decide) ?_
    refine a1l K.1 a5I.1.1.1 ?_
    obtain ⟨hc71, h⟩ := ifn h
    refine a0r K a5I.1.1.2 a7Q rfl hc71 (a0a K.1 a5I.1.2.1 rfl (a0k K a5I.1.2.2 (w18 hw) b0Q rfl (a0f K.1 a5I.2.1.1 rfl ?_)))
    obtain ⟨hc78, h⟩ := ifn h
    refine a0j K a5I.2.1.2 a7Q rfl hc78 ?_
    rcases ifs h with ⟨hc79, h⟩ | ⟨hc79, h⟩
    ·refine a0t K.1 a5I.2.2.1 ((if0 _ _).trans (teq hc79).2) (a0a K.1 a5I.2.2.2 rfl (a0f K.1 a9q.1.1.1 rfl (a0b K.1 a9q.1.1.2 rfl ?_)))
     obtain ⟨q86, hq86, h⟩ := bsq h
     refine a0g (vs := [.int (gA σ 8 ((i2 + (-1 : Int32))).toInt), .int (i2 + (-1 : Int32))]) K a9q.1.2.1 (c0n hw) (c1K hw) (c01 hw) (c0T hw) hyC b4S rfl rfl (b2H l Z a0 hw n1 a (a0i K) hq86) rfl (nbq rfl) (nbq rfl) rfl rfl (a0m (L' := [some (.ref 0), none, vvI q86.1, vvI i3, some (.int (gA σ 8 ((i2 + (-1 : Int32))).toInt))]) K.1 a9q.1.2.2 (blt rfl) rfl ?_)
     exact a0n (a1L K hw hk20 h) (ls (ls (ls (ls (ln l0)))))
    refine a0u (pc' := 90) K.1 a5I.2.2.1 (by decide) ((if0 _ _).trans (feq hc79).2) ?_
    exact a0n (a1L K hw hk20 h) (ls (ls (ls (ls (ln l0)))))
   refine a0u (pc' := 90) K.1 a5y.1.1.2 (by decide) ((if0 _ _).trans (flt hc58).2.2.2) ?_
   exact a0n (a1L K hw hk20 h) (ls (ls (ls (ls (ln l0)))))
  refine a0u (pc' := 96) K.1 a4y.1.1.2 (by decide) ((if0 _ _).trans (flt hc28).2.2.2) ?_
  cases h; exact a0F K.1 a4y.1.2.1 (a0w K)
 refine a0p (pc' := 96) K.1 b0y.2.2.2 (by decide) ((flt hc24).2.1) ?_
 cases h; exact a0F K.1 a4y.1.2.1 (a0w K)
def a5J (NF : Nat)  : Nat → b6D
 | 0 => fun _ _ _ => none
 | n + 1 => fun i2 i3 σ => a5G NF  (a5J NF  n) i2 i3 σ
theorem b1E {NF : Nat} (K : a3R X Z a0 l n1 a h0) (hw : HW a0 Z) (n : Nat)  {r : St}  : ∀ (i2 i3 : Int32) (σ : St) (h : a5J NF  n i2 i3 σ = some r), Go X (none, (r, 24)) 20 [some (.ref 0), none, vvI i2, vvI i3, none] [] (σ, 24) := by
 induction n with
 | zero => intro i2 i3 σ h; cases h
 | succ n ih => intro i2 i3 σ h; exact b1S (NF := NF) K hw  ih h
def a03 (NF : Nat) (σ : St) (v1 : Int32) : Option (St) :=
 ((a0Y σ v1).bind fun q2 => (if q2.1 = 0 then (some q2.2) else a5J NF NF (1 : Int32) (0 : Int32) (sA q2.2 8 ((0 : Int32)).toInt v1)))
theorem b4n {NF : Nat} (K : a3R X Z a0 l n1 a h0) (hw : HW a0 Z) {σ : St} {v1 : Int32} {r : St} (h : a03 NF σ v1 = some r) : Go X (none, (r, 24)) 0 [some (.ref 0), vvI v1, none, none, none] [] (σ, 24) := by
 unfold a03 at h
 refine a0a K.1 b0B.1.1.1 rfl (a0b K.1 b0B.1.1.2 rfl ?_)
 obtain ⟨q2, hq2, h⟩ := bsq h
 refine a0g (vs := [.int v1]) K b0B.1.2.1 (b29 hw) (b27 hw) (b2O hw) (b2Q hw) hyC a1D rfl rfl (a0x l Z a0 hw n1 a (a0i K) hq2) rfl (nbq rfl) (nbq rfl) rfl rfl ?_
 rcases ifs h with ⟨hc5, h⟩ | ⟨hc5, h⟩
 ·refine a0t K.1 b0B.1.2.2 ((if0 _ _).trans (teq hc5).2) ?_
  cases h; exact a0F K.1 a9q.2.2 (a0w K)
 refine a0u (pc' := 9) K.1 b0B.1.2.2 (by decide) ((if0 _ _).trans (feq hc5).2) ?_
 refine a0a K.1 b0B.2.1.1 rfl (a0k K b0B.2.1.2 (w28 hw) a5Y rfl ?_)
 refine a0c (v := 0) K.1 b0B.2.2.1 (by decide) ?_
 refine a0b K.1 b0B.2.2.2 rfl ?_
 refine a0r K b0y.1.1.1 a5a rfl (by decide) ?_
 refine a0c (v := 1) K.1 b0y.1.1.2 (by decide) ?_
 refine a0m (L' := [some (.ref 0), vvI v1, some (.int (1 : Int32)), none, none]) K.1 b0y.1.2.1 (blt rfl) rfl ?_
 refine a0c (v := 0) K.1 b0y.1.2.2 (by decide) ?_
 refine a0m (L' := [some (.ref 0), vvI v1, some (.int (1 : Int32)), some (.int (0 : Int32)), none]) K.1 b0y.2.1.1 (blt rfl) rfl ?_
 exact a0n (b1E K hw NF  _ _ _ h) (ls (ln (ls (ls (ls l0)))))
theorem a0Q (l : Launch) (Z : State) (a0 : Array Value) (hw : HW a0 Z) (n1 : Nat) (a : Addr) (ha : n1 ≤ a) {NF : Nat} {σ : St} {v1 : Int32} {r : St} (h : a03 NF σ v1 = some r) : Con l Z cC cFS cFA 24 n1 a ⟨cC, "release", "(I)V"⟩ c37 5 none ⟨2, 0, 0, 32⟩ [.ref 0, .int v1] σ none r :=
 a0l pnC rfl (a1m hw) a0E ha (fun X h1 K => b4n K hw h)
abbrev b3k := KKQ ⟨3, 0, 0, 48⟩ "vPush" c36 2 (some .boolean)
def a6h (NF : Nat)  (i1 : Int32) (σ : St) : Option (Int32 × St) :=
 ((a03 NF σ i1).bind fun q18 => (some ((0 : Int32), q18)))
theorem a9f {NF : Nat} (K : b3k X Z a0 l n1 a h0) (hw : HW a0 Z)  {i1 : Int32} {σ : St} {r : Int32 × St}  (h : a6h NF  i1 σ = some r) : Go X (vvI r.1, (r.2, 24)) 16 [some (.ref 0), vvI i1] [] (σ, 24) := by
 unfold a6h at h
 refine a0a K.1 a6F.2.1.2 rfl (a0b K.1 a6F.2.2.1 rfl ?_)
 obtain ⟨q18, hq18, h⟩ := bsq h
 refine a0g (vs := [.int i1]) K a6F.2.2.2 (b59 hw) (b58 hw) (b5V hw) (b5Y hw) hyC a9E rfl rfl (a0Q l Z a0 hw n1 a (a0i K) hq18) rfl (nbq rfl) (nbq rfl) rfl rfl ?_
 refine a0c (v := 0) K.1 b5Q.1 (by decide) ?_
 cases h; exact a0h (t := .boolean) K.1 rfl (Or.inl rfl) b5Q.2 rfl (a0w K)
def b3s (NF : Nat) (σ : St) (v1 : Int32) : Option (Int32 × St) :=
 (if (gI σ 144) < 0 then a6h NF v1 σ else (if (gI σ 144) < 40 then (if 0 ≤ ((gI σ 144)).toInt ∧ ((gI σ 144)).toInt < 40 then (some ((1 : Int32), (sI (sA σ 19 ((gI σ 144)).toInt v1) 144 ((gI (sA σ 19 ((gI σ 144)).toInt v1) 144) + 1)))) else none) else a6h NF v1 σ))
theorem b5k {NF : Nat} (K : b3k X Z a0 l n1 a h0) (hw : HW a0 Z) {σ : St} {v1 : Int32} {r : Int32 × St} (h : b3s NF σ v1 = some r) : Go X (vvI r.1, (r.2, 24)) 0 [some (.ref 0), vvI v1] [] (σ, 24) := by
 unfold b3s at h
 refine a0a K.1 a8K.1.1.1 rfl (a0s K a8K.1.1.2 (b3G hw) a1e ?_)
 rcases ifs h with ⟨hc4, h⟩ | ⟨hc4, h⟩
 ·refine a0u (pc' := 16) K.1 a8K.1.2.1 (by decide) ((if0 _ _).trans (tlt hc4).1) ?_
  exact a9f K hw  h
 refine a0t K.1 a8K.1.2.1 ((if0 _ _).trans (flt hc4).1) (a0a K.1 a8K.1.2.2 rfl (a0s K a8K.2.1.1 (b3G hw) a1e ?_))
 refine a0d (v := 40) K.1 a8K.2.1.2 (by decide) ?_
 rcases ifs h with ⟨hc13, h⟩ | ⟨hc13, h⟩
 ·refine a0p (pc' := 23) K.1 a8K.2.2.1 (by decide) ((tlt hc13).1) ?_
  refine a0a K.1 a8K.2.2.2 rfl (a0k K b1t.1.1.1 (w50 hw) a4T rfl (a0a K.1 b1t.1.1.2 rfl (a0s K b1t.1.2.1 (b3G hw) a1e (a0b K.1 b1t.1.2.2 rfl ?_))))
  obtain ⟨hc32, h⟩ := ifn h
  refine a0r K b1t.2.1.1 a4X rfl hc32 (a0a K.1 b1t.2.1.2 rfl (b0u K.1 b1t.2.2.1 rfl (a0s K b1t.2.2.2 (b3G hw) a1e ?_)))
  refine a0c (v := 1) K.1 a6F.1.1.1 (by decide) ?_
  refine a0z K.1 a6F.1.1.2 (a0R (t := .int) (v' := ((gI (sA σ 19 ((gI σ 144)).toInt v1) 144) + 1)) K a6F.1.2.1 (b3G hw) a1e (Or.inl (b69 hw)) a1o rfl rfl ?_)
  refine a0c (v := 1) K.1 a6F.1.2.2 (by decide) ?_
  cases h; exact a0h (t := .boolean) K.1 rfl (Or.inl rfl) a6F.2.1.1 rfl (a0w K)
 refine a0o K.1 a8K.2.2.1 ((flt hc13).1) ?_
 exact a9f K hw  h
theorem b4L (l : Launch) (Z : State) (a0 : Array Value) (hw : HW a0 Z) (n1 : Nat) (a : Addr) (ha : n1 ≤ a) {NF : Nat} {σ : St} {v1 : Int32} {r : Int32 × St} (h : b3s NF σ v1 = some r) : Con l Z cC cFS cFA 24 n1 a ⟨cC, "vPush", "(I)Z"⟩ c36 2 (some .boolean) ⟨3, 0, 0, 48⟩ [.ref 0, .int v1] σ (some (.int r.1)) r.2 :=
 a0l pnC rfl (a1m hw) a0E ha (fun X h1 K => b5k K hw h)
abbrev a6p := KKQ ⟨3, 0, 0, 48⟩ "checkLimits" c41 2 (some .int)
def a1E (NF : Nat)  (i1 : Int32) (σ : St) : Option (Int32 × St) :=
 ((a03 NF σ i1).bind fun q38 => (some ((-5 : Int32), q38)))
theorem a2Q {NF : Nat} (K : a6p X Z a0 l n1 a h0) (hw : HW a0 Z)  {i1 : Int32} {σ : St} {r : Int32 × St}  (h : a1E NF  i1 σ = some r) : Go X (vvI r.1, (r.2, 24)) 36 [some (.ref 0), vvI i1] [] (σ, 24) := by
 unfold a1E at h
 refine a0a K.1 a54.2.1.1 rfl (a0b K.1 a54.2.1.2 rfl ?_)
 obtain ⟨q38, hq38, h⟩ := bsq h
 refine a0g (vs := [.int i1]) K a54.2.2.1 (b59 hw) (b58 hw) (b5V hw) (b5Y hw) hyC a9E rfl rfl (a0Q l Z a0 hw n1 a (a0i K) hq38) rfl (nbq rfl) (nbq rfl) rfl rfl ?_
 refine a0d (v := -5) K.1 a54.2.2.2 (by decide) ?_
 cases h; exact a0e K.1 b4C.1.1 (a0w K)
def a1C (NF : Nat) (σ : St) (v1 : Int32) : Option (Int32 × St) :=
 ((a0Y σ v1).bind fun q2 => (if q2.1 = 0 then (some (v1, q2.2)) else (if 0 ≤ (v1).toInt ∧ (v1).toInt < 1024 then (if (gI q2.2 114) < (gA q2.2 2 (v1).toInt) then a1E NF v1 q2.2 else (if 0 ≤ (v1).toInt ∧ (v1).toInt < 1024 then (if (gI q2.2 115) < (gA q2.2 4 (v1).toInt) then a1E NF v1 q2.2 else (some (v1, q2.2))) else none)) else none)))
theorem b10 {NF : Nat} (K : a6p X Z a0 l n1 a h0) (hw : HW a0 Z) {σ : St} {v1 : Int32} {r : Int32 × St} (h : a1C NF σ v1 = some r) : Go X (vvI r.1, (r.2, 24)) 0 [some (.ref 0), vvI v1] [] (σ, 24) := by
 unfold a1C at h
 refine a0a K.1 a9Q.1.1.1 rfl (a0b K.1 a9Q.1.1.2 rfl ?_)
 obtain ⟨q2, hq2, h⟩ := bsq h
 refine a0g (vs := [.int v1]) K a9Q.1.2.1 (b29 hw) (b27 hw) (b2O hw) (b2Q hw) hyC a1D rfl rfl (a0x l Z a0 hw n1 a (a0i K) hq2) rfl (nbq rfl) (nbq rfl) rfl rfl ?_
 rcases ifs h with ⟨hc5, h⟩ | ⟨hc5, h⟩
 ·refine a0t K.1 a9Q.1.2.2 ((if0 _ _).trans (teq hc5).2) (a0b K.1 b4C.1.2 rfl ?_)
  cases h; exact a0e K.1 b4C.2 (a0w K)
 refine a0u (pc' := 10) K.1 a9Q.1.2.2 (by decide) ((if0 _ _).trans (feq hc5).2) ?_
 refine a0a K.1 a9Q.2.1.1 rfl (a0k K a9Q.2.1.2 (w16 hw) a0L rfl (a0b K.1 a9Q.2.2.1 rfl ?_))
 obtain ⟨hc15, h⟩ := ifn h
 refine a0j K a9Q.2.2.2 a0K rfl hc15 (a0a K.1 b0x.1.1.1 rfl (a0s K b0x.1.1.2 (w67 hw) a8x ?_))
 rcases ifs h with ⟨hc20, h⟩ | ⟨hc20, h⟩
 ·refine a0p (pc' := 36) K.1 b0x.1.2.1 (by decide) ((tlt hc20).2.2.1) ?_
  exact a2Q K hw  h
 refine a0o K.1 b0x.1.2.1 ((flt hc20).2.2.1) (a0a K.1 b0x.1.2.2 rfl (a0k K b0x.2.1.1 (w20 hw) a1N rfl (a0b K.1 b0x.2.1.2 rfl ?_)))
 obtain ⟨hc28, h⟩ := ifn h
 refine a0j K b0x.2.2.1 a1B rfl hc28 (a0a K.1 b0x.2.2.2 rfl (a0s K a54.1.1.1 (w69 hw) a8D ?_))
 rcases ifs h with ⟨hc33, h⟩ | ⟨hc33, h⟩
 ·refine a0o K.1 a54.1.1.2 ((tlt hc33).2.2.2) ?_
  exact a2Q K hw  h
 refine a0p (pc' := 44) K.1 a54.1.1.2 (by decide) ((flt hc33).2.2.2) ?_
 refine a0b K.1 a54.1.2.1 rfl ?_
 cases h; exact a0e K.1 a54.1.2.2 (a0w K)
theorem a2w (l : Launch) (Z : State) (a0 : Array Value) (hw : HW a0 Z) (n1 : Nat) (a : Addr) (ha : n1 ≤ a) {NF : Nat} {σ : St} {v1 : Int32} {r : Int32 × St} (h : a1C NF σ v1 = some r) : Con l Z cC cFS cFA 24 n1 a ⟨cC, "checkLimits", "(I)I"⟩ c41 2 (some .int) ⟨3, 0, 0, 48⟩ [.ref 0, .int v1] σ (some (.int r.1)) r.2 :=
 a0l pnC rfl (a1m hw) a0E ha (fun X h1 K => b10 K hw h)
abbrev b4O := KKQ ⟨1, 0, 0, 13⟩ "cellAt" c43 3 (some .int)
def a8A (σ : St) (v1 v2 : Int32) : Option (Int32 × St) :=
 ((a0Y σ v1).bind fun q2 => (if q2.1 = 0 then (some ((0 : Int32), q2.2)) else (if v2 < 0 then (some ((0 : Int32), q2.2)) else (if v2 < 8 then (if 0 ≤ (((v1 * 8) + v2)).toInt ∧ (((v1 * 8) + v2)).toInt < 8192 then (some ((gA q2.2 6 (((v1 * 8) + v2)).toInt), q2.2)) else none) else (some ((0 : Int32), q2.2))))))
theorem b4D (K : b4O X Z a0 l n1 a h0) (hw : HW a0 Z) {σ : St} {v1 v2 : Int32} {r : Int32 × St} (h : a8A σ v1 v2 = some r) : Go X (vvI r.1, (r.2, 24)) 0 [some (.ref 0), vvI v1, vvI v2] [] (σ, 24) := by
 unfold a8A at h
 refine a0a K.1 a89.1.1.1 rfl (a0b K.1 a89.1.1.2 rfl ?_)
 obtain ⟨q2, hq2, h⟩ := bsq h
 refine a0g (vs := [.int v1]) K a89.1.2.1 (b29 hw) (b27 hw) (b2O hw) (b2Q hw) hyC a1D rfl rfl (a0x l Z a0 hw n1 a (a0i K) hq2) rfl (nbq rfl) (nbq rfl) rfl rfl ?_
 rcases ifs h with ⟨hc5, h⟩ | ⟨hc5, h⟩
 ·refine a0u (pc' := 18) K.1 a89.1.2.2 (by decide) ((if0 _ _).trans (teq hc5).1) ?_
  refine a0c (v := 0) K.1 a6z.2.1 (by decide) ?_
  cases h; exact a0e K.1 a6z.2.2 (a0w K)
 refine a0t K.1 a89.1.2.2 ((if0 _ _).trans (feq hc5).1) (a0b K.1 a89.2.1.1 rfl ?_)
 rcases ifs h with ⟨hc9, h⟩ | ⟨hc9, h⟩
 ·refine a0u (pc' := 18) K.1 a89.2.1.2 (by decide) ((if0 _ _).trans (tlt hc9).1) ?_
  refine a0c (v := 0) K.1 a6z.2.1 (by decide) ?_
  cases h; exact a0e K.1 a6z.2.2 (a0w K)
 refine a0t K.1 a89.2.1.2 ((if0 _ _).trans (flt hc9).1) (a0b K.1 a89.2.2.1 rfl ?_)
 refine a0d (v := 8) K.1 a89.2.2.2 (by decide) ?_
 rcases ifs h with ⟨hc15, h⟩ | ⟨hc15, h⟩
 ·refine a0p (pc' := 20) K.1 b0d.1.1.1 (by decide) ((tlt hc15).1) ?_
  refine a0a K.1 b0d.1.1.2 rfl (a0k K b0d.1.2.1 (w24 hw) a4a rfl (a0b K.1 b0d.1.2.2 rfl ?_))
  refine a0d (v := 8) K.1 b0d.2.1.1 (by decide) ?_
  refine b0a K.1 b0d.2.1.2 (a0b K.1 b0d.2.2.1 rfl (a0z K.1 b0d.2.2.2 ?_))
  obtain ⟨hc30, h⟩ := ifn h
  refine a0j K a6z.1.1 a3N rfl hc30 ?_
  cases h; exact a0e K.1 a6z.1.2 (a0w K)
 refine a0o K.1 b0d.1.1.1 ((flt hc15).1) ?_
 refine a0c (v := 0) K.1 a6z.2.1 (by decide) ?_
 cases h; exact a0e K.1 a6z.2.2 (a0w K)
theorem a8m (l : Launch) (Z : State) (a0 : Array Value) (hw : HW a0 Z) (n1 : Nat) (a : Addr) (ha : n1 ≤ a) {σ : St} {v1 v2 : Int32} {r : Int32 × St} (h : a8A σ v1 v2 = some r) : Con l Z cC cFS cFA 24 n1 a ⟨cC, "cellAt", "(II)I"⟩ c43 3 (some .int) ⟨1, 0, 0, 13⟩ [.ref 0, .int v1, .int v2] σ (some (.int r.1)) r.2 :=
 a0l pnC rfl (a1m hw) a0E ha (fun X h1 K => b4D K hw h)
abbrev b35 := KKQ ⟨0, 0, 0, 0⟩ "combine" c44 4 (some .int)
def a9O (σ : St) (v1 v2 v3 : Int32) : Option (Int32 × St) :=
 (if v1 = 43 then (some ((v2 + v3), σ)) else (if v1 = 45 then (some ((v2 - v3), σ)) else (some ((v2 * v3), σ))))
theorem b4h (K : b35 X Z a0 l n1 a h0) (hw : HW a0 Z) {σ : St} {v1 v2 v3 : Int32} {r : Int32 × St} (h : a9O σ v1 v2 v3 = some r) : Go X (vvI r.1, (r.2, 24)) 0 [some (.ref 0), vvI v1, vvI v2, vvI v3] [] (σ, 24) := by
 unfold a9O at h
 refine a0b K.1 a9g.1.1.1 rfl ?_
 refine a0d (v := 43) K.1 a9g.1.1.2 (by decide) ?_
 rcases ifs h with ⟨hc3, h⟩ | ⟨hc3, h⟩
 ·refine a0o K.1 a9g.1.2.1 ((teq hc3).2) (a0b K.1 b1l.2.2.1 rfl (a0b K.1 b1l.2.2.2 rfl (a0z K.1 b5R.1 ?_)))
  cases h; exact a0e K.1 b5R.2 (a0w K)
 refine a0p (pc' := 10) K.1 a9g.1.2.1 (by decide) ((feq hc3).2) ?_
 refine a0b K.1 a9g.1.2.2 rfl ?_
 refine a0d (v := 45) K.1 a9g.2.1.1 (by decide) ?_
 rcases ifs h with ⟨hc13, h⟩ | ⟨hc13, h⟩
 ·refine a0o K.1 a9g.2.1.2 ((teq hc13).2) (a0b K.1 b1l.1.2.1 rfl (a0b K.1 b1l.1.2.2 rfl (a1l K.1 b1l.2.1.1 ?_)))
  cases h; exact a0e K.1 b1l.2.1.2 (a0w K)
 refine a0p (pc' := 20) K.1 a9g.2.1.2 (by decide) ((feq hc13).2) ?_
 refine a0b K.1 a9g.2.2.1 rfl (a0b K.1 a9g.2.2.2 rfl (b0a K.1 b1l.1.1.1 ?_))
 cases h; exact a0e K.1 b1l.1.1.2 (a0w K)
theorem b3Q (l : Launch) (Z : State) (a0 : Array Value) (hw : HW a0 Z) (n1 : Nat) (a : Addr) (ha : n1 ≤ a) {σ : St} {v1 v2 v3 : Int32} {r : Int32 × St} (h : a9O σ v1 v2 v3 = some r) : Con l Z cC cFS cFA 24 n1 a ⟨cC, "combine", "(III)I"⟩ c44 4 (some .int) ⟨0, 0, 0, 0⟩ [.ref 0, .int v1, .int v2, .int v3] σ (some (.int r.1)) r.2 :=
 a0l pnC rfl (a1m hw) a0E ha (fun X h1 K => b4h K hw h)
abbrev b3x := KKQ ⟨1, 0, 0, 13⟩ "itemSize" c46 3 (some .int)
def a8t (σ : St) (v1 : Int32) : Option (Int32 × St) :=
 ((a4B σ v1).bind fun q2 => (if q2.1 = 0 then (some ((1 : Int32), q2.2)) else ((a3a q2.2 v1).bind fun q12 => ((a0Y q12.2 q12.1).bind fun q18 => (if q18.1 = 0 then (some ((1 : Int32), q18.2)) else (if 0 ≤ (q12.1).toInt ∧ (q12.1).toInt < 1024 then (some ((1 + (gA q18.2 4 (q12.1).toInt)), q18.2)) else none))))))
theorem b3F (K : b3x X Z a0 l n1 a h0) (hw : HW a0 Z) {σ : St} {v1 : Int32} {r : Int32 × St} (h : a8t σ v1 = some r) : Go X (vvI r.1, (r.2, 24)) 0 [some (.ref 0), vvI v1, none] [] (σ, 24) := by
 unfold a8t at h
 refine a0a K.1 a9L.1.1.1 rfl (a0b K.1 a9L.1.1.2 rfl ?_)
 obtain ⟨q2, hq2, h⟩ := bsq h
 refine a0g (vs := [.int v1]) K a9L.1.2.1 (b6P hw) (b6L hw) (b6O hw) (b6J hw) hyC a1D rfl rfl (a1R l Z a0 hw n1 a (a0i K) hq2) rfl (nbq rfl) (nbq rfl) rfl rfl ?_
 rcases ifs h with ⟨hc5, h⟩ | ⟨hc5, h⟩
 ·refine a0t K.1 a9L.1.2.2 ((if0 _ _).trans (teq hc5).2) ?_
  refine a0c (v := 1) K.1 a9C.2.1.2 (by decide) ?_
  cases h; exact a0e K.1 a9C.2.2 (a0w K)
 refine a0u (pc' := 10) K.1 a9L.1.2.2 (by decide) ((if0 _ _).trans (feq hc5).2) ?_
 refine a0a K.1 a9L.2.1.1 rfl (a0b K.1 a9L.2.1.2 rfl ?_)
 obtain ⟨q12, hq12, h⟩ := bsq h
 refine a0g (vs := [.int v1]) K a9L.2.2.1 (b7l hw) (b7h hw) (b7k hw) (b64 hw) hyC a3e rfl rfl (a1Y l Z a0 hw n1 a (a0i K) hq12) rfl (nbq rfl) (nbq rfl) rfl rfl (a0m (L' := [some (.ref 0), vvI v1, vvI q12.1]) K.1 a9L.2.2.2 (blt rfl) rfl (a0a K.1 a9P.1.1.1 rfl (a0b K.1 a9P.1.1.2 rfl ?_)))
 obtain ⟨q18, hq18, h⟩ := bsq h
 refine a0g (vs := [.int q12.1]) K a9P.1.2.1 (b29 hw) (b27 hw) (b2O hw) (b2Q hw) hyC a1D rfl rfl (a0x l Z a0 hw n1 a (a0i K) hq18) rfl (nbq rfl) (nbq rfl) rfl rfl ?_
 rcases ifs h with ⟨hc21, h⟩ | ⟨hc21, h⟩
 ·refine a0t K.1 a9P.1.2.2 ((if0 _ _).trans (teq hc21).2) ?_
  refine a0c (v := 1) K.1 a9C.1.2.2 (by decide) ?_
  cases h; exact a0e K.1 a9C.2.1.1 (a0w K)
 refine a0u (pc' := 26) K.1 a9P.1.2.2 (by decide) ((if0 _ _).trans (feq hc21).2) ?_
 refine a0c (v := 1) K.1 a9P.2.1.1 (by decide) ?_
 refine a0a K.1 a9P.2.1.2 rfl (a0k K a9P.2.2.1 (w20 hw) a1N rfl (a0b K.1 a9P.2.2.2 rfl ?_))
 obtain ⟨hc32, h⟩ := ifn h
 refine a0j K a9C.1.1.1 a1B rfl hc32 (a0z K.1 a9C.1.1.2 ?_)
 cases h; exact a0e K.1 a9C.1.2.1 (a0w K)
theorem b28 (l : Launch) (Z : State) (a0 : Array Value) (hw : HW a0 Z) (n1 : Nat) (a : Addr) (ha : n1 ≤ a) {σ : St} {v1 : Int32} {r : Int32 × St} (h : a8t σ v1 = some r) : Con l Z cC cFS cFA 24 n1 a ⟨cC, "itemSize", "(I)I"⟩ c46 3 (some .int) ⟨1, 0, 0, 13⟩ [.ref 0, .int v1] σ (some (.int r.1)) r.2 :=
 a0l pnC rfl (a1m hw) a0E ha (fun X h1 K => b3F K hw h)
abbrev b20 := KKQ ⟨1, 0, 0, 13⟩ "heldDepth" c47 3 (some .int)
def a5s (σ : St) (v1 : Int32) : Option (Int32 × St) :=
 ((a4B σ v1).bind fun q2 => (if q2.1 = 0 then (some ((0 : Int32), q2.2)) else ((a3a q2.2 v1).bind fun q12 => ((a0Y q12.2 q12.1).bind fun q18 => (if q18.1 = 0 then (some ((0 : Int32), q18.2)) else (if 0 ≤ (q12.1).toInt ∧ (q12.1).toInt < 1024 then (some ((gA q18.2 5 (q12.1).toInt), q18.2)) else none))))))
theorem b3f (K : b20 X Z a0 l n1 a h0) (hw : HW a0 Z) {σ : St} {v1 : Int32} {r : Int32 × St} (h : a5s σ v1 = some r) : Go X (vvI r.1, (r.2, 24)) 0 [some (.ref 0), vvI v1, none] [] (σ, 24) := by
 unfold a5s at h
 refine a0a K.1 a9T.1.1.1 rfl (a0b K.1 a9T.1.1.2 rfl ?_)
 obtain ⟨q2, hq2, h⟩ := bsq h
 refine a0g (vs := [.int v1]) K a9T.1.2.1 (b6P hw) (b6L hw) (b6O hw) (b6J hw) hyC a1D rfl rfl (a1R l Z a0 hw n1 a (a0i K) hq2) rfl (nbq rfl) (nbq rfl) rfl rfl ?_
 rcases ifs h with ⟨hc5, h⟩ | ⟨hc5, h⟩
 ·refine a0t K.1 a9T.1.2.2 ((if0 _ _).trans (teq hc5).2) ?_
  refine a0c (v := 0) K.1 b2F.2.1 (by decide) ?_
  cases h; exact a0e K.1 b2F.2.2 (a0w K)
 refine a0u (pc' := 10) K.1 a9T.1.2.2 (by decide) ((if0 _ _).trans (feq hc5).2) ?_
 refine a0a K.1 a9T.2.1.1 rfl (a0b K.1 a9T.2.1.2 rfl ?_)
 obtain ⟨q12, hq12, h⟩ := bsq h
 refine a0g (vs := [.int v1]) K a9T.2.2.1 (b7l hw) (b7h hw) (b7k hw) (b64 hw) hyC a3e rfl rfl (a1Y l Z a0 hw n1 a (a0i K) hq12) rfl (nbq rfl) (nbq rfl) rfl rfl (a0m (L' := [some (.ref 0), vvI v1, vvI q12.1]) K.1 a9T.2.2.2 (blt rfl) rfl (a0a K.1 b0q.1.1.1 rfl (a0b K.1 b0q.1.1.2 rfl ?_)))
 obtain ⟨q18, hq18, h⟩ := bsq h
 refine a0g (vs := [.int q12.1]) K b0q.1.2.1 (b29 hw) (b27 hw) (b2O hw) (b2Q hw) hyC a1D rfl rfl (a0x l Z a0 hw n1 a (a0i K) hq18) rfl (nbq rfl) (nbq rfl) rfl rfl ?_
 rcases ifs h with ⟨hc21, h⟩ | ⟨hc21, h⟩
 ·refine a0t K.1 b0q.1.2.2 ((if0 _ _).trans (teq hc21).2) ?_
  refine a0c (v := 0) K.1 b2F.1.1.2 (by decide) ?_
  cases h; exact a0e K.1 b2F.1.2 (a0w K)
 refine a0u (pc' := 26) K.1 b0q.1.2.2 (by decide) ((if0 _ _).trans (feq hc21).2) ?_
 refine a0a K.1 b0q.2.1.1 rfl (a0k K b0q.2.1.2 (w22 hw) a1r rfl (a0b K.1 b0q.2.2.1 rfl ?_))
 obtain ⟨hc31, h⟩ := ifn h
 refine a0j K b0q.2.2.2 a1n rfl hc31 ?_
 cases h; exact a0e K.1 b2F.1.1.1 (a0w K)
theorem b2o (l : Launch) (Z : State) (a0 : Array Value) (hw : HW a0 Z) (n1 : Nat) (a : Addr) (ha : n1 ≤ a) {σ : St} {v1 : Int32} {r : Int32 × St} (h : a5s σ v1 = some r) : Con l Z cC cFS cFA 24 n1 a ⟨cC, "heldDepth", "(I)I"⟩ c47 3 (some .int) ⟨1, 0, 0, 13⟩ [.ref 0, .int v1] σ (some (.int r.1)) r.2 :=
 a0l pnC rfl (a1m hw) a0E ha (fun X h1 K => b3f K hw h)
abbrev a6B := KKQ ⟨2, 0, 0, 30⟩ "appendCell" c45 5 none
def a1g  (i2 : Int32) (σ : St) : Option (St) :=
 none
theorem a1Q (K : a6B X Z a0 l n1 a h0) (hw : HW a0 Z)  {i2 : Int32} {σ : St} {r : St}  (h : a1g  i2 σ = some r) : Go X (none, (r, 24)) 28 [some (.ref 0), none, vvI i2, none, none] [] (σ, 24) := by
 unfold a1g at h
 refine a0a K.1 a7v.2.1.2 rfl (a0b K.1 a7v.2.2 rfl ?_)
 cases h
def a04 (σ : St) (v1 v2 : Int32) : Option (St) :=
 ((a0Y σ v1).bind fun q2 => (if q2.1 = 0 then a1g v2 q2.2 else (if 0 ≤ (v1).toInt ∧ (v1).toInt < 1024 then (if (gA q2.2 2 (v1).toInt) < 0 then a1g v2 q2.2 else (if 0 ≤ (v1).toInt ∧ (v1).toInt < 1024 then (if (gA q2.2 2 (v1).toInt) < 8 then (if 0 ≤ (v1).toInt ∧ (v1).toInt < 1024 then (if 0 ≤ (((v1 * 8) + (gA q2.2 2 (v1).toInt))).toInt ∧ (((v1 * 8) + (gA q2.2 2 (v1).toInt))).toInt < 8192 then (if 0 ≤ (v1).toInt ∧ (v1).toInt < 1024 then (if 0 ≤ (v1).toInt ∧ (v1).toInt < 1024 then ((a8t (sA (sA q2.2 6 (((v1 * 8) + (gA q2.2 2 (v1).toInt))).toInt v2) 2 (v1).toInt ((gA q2.2 2 (v1).toInt) + 1)) v2).bind fun q71 => (if 0 ≤ (v1).toInt ∧ (v1).toInt < 1024 then ((a5s (sA q71.2 4 (v1).toInt ((gA (sA (sA q2.2 6 (((v1 * 8) + (gA q2.2 2 (v1).toInt))).toInt v2) 2 (v1).toInt ((gA q2.2 2 (v1).toInt) + 1)) 4 (v1).toInt) + q71.1)) v2).bind fun q79 => ((a4B q79.2 v2).bind fun q87 => (if q87.1 = 0 then (some q87.2) else (if 0 ≤ (v1).toInt ∧ (v1).toInt < 1024 then (if (gA q87.2 5 (v1).toInt) < (1 + q79.1) then (if 0 ≤ (v1).toInt ∧ (v1).toInt < 1024 then (some (sA q87.2 5 (v1).toInt (1 + q79.1))) else none) else (some q87.2)) else none)))) else none)) else none) else none) else none) else none) else a1g v2 q2.2) else none)) else none)))
theorem b2f (K : a6B X Z a0 l n1 a h0) (hw : HW a0 Z) {σ : St} {v1 v2 : Int32} {r : St} (h : a04 σ v1 v2 = some r) : Go X (none, (r, 24)) 0 [some (.ref 0), vvI v1, vvI v2, none, none] [] (σ, 24) := by
 unfold a04 at h
 refine a0a K.1 a98.1.1.1 rfl (a0b K.1 a98.1.1.2 rfl ?_)
 obtain ⟨q2, hq2, h⟩ := bsq h
 refine a0g (vs := [.int v1]) K a98.1.2.1 (b29 hw) (b27 hw) (b2O hw) (b2Q hw) hyC a1D rfl rfl (a0x l Z a0 hw n1 a (a0i K) hq2) rfl (nbq rfl) (nbq rfl) rfl rfl ?_
 rcases ifs h with ⟨hc5, h⟩ | ⟨hc5, h⟩
 ·refine a0u (pc' := 28) K.1 a98.1.2.2 (by decide) ((if0 _ _).trans (teq hc5).1) ?_
  exact a0n (a1Q K hw  h) (ls (ln (ls (ls (ls l0)))))
 refine a0t K.1 a98.1.2.2 ((if0 _ _).trans (feq hc5).1) (a0a K.1 a98.2.1.1 rfl (a0k K a98.2.1.2 (w16 hw) a0L rfl (a0b K.1 a98.2.2.1 rfl ?_)))
 obtain ⟨hc13, h⟩ := ifn h
 refine a0j K a98.2.2.2 a0K rfl hc13 ?_
 rcases ifs h with ⟨hc14, h⟩ | ⟨hc14, h⟩
 ·refine a0u (pc' := 28) K.1 a8Z.1.1.1 (by decide) ((if0 _ _).trans (tlt hc14).1) ?_
  exact a0n (a1Q K hw  h) (ls (ln (ls (ls (ls l0)))))
 refine a0t K.1 a8Z.1.1.1 ((if0 _ _).trans (flt hc14).1) (a0a K.1 a8Z.1.1.2 rfl (a0k K a8Z.1.2.1 (w16 hw) a0L rfl (a0b K.1 a8Z.1.2.2 rfl ?_)))
 obtain ⟨hc22, h⟩ := ifn h
 refine a0j K a8Z.2.1.1 a0K rfl hc22 ?_
 refine a0d (v := 8) K.1 a8Z.2.1.2 (by decide) ?_
 rcases ifs h with ⟨hc25, h⟩ | ⟨hc25, h⟩
 ·refine a0p (pc' := 34) K.1 a8Z.2.2.1 (by decide) ((tlt hc25).1) ?_
  refine a0a K.1 a8Z.2.2.2 rfl (a0k K a7A.1.1.1 (w16 hw) a0L rfl (a0b K.1 a7A.1.1.2 rfl ?_))
  obtain ⟨hc39, h⟩ := ifn h
  refine a0j K a7A.1.2.1 a0K rfl hc39 (a0m (L' := [some (.ref 0), vvI v1, vvI v2, some (.int (gA q2.2 2 (v1).toInt)), none]) K.1 a7A.1.2.2 (blt rfl) rfl (a0a K.1 a7A.2.1.1 rfl (a0k K a7A.2.1.2 (w24 hw) a4a rfl (a0b K.1 a7A.2.2.1 rfl ?_))))
  refine a0d (v := 8) K.1 a7A.2.2.2 (by decide) ?_
  refine b0a K.1 a8f.1.1.1 (a0b K.1 a8f.1.1.2 rfl (a0z K.1 a8f.1.2.1 (a0b K.1 a8f.1.2.2 rfl ?_)))
  obtain ⟨hc52, h⟩ := ifn h
  refine a0r K a8f.2.1.1 a3N rfl hc52 (a0a K.1 a8f.2.1.2 rfl (a0k K a8f.2.2.1 (w16 hw) a0L rfl (a0b K.1 a8f.2.2.2 rfl (a0b K.1 a7r.1.1.1 rfl ?_))))
  refine a0c (v := 1) K.1 a7r.1.1.2 (by decide) ?_
  refine a0z K.1 a7r.1.2.1 ?_
  obtain ⟨hc61, h⟩ := ifn h
  refine a0r K a7r.1.2.2 a0K rfl hc61 (a0a K.1 a7r.2.1.1 rfl (a0k K a7r.2.1.2 (w20 hw) a1N rfl (a0b K.1 a7r.2.2.1 rfl (b52 K.1 a7r.2.2.2 rfl rfl ?_))))
  obtain ⟨hc68, h⟩ := ifn h
  refine a0j K a7g.1.1.1 a1B rfl hc68 (a0a K.1 a7g.1.1.2 rfl (a0b K.1 a7g.1.2.1 rfl ?_))
  obtain ⟨q71, hq71, h⟩ := bsq h
  refine a0g (vs := [.int v2]) K a7g.1.2.2 (c0P hw) (c0I hw) (c1n hw) (c1C hw) hyC a3e rfl rfl (b28 l Z a0 hw n1 a (a0i K) hq71) rfl (nbq rfl) (nbq rfl) rfl rfl (a0z K.1 a7g.2.1.1 ?_)
  obtain ⟨hc75, h⟩ := ifn h
  refine a0r K a7g.2.1.2 a1B rfl hc75 ?_
  refine a0c (v := 1) K.1 a7g.2.2.1 (by decide) ?_
  refine a0a K.1 a7g.2.2.2 rfl (a0b K.1 a5d.1.1.1 rfl ?_)
  obtain ⟨q79, hq79, h⟩ := bsq h
  refine a0g (vs := [.int v2]) K a5d.1.1.2 (c1q hw) (c0A hw) (c1g hw) (c1x hw) hyC a3e rfl rfl (b2o l Z a0 hw n1 a (a0i K) hq79) rfl (nbq rfl) (nbq rfl) rfl rfl (a0z K.1 a5d.1.2.1 (a0q (L' := [some (.ref 0), vvI v1, vvI v2, some (.int (gA q2.2 2 (v1).toInt)), some (.int (1 + q79.1))]) K.1 a5d.1.2.2 (blt rfl) rfl (a0a K.1 a5d.2.1.1 rfl (a0b K.1 a5d.2.1.2 rfl ?_))))
  obtain ⟨q87, hq87, h⟩ := bsq h
  refine a0g (vs := [.int v2]) K a5d.2.2.1 (b6P hw) (b6L hw) (b6O hw) (b6J hw) hyC a1D rfl rfl (a1R l Z a0 hw n1 a (a0i K) hq87) rfl (nbq rfl) (nbq rfl) rfl rfl ?_
  rcases ifs h with ⟨hc90, h⟩ | ⟨hc90, h⟩
  ·refine a0u (pc' := 112) K.1 a5d.2.2.2 (by decide) ((if0 _ _).trans (teq hc90).1) ?_
   cases h; exact a0F K.1 a7v.2.1.1 (a0w K)
  refine a0t K.1 a5d.2.2.2 ((if0 _ _).trans (feq hc90).1) (a0f K.1 a5R.1.1.1 rfl (a0a K.1 a5R.1.1.2 rfl (a0k K a5R.1.2.1 (w22 hw) a1r rfl (a0b K.1 a5R.1.2.2 rfl ?_))))
  obtain ⟨hc100, h⟩ := ifn h
  refine a0j K a5R.2.1.1 a1n rfl hc100 ?_
  rcases ifs h with ⟨hc101, h⟩ | ⟨hc101, h⟩
  ·refine a0o K.1 a5R.2.1.2 ((tlt hc101).2.2.2) (a0a K.1 a5R.2.2.1 rfl (a0k K a5R.2.2.2 (w22 hw) a1r rfl (a0b K.1 a7v.1.1.1 rfl (a0f K.1 a7v.1.1.2 rfl ?_))))
   obtain ⟨hc111, h⟩ := ifn h
   refine a0r K a7v.1.2 a1n rfl hc111 ?_
   cases h; exact a0F K.1 a7v.2.1.1 (a0w K)
  refine a0p (pc' := 112) K.1 a5R.2.1.2 (by decide) ((flt hc101).2.2.2) ?_
  cases h; exact a0F K.1 a7v.2.1.1 (a0w K)
 refine a0o K.1 a8Z.2.2.1 ((flt hc25).1) ?_
 exact a0n (a1Q K hw  h) (ls (ln (ls (ls (ls l0)))))
theorem a01 (l : Launch) (Z : State) (a0 : Array Value) (hw : HW a0 Z) (n1 : Nat) (a : Addr) (ha : n1 ≤ a) {σ : St} {v1 v2 : Int32} {r : St} (h : a04 σ v1 v2 = some r) : Con l Z cC cFS cFA 24 n1 a ⟨cC, "appendCell", "(II)V"⟩ c45 5 none ⟨2, 0, 0, 30⟩ [.ref 0, .int v1, .int v2] σ none r :=
 a0l pnC rfl (a1m hw) a0E ha (fun X h1 K => b2f K hw h)
abbrev b5w := KKQ ⟨1, 0, 0, 13⟩ "alloc" c48 2 (some .int)
def a6e (σ : St) : Option (Int32 × St) :=
 (if 0 < (gI σ 124) then (if 1024 < (gI σ 124) then (some ((-5 : Int32), σ)) else (if 0 ≤ ((gI (sI σ 124 ((gI σ 124) - 1)) 124)).toInt ∧ ((gI (sI σ 124 ((gI σ 124) - 1)) 124)).toInt < 1024 then ((a0Y (sI σ 124 ((gI σ 124) - 1)) (gA (sI σ 124 ((gI σ 124) - 1)) 7 ((gI (sI σ 124 ((gI σ 124) - 1)) 124)).toInt)).bind fun q42 => (if q42.1 = 0 then (some ((-5 : Int32), q42.2)) else (if 0 ≤ ((gA (sI σ 124 ((gI σ 124) - 1)) 7 ((gI (sI σ 124 ((gI σ 124) - 1)) 124)).toInt)).toInt ∧ ((gA (sI σ 124 ((gI σ 124) - 1)) 7 ((gI (sI σ 124 ((gI σ 124) - 1)) 124)).toInt)).toInt < 1024 then (if 0 ≤ ((gA (sI σ 124 ((gI σ 124) - 1)) 7 ((gI (sI σ 124 ((gI σ 124) - 1)) 124)).toInt)).toInt ∧ ((gA (sI σ 124 ((gI σ 124) - 1)) 7 ((gI (sI σ 124 ((gI σ 124) - 1)) 124)).toInt)).toInt < 1024 then (if 0 ≤ ((gA (sI σ 124 ((gI σ 124) - 1)) 7 ((gI (sI σ 124 ((gI σ 124) - 1)) 124)).toInt)).toInt ∧ ((gA (sI σ 124 ((gI σ 124) - 1)) 7 ((gI (sI σ 124 ((gI σ 124) - 1)) 124)).toInt)).toInt < 1024 then (if 0 ≤ ((gA (sI σ 124 ((gI σ 124) - 1)) 7 ((gI (sI σ 124 ((gI σ 124) - 1)) 124)).toInt)).toInt ∧ ((gA (sI σ 124 ((gI σ 124) - 1)) 7 ((gI (sI σ 124 ((gI σ 124) - 1)) 124)).toInt)).toInt < 1024 then (some ((gA (sI σ 124 ((gI σ 124) - 1)) 7 ((gI (sI σ 124 ((gI σ 124) - 1)) 124)).toInt), (sA (sA (sA (sA q42.2 3 ((gA (sI σ 124 ((gI σ 124) - 1)) 7 ((gI (sI σ 124 ((gI σ 124) - 1)) 124)).toInt)).toInt (1 : Int32)) 2 ((gA (sI σ 124 ((gI σ 124) - 1)) 7 ((gI (sI σ 124 ((gI σ 124) - 1)) 124)).toInt)).toInt (0 : Int32)) 4 ((gA (sI σ 124 ((gI σ 124) - 1)) 7 ((gI (sI σ 124 ((gI σ 124) - 1)) 124)).toInt)).toInt (0 : Int32)) 5 ((gA (sI σ 124 ((gI σ 124) - 1)) 7 ((gI (sI σ 124 ((gI σ 124) - 1)) 124)).toInt)).toInt (1 : Int32)))) else none) else none) else none) else none))) else none)) else (some ((-5 : Int32), σ)))
theorem b5j (K : b5w X Z a0 l n1 a h0) (hw : HW a0 Z) {σ : St} {r : Int32 × St} (h : a6e σ = some r) : Go X (vvI r.1, (r.2, 24)) 0 [some (.ref 0), none] [] (σ, 24) := by
 unfold a6e at h
 refine a0a K.1 a8O.1.1.1 rfl (a0s K a8O.1.1.2 (w71 hw) a1a ?_)
 rcases ifs h with ⟨hc4, h⟩ | ⟨hc4, h⟩
 ·refine a0t K.1 a8O.1.2.1 ((if0 _ _).trans (tlt hc4).2.2.2) (a0a K.1 a8O.1.2.2 rfl (a0s K a8O.2.1.1 (w71 hw) a1a ?_))
  refine a0I (v := 1024) K.1 a8O.2.1.2 (by decide) ?_
  rcases ifs h with ⟨hc14, h⟩ | ⟨hc14, h⟩
  ·refine a0o K.1 a8O.2.2.1 ((tlt hc14).2.2.2) ?_
   refine a0d (v := -5) K.1 a5Q.2.2.2 (by decide) ?_
   cases h; exact a0e K.1 b5P (a0w K)
  refine a0p (pc' := 20) K.1 a8O.2.2.1 (by decide) ((flt hc14).2.2.2) ?_
  refine a0a K.1 a8O.2.2.2 rfl (b0u K.1 b1i.1.1.1 rfl (a0s K b1i.1.1.2 (w71 hw) a1a ?_))
  refine a0c (v := 1) K.1 b1i.1.2.1 (by decide) ?_
  refine a1l K.1 b1i.1.2.2 (a0R (t := .int) (v' := ((gI σ 124) - 1)) K b1i.2.1.1 (w71 hw) a1a (Or.inl (w72 hw)) a1o rfl rfl (a0a K.1 b1i.2.1.2 rfl (a0k K b1i.2.2.1 (w26 hw) a5K rfl (a0a K.1 b1i.2.2.2 rfl (a0s K a53.1.1.1 (w71 hw) a1a ?_)))))
  obtain ⟨hc38, h⟩ := ifn h
  refine a0j K a53.1.1.2 a46 rfl hc38 (a0m (L' := [some (.ref 0), some (.int (gA (sI σ 124 ((gI σ 124) - 1)) 7 ((gI (sI σ 124 ((gI σ 124) - 1)) 124)).toInt))]) K.1 a53.1.2.1 (blt rfl) rfl (a0a K.1 a53.1.2.2 rfl (a0b K.1 a53.2.1.1 rfl ?_)))
  obtain ⟨q42, hq42, h⟩ := bsq h
  refine a0g (vs := [.int (gA (sI σ 124 ((gI σ 124) - 1)) 7 ((gI (sI σ 124 ((gI σ 124) - 1)) 124)).toInt)]) K a53.2.1.2 (b29 hw) (b27 hw) (b2O hw) (b2Q hw) hyC a1D rfl rfl (a0x l Z a0 hw n1 a (a0i K) hq42) rfl (nbq rfl) (nbq rfl) rfl rfl ?_
  rcases ifs h with ⟨hc45, h⟩ | ⟨hc45, h⟩
  ·refine a0t K.1 a53.2.2.1 ((if0 _ _).trans (teq hc45).2) ?_
   refine a0d (v := -5) K.1 a5Q.2.1.2 (by decide) ?_
   cases h; exact a0e K.1 a5Q.2.2.1 (a0w K)
  refine a0u (pc' := 51) K.1 a53.2.2.1 (by decide) ((if0 _ _).trans (feq hc45).2) ?_
  refine a0a K.1 a53.2.2.2 rfl (a0k K a6I.1.1.1 (w18 hw) b0Q rfl (a0b K.1 a6I.1.1.2 rfl ?_))
  refine a0c (v := 1) K.1 a6I.1.2.1 (by decide) ?_
  obtain ⟨hc57, h⟩ := ifn h
  refine a0r K a6I.1.2.2 a7Q rfl hc57 (a0a K.1 a6I.2.1.1 rfl (a0k K a6I.2.1.2 (w16 hw) a0L rfl (a0b K.1 a6I.2.2.1 rfl ?_)))
  refine a0c (v := 0) K.1 a6I.2.2.2 (by decide) ?_
  obtain ⟨hc64, h⟩ := ifn h
  refine a0r K a7z.1.1.1 a0K rfl hc64 (a0a K.1 a7z.1.1.2 rfl (a0k K a7z.1.2.1 (w20 hw) a1N rfl (a0b K.1 a7z.1.2.2 rfl ?_)))
  refine a0c (v := 0) K.1 a7z.2.1.1 (by decide) ?_
  obtain ⟨hc71, h⟩ := ifn h
  refine a0r K a7z.2.1.2 a1B rfl hc71 (a0a K.1 a7z.2.2.1 rfl (a0k K a7z.2.2.2 (w22 hw) a1r rfl (a0b K.1 a5Q.1.1.1 rfl ?_)))
  refine a0c (v := 1) K.1 a5Q.1.1.2 (by decide) ?_
  obtain ⟨hc78, h⟩ := ifn h
  refine a0r K a5Q.1.2.1 a1n rfl hc78 (a0b K.1 a5Q.1.2.2 rfl ?_)
  cases h; exact a0e K.1 a5Q.2.1.1 (a0w K)
 refine a0u (pc' := 17) K.1 a8O.1.2.1 (by decide) ((if0 _ _).trans (flt hc4).2.2.2) ?_
 refine a0d (v := -5) K.1 a5Q.2.2.2 (by decide) ?_
 cases h; exact a0e K.1 b5P (a0w K)
theorem a2s (l : Launch) (Z : State) (a0 : Array Value) (hw : HW a0 Z) (n1 : Nat) (a : Addr) (ha : n1 ≤ a) {σ : St} {r : Int32 × St} (h : a6e σ = some r) : Con l Z cC cFS cFA 24 n1 a ⟨cC, "alloc", "()I"⟩ c48 2 (some .int) ⟨1, 0, 0, 13⟩ [.ref 0] σ (some (.int r.1)) r.2 :=
 a0l pnC rfl (a1m hw) a0E ha (fun X h1 K => b5j K hw h)
abbrev a1S := KKQ ⟨3, 0, 0, 48⟩ "arith" c42 12 (some .int)
def a38 (NF : Nat)  (i7 : Int32) (σ : St) : Option (Int32 × St) :=
 ((a03 NF σ i7).bind fun q175 => (some ((-5 : Int32), q175)))
theorem a7j {NF : Nat} (K : a1S X Z a0 l n1 a h0) (hw : HW a0 Z)  {i7 : Int32} {σ : St} {r : Int32 × St}  (h : a38 NF  i7 σ = some r) : Go X (vvI r.1, (r.2, 24)) 172 [some (.ref 0), none, none, none, none, none, none, vvI i7, none, none, none, none] [] (σ, 24) := by
 unfold a38 at h
 refine a0a K.1 a7w.1.2.2 rfl (a0f K.1 a7w.2.1.1 rfl ?_)
 obtain ⟨q175, hq175, h⟩ := bsq h
 refine a0g (vs := [.int i7]) K a7w.2.1.2 (b59 hw) (b58 hw) (b5V hw) (b5Y hw) hyC a9E rfl rfl (a0Q l Z a0 hw n1 a (a0i K) hq175) rfl (nbq rfl) (nbq rfl) rfl rfl ?_
 refine a0d (v := -5) K.1 a7w.2.2.1 (by decide) ?_
 cases h; exact a0e K.1 a7w.2.2.2 (a0w K)
def a3K (NF : Nat) (k93 : b75) (i1 i2 : Int32) (i3 i4 : Int32) (i5 i6 : Int32) (i7 i8 : Int32) (i9 t1 t2 : Int32) (σ : St) : Option (Int32 × St) :=
 ((a8A σ t1 t2).bind fun q140 => ((a9O q140.2 i1 i9 q140.1).bind fun q151 => (if q151.1 < (-9999 : Int32) then a38 NF i7 q151.2 else (if 9999 < q151.1 then a38 NF i7 q151.2 else ((a04 q151.2 i7 q151.1).bind fun q186 => k93 i1 i2 i3 i4 i5 i6 i7 (i8 + 1) q186)))))
theorem a7k {NF : Nat} (K : a1S X Z a0 l n1 a h0) (hw : HW a0 Z) {k93 : Int32 → Int32 → Int32 → Int32 → Int32 → Int32 → Int32 → Int32 → St → Option (Int32 × St)} {i1 i2 : Int32} {i3 i4 : Int32} {i5 i6 : Int32} {i7 i8 : Int32} {i9 t1 t2 : Int32} {σ : St} {r : Int32 × St} (hk93 : ∀ (i1 i2 : Int32) (i3 i4 : Int32) (i5 i6 : Int32) (i7 i8 : Int32) (σ : St) (h : k93 i1 i2 i3 i4 i5 i6 i7 i8 σ = some r), Go X (vvI r.1, (r.2, 24)) 93 [some (.ref 0), vvI i1, vvI i2, vvI i3, vvI i4, vvI i5, vvI i6, vvI i7, vvI i8, none, none, none] [] (σ, 24)) (h : a3K NF k93 i1 i2 i3 i4 i5 i6 i7 i8 i9 t1 t2 σ = some r) : Go X (vvI r.1, (r.2, 24)) 140 [some (.ref 0), vvI i1, vvI i2, vvI i3, vvI i4, vvI i5, vvI i6, vvI i7, vvI i8, vvI i9, none, none] [.int t2, .int t1, .ref 0] (σ, 24) := by
 unfold a3K at h
 obtain ⟨q140, hq140, h⟩ := bsq h
 refine a0g (vs := [.int t1, .int t2]) K a5g.2.2.2 (b8q hw) (b8j hw) (b8x hw) (b8m hw) hyC b4S rfl rfl (a8m l Z a0 hw n1 a (a0i K) hq140) rfl (nbq rfl) (nbq rfl) rfl rfl (a0q (L' := [some (.ref 0), vvI i1, vvI i2, vvI i3, vvI i4, vvI i5, vvI i6, vvI i7, vvI i8, vvI i9, vvI q140.1, none]) K.1 a8l.1.1.1 (blt rfl) rfl (a0a K.1 a8l.1.1.2 rfl (a0b K.1 a8l.1.2.1 rfl (a0f K.1 a8l.1.2.2 rfl (a0f K.1 a8l.2.1.1 rfl ?_)))))
 obtain ⟨q151, hq151, h⟩ := bsq h
 refine a0g (vs := [.int i1, .int i9, .int q140.1]) K a8l.2.1.2 (b97 hw) (c07 hw) (c0L hw) (c0x hw) hyC b7n rfl rfl (b3Q l Z a0 hw n1 a (a0i K) hq151) rfl (nbq rfl) (nbq rfl) rfl rfl (a0q (L' := [some (.ref 0), vvI i1, vvI i2, vvI i3, vvI i4, vvI i5, vvI i6, vvI i7, vvI i8, vvI i9, vvI q140.1, vvI q151.1]) K.1 a8l.2.2.1 (blt rfl) rfl (a0f K.1 a8l.2.2.2 rfl ?_))
 refine a0I (v := -9999) K.1 a4Q.1.1.1 (by decide) ?_
 rcases ifs h with ⟨hc161, h⟩ | ⟨hc161, h⟩
 ·refine a0p (pc' := 172) K.1 a4Q.1.1.2 (by decide) ((tlt hc161).1) ?_
  exact a0n (a7j K hw  h) (ls (ln (ln (ln (ln (ln (ln (ls (ln (ln (ln (ln l0))))))))))))
 refine a0o K.1 a4Q.1.1.2 ((flt hc161).1) (a0f K.1 a4Q.1.2.1 rfl ?_)
 refine a0I (v := 9999) K.1 a4Q.1.2.2 (by decide) ?_
 rcases ifs h with ⟨hc169, h⟩ | ⟨hc169, h⟩
 ·refine a0o K.1 a4Q.2.1.1 ((tlt hc169).2.2.2) ?_
  exact a0n (a7j K hw  h) (ls (ln (ln (ln (ln (ln (ln (ls (ln (ln (ln (ln l0))))))))))))
 refine a0p (pc' := 181) K.1 a4Q.2.1.1 (by decide) ((flt hc169).2.2.2) ?_
 refine a0a K.1 a4Q.2.1.2 rfl (a0f K.1 a4Q.2.2.1 rfl (a0f K.1 a4Q.2.2.2 rfl ?_))
 obtain ⟨q186, hq186, h⟩ := bsq h
 refine a0g (vs := [.int i7, .int q151.1]) K a7w.1.1.1 (b7c hw) (b60 hw) (b7a hw) (b7g hw) hyC b6i rfl rfl (a01 l Z a0 hw n1 a (a0i K) hq186) rfl (nbq rfl) (nbq rfl) rfl rfl ?_
 refine a09 (w := 1) (L' := [some (.ref 0), vvI i1, vvI i2, vvI i3, vvI i4, vvI i5, vvI i6, vvI i7, some (.int (i8 + 1)), vvI i9, vvI q140.1, vvI q151.1]) K.1 a7w.1.1.2 rfl (by decide) rfl ?_
 refine a0y (pc' := 93) K.1 a7w.1.2.1 (by decide) ?_
 exact a0n (hk93 _ _ _ _ _ _ _ _ _ h) (ls (ls (ls (ls (ls (ls (ls (ls (ls (ln (ln (ln l0))))))))))))
def a3W (NF : Nat) (k93 : b75) (i1 i2 : Int32) (i3 i4 : Int32) (i5 i6 : Int32) (i7 i8 : Int32) (t1 t2 : Int32) (σ : St) : Option (Int32 × St) :=
 ((a8A σ t1 t2).bind fun q121 => (if i5 = 1 then a3K NF k93 i1 i2 i3 i4 i5 i6 i7 i8 q121.1 i3 (0 : Int32) q121.2 else a3K NF k93 i1 i2 i3 i4 i5 i6 i7 i8 q121.1 i3 i8 q121.2))
theorem a6O {NF : Nat} (K : a1S X Z a0 l n1 a h0) (hw : HW a0 Z) {k93 : Int32 → Int32 → Int32 → Int32 → Int32 → Int32 → Int32 → Int32 → St → Option (Int32 × St)} {i1 i2 : Int32} {i3 i4 : Int32} {i5 i6 : Int32} {i7 i8 : Int32} {t1 t2 : Int32} {σ : St} {r : Int32 × St} (hk93 : ∀ (i1 i2 : Int32) (i3 i4 : Int32) (i5 i6 : Int32) (i7 i8 : Int32) (σ : St) (h : k93 i1 i2 i3 i4 i5 i6 i7 i8 σ = some r), Go X (vvI r.1, (r.2, 24)) 93 [some (.ref 0), vvI i1, vvI i2, vvI i3, vvI i4, vvI i5, vvI i6, vvI i7, vvI i8, none, none, none] [] (σ, 24)) (h : a3W NF k93 i1 i2 i3 i4 i5 i6 i7 i8 t1 t2 σ = some r) : Go X (vvI r.1, (r.2, 24)) 121 [some (.ref 0), vvI i1, vvI i2, vvI i3, vvI i4, vvI i5, vvI i6, vvI i7, vvI i8, none, none, none] [.int t2, .int t1, .ref 0] (σ, 24) := by
 unfold a3W at h
 obtain ⟨q121, hq121, h⟩ := bsq h
 refine a0g (vs := [.int t1, .int t2]) K a5q.2.1.2 (b8q hw) (b8j hw) (b8x hw) (b8m hw) hyC b4S rfl rfl (a8m l Z a0 hw n1 a (a0i K) hq121) rfl (nbq rfl) (nbq rfl) rfl rfl (a0q (L' := [some (.ref 0), vvI i1, vvI i2, vvI i3, vvI i4, vvI i5, vvI i6, vvI i7, vvI i8, vvI q121.1, none, none]) K.1 a5q.2.2.1 (blt rfl) rfl (a0a K.1 a5q.2.2.2 rfl (a0b K.1 a5g.1.1.1 rfl (a0f K.1 a5g.1.1.2 rfl ?_))))
 refine a0c (v := 1) K.1 a5g.1.2.1 (by decide) ?_
 rcases ifs h with ⟨hc131, h⟩ | ⟨hc131, h⟩
 ·refine a0o K.1 a5g.1.2.2 ((teq hc131).2) ?_
  refine a0c (v := 0) K.1 a5g.2.1.2 (by decide) ?_
  refine a0y (pc' := 140) K.1 a5g.2.2.1 (by decide) ?_
  exact a7k K hw hk93 h
 refine a0p (pc' := 138) K.1 a5g.1.2.2 (by decide) ((feq hc131).2) ?_
 refine a0f K.1 a5g.2.1.1 rfl ?_
 exact a7k K hw hk93 h
def a9m (NF : Nat) (k93 : b75) (i1 i2 : Int32) (i3 i4 : Int32) (i5 i6 : Int32) (i7 i8 : Int32) (σ : St) : Option (Int32 × St) :=
 (if i8 < i6 then (if i8 < 8 then (if i4 = 1 then a3W NF k93 i1 i2 i3 i4 i5 i6 i7 i8 i2 (0 : Int32) σ else a3W NF k93 i1 i2 i3 i4 i5 i6 i7 i8 i2 i8 σ) else (some (i7, σ))) else (some (i7, σ)))
theorem b2S {NF : Nat} (K : a1S X Z a0 l n1 a h0) (hw : HW a0 Z) {k93 : Int32 → Int32 → Int32 → Int32 → Int32 → Int32 → Int32 → Int32 → St → Option (Int32 × St)} {i1 i2 : Int32} {i3 i4 : Int32} {i5 i6 : Int32} {i7 i8 : Int32} {σ : St} {r : Int32 × St} (hk93 : ∀ (i1 i2 : Int32) (i3 i4 : Int32) (i5 i6 : Int32) (i7 i8 : Int32) (σ : St) (h : k93 i1 i2 i3 i4 i5 i6 i7 i8 σ = some r), Go X (vvI r.1, (r.2, 24)) 93 [some (.ref 0), vvI i1, vvI i2, vvI i3, vvI i4, vvI i5, vvI i6, vvI i7, vvI i8, none, none, none] [] (σ, 24)) (h : a9m NF k93 i1 i2 i3 i4 i5 i6 i7 i8 σ = some r) : Go X (vvI r.1, (r.2, 24)) 93 [some (.ref 0), vvI i1, vvI i2, vvI i3, vvI i4, vvI i5, vvI i6, vvI i7, vvI i8, none, none, none] [] (σ, 24) := by
 unfold a9m at h
 refine a0f K.1 a4h.2.1.2 rfl (a0f K.1 a4h.2.2.1 rfl ?_)
 rcases ifs h with ⟨hc97, h⟩ | ⟨hc97, h⟩
 ·refine a0o K.1 a4h.2.2.2 ((tlt hc97).2.1) (a0f K.1 a3u.1.1.1 rfl ?_)
  refine a0d (v := 8) K.1 a3u.1.1.2 (by decide) ?_
  rcases ifs h with ⟨hc104, h⟩ | ⟨hc104, h⟩
  ·refine a0o K.1 a3u.1.2.1 ((tlt hc104).2.1) (a0a K.1 a3u.2.1.2 rfl (a0b K.1 a3u.2.2.1 rfl (a0f K.1 a3u.2.2.2 rfl ?_)))
   refine a0c (v := 1) K.1 a5q.1.1.1 (by decide) ?_
   rcases ifs h with ⟨hc112, h⟩ | ⟨hc112, h⟩
   ·refine a0o K.1 a5q.1.1.2 ((teq hc112).2) ?_
    refine a0c (v := 0) K.1 a5q.1.2.2 (by decide) ?_
    refine a0y (pc' := 121) K.1 a5q.2.1.1 (by decide) ?_
    exact a6O K hw hk93 h
   refine a0p (pc' := 119) K.1 a5q.1.1.2 (by decide) ((feq hc112).2) ?_
   refine a0f K.1 a5q.1.2.1 rfl ?_
   exact a6O K hw hk93 h
  refine a0p (pc' := 195) K.1 a3u.1.2.1 (by decide) ((flt hc104).2.1) ?_
  refine a0f K.1 a3u.1.2.2 rfl ?_
  cases h; exact a0e K.1 a3u.2.1.1 (a0w K)
 refine a0p (pc' := 195) K.1 a4h.2.2.2 (by decide) ((flt hc97).2.1) ?_
 refine a0f K.1 a3u.1.2.2 rfl ?_
 cases h; exact a0e K.1 a3u.2.1.1 (a0w K)
def a9x (NF : Nat)  : Nat → b75
 | 0 => fun _ _ _ _ _ _ _ _ _ => none
 | n + 1 => fun i1 i2 i3 i4 i5 i6 i7 i8 σ => a9m NF  (a9x NF  n) i1 i2 i3 i4 i5 i6 i7 i8 σ
theorem b2P {NF : Nat} (K : a1S X Z a0 l n1 a h0) (hw : HW a0 Z) (n : Nat)  {r : Int32 × St}  : ∀ (i1 i2 : Int32) (i3 i4 : Int32) (i5 i6 : Int32) (i7 i8 : Int32) (σ : St) (h : a9x NF  n i1 i2 i3 i4 i5 i6 i7 i8 σ = some r), Go X (vvI r.1, (r.2, 24)) 93 [some (.ref 0), vvI i1, vvI i2, vvI i3, vvI i4, vvI i5, vvI i6, vvI i7, vvI i8, none, none, none] [] (σ, 24) := by
 induction n with
 | zero => intro i1 i2 i3 i4 i5 i6 i7 i8 σ h; cases h
 | succ n ih => intro i1 i2 i3 i4 i5 i6 i7 i8 σ h; exact b2S (NF := NF) K hw  ih h
def a47 (NF : Nat)  (i1 i2 : Int32) (i3 i4 : Int32) (i5 t0 : Int32) (σ : St) : Option (Int32 × St) :=
 ((a6e σ).bind fun q77 => (if q77.1 < 0 then (some (q77.1, q77.2)) else a9x NF NF i1 i2 i3 i4 i5 t0 q77.1 (0 : Int32) q77.2))
theorem a8M {NF : Nat} (K : a1S X Z a0 l n1 a h0) (hw : HW a0 Z)  {i1 i2 : Int32} {i3 i4 : Int32} {i5 t0 : Int32} {σ : St} {r : Int32 × St}  (h : a47 NF  i1 i2 i3 i4 i5 t0 σ = some r) : Go X (vvI r.1, (r.2, 24)) 74 [some (.ref 0), vvI i1, vvI i2, vvI i3, vvI i4, vvI i5, none, none, none, none, none, none] [.int t0] (σ, 24) := by
 unfold a47 at h
 refine a0q (L' := [some (.ref 0), vvI i1, vvI i2, vvI i3, vvI i4, vvI i5, vvI t0, none, none, none, none, none]) K.1 a5n.2.1.2 (blt rfl) rfl (a0a K.1 a5n.2.2.1 rfl ?_)
 obtain ⟨q77, hq77, h⟩ := bsq h
 refine a0g (vs := []) K a5n.2.2.2 (b63 hw) (b68 hw) (b66 hw) (b62 hw) hyC b6b rfl rfl (a2s l Z a0 hw n1 a (a0i K) hq77) rfl (nbq rfl) (nbq rfl) rfl rfl (a0q (L' := [some (.ref 0), vvI i1, vvI i2, vvI i3, vvI i4, vvI i5, vvI t0, vvI q77.1, none, none, none, none]) K.1 a4h.1.1.1 (blt rfl) rfl (a0f K.1 a4h.1.1.2 rfl ?_))
 rcases ifs h with ⟨hc84, h⟩ | ⟨hc84, h⟩
 ·refine a0t K.1 a4h.1.2.1 ((if0 _ _).trans (tlt hc84).2.1) (a0f K.1 a8e.1.1.1 rfl ?_)
  cases h; exact a0e K.1 a8e.1.1.2 (a0w K)
 refine a0u (pc' := 90) K.1 a4h.1.2.1 (by decide) ((if0 _ _).trans (flt hc84).2.1) ?_
 refine a0c (v := 0) K.1 a4h.1.2.2 (by decide) ?_
 refine a0q (L' := [some (.ref 0), vvI i1, vvI i2, vvI i3, vvI i4, vvI i5, vvI t0, vvI q77.1, some (.int (0 : Int32)), none, none, none]) K.1 a4h.2.1.1 (blt rfl) rfl ?_
 exact b2P K hw NF  _ _ _ _ _ _ _ _ _ h
def a3w (NF : Nat)  (i1 i2 : Int32) (i3 i4 i5 : Int32) (σ : St) : Option (Int32 × St) :=
 (if i4 = 1 then a47 NF i1 i2 i3 i4 i5 i5 σ else a47 NF i1 i2 i3 i4 i5 i4 σ)
theorem a4o {NF : Nat} (K : a1S X Z a0 l n1 a h0) (hw : HW a0 Z)  {i1 i2 : Int32} {i3 i4 i5 : Int32} {σ : St} {r : Int32 × St}  (h : a3w NF  i1 i2 i3 i4 i5 σ = some r) : Go X (vvI r.1, (r.2, 24)) 61 [some (.ref 0), vvI i1, vvI i2, vvI i3, vvI i4, vvI i5, none, none, none, none, none, none] [] (σ, 24) := by
 unfold a3w at h
 refine a0f K.1 a3r.2.2.2 rfl ?_
 refine a0c (v := 1) K.1 a5n.1.1.1 (by decide) ?_
 rcases ifs h with ⟨hc64, h⟩ | ⟨hc64, h⟩
 ·refine a0o K.1 a5n.1.1.2 ((teq hc64).2) (a0f K.1 a5n.1.2.2 rfl ?_)
  refine a0y (pc' := 74) K.1 a5n.2.1.1 (by decide) ?_
  exact a8M K hw  h
 refine a0p (pc' := 72) K.1 a5n.1.1.2 (by decide) ((feq hc64).2) ?_
 refine a0f K.1 a5n.1.2.1 rfl ?_
 exact a8M K hw  h
def b3A (NF : Nat) (σ : St) (v1 v2 v3 : Int32) : Option (Int32 × St) :=
 (if 0 ≤ (v2).toInt ∧ (v2).toInt < 1024 then (if 1 < (gA σ 5 (v2).toInt) then (some ((-3 : Int32), σ)) else (if 0 ≤ (v3).toInt ∧ (v3).toInt < 1024 then (if 1 < (gA σ 5 (v3).toInt) then (some ((-3 : Int32), σ)) else (if 0 ≤ (v2).toInt ∧ (v2).toInt < 1024 then (if 0 ≤ (v3).toInt ∧ (v3).toInt < 1024 then (if (gA σ 2 (v2).toInt) = (gA σ 2 (v3).toInt) then a3w NF v1 v2 v3 (gA σ 2 (v2).toInt) (gA σ 2 (v3).toInt) σ else (if (gA σ 2 (v2).toInt) = 1 then a3w NF v1 v2 v3 (gA σ 2 (v2).toInt) (gA σ 2 (v3).toInt) σ else (if (gA σ 2 (v3).toInt) = 1 then a3w NF v1 v2 v3 (gA σ 2 (v2).toInt) (gA σ 2 (v3).toInt) σ else (some ((-4 : Int32), σ))))) else none) else none)) else none)) else none)
theorem b5l {NF : Nat} (K : a1S X Z a0 l n1 a h0) (hw : HW a0 Z) {σ : St} {v1 v2 v3 : Int32} {r : Int32 × St} (h : b3A NF σ v1 v2 v3 = some r) : Go X (vvI r.1, (r.2, 24)) 0 [some (.ref 0), vvI v1, vvI v2, vvI v3, none, none, none, none, none, none, none, none] [] (σ, 24) := by
 unfold b3A at h
 refine a0a K.1 a91.1.1.1 rfl (a0k K a91.1.1.2 (w22 hw) a1r rfl (a0b K.1 a91.1.2.1 rfl ?_))
 obtain ⟨hc5, h⟩ := ifn h
 refine a0j K a91.1.2.2 a1n rfl hc5 ?_
 refine a0c (v := 1) K.1 a91.2.1.1 (by decide) ?_
 rcases ifs h with ⟨hc7, h⟩ | ⟨hc7, h⟩
 ·refine a0p (pc' := 20) K.1 a91.2.1.2 (by decide) ((tlt hc7).2.2.1) ?_
  refine a0d (v := -3) K.1 a8e.2.1.2 (by decide) ?_
  cases h; exact a0e K.1 a8e.2.2 (a0w K)
 refine a0o K.1 a91.2.1.2 ((flt hc7).2.2.1) (a0a K.1 a91.2.2.1 rfl (a0k K a91.2.2.2 (w22 hw) a1r rfl (a0b K.1 b0m.1.1.1 rfl ?_)))
 obtain ⟨hc15, h⟩ := ifn h
 refine a0j K b0m.1.1.2 a1n rfl hc15 ?_
 refine a0c (v := 1) K.1 b0m.1.2.1 (by decide) ?_
 rcases ifs h with ⟨hc17, h⟩ | ⟨hc17, h⟩
 ·refine a0o K.1 b0m.1.2.2 ((tlt hc17).2.2.2) ?_
  refine a0d (v := -3) K.1 a8e.2.1.2 (by decide) ?_
  cases h; exact a0e K.1 a8e.2.2 (a0w K)
 refine a0p (pc' := 23) K.1 b0m.1.2.2 (by decide) ((flt hc17).2.2.2) ?_
 refine a0a K.1 b0m.2.1.1 rfl (a0k K b0m.2.1.2 (w16 hw) a0L rfl (a0b K.1 b0m.2.2.1 rfl ?_))
 obtain ⟨hc28, h⟩ := ifn h
 refine a0j K b0m.2.2.2 a0K rfl hc28 (a0q (L' := [some (.ref 0), vvI v1, vvI v2, vvI v3, some (.int (gA σ 2 (v2).toInt)), none, none, none, none, none, none, none]) K.1 a7E.1.1.1 (blt rfl) rfl (a0a K.1 a7E.1.1.2 rfl (a0k K a7E.1.2.1 (w16 hw) a0L rfl (a0b K.1 a7E.1.2.2 rfl ?_))))
 obtain ⟨hc36, h⟩ := ifn h
 refine a0j K a7E.2.1.1 a0K rfl hc36 (a0q (L' := [some (.ref 0), vvI v1, vvI v2, vvI v3, some (.int (gA σ 2 (v2).toInt)), some (.int (gA σ 2 (v3).toInt)), none, none, none, none, none, none]) K.1 a7E.2.1.2 (blt rfl) rfl (a0f K.1 a7E.2.2.1 rfl (a0f K.1 a7E.2.2.2 rfl ?_)))
 rcases ifs h with ⟨hc43, h⟩ | ⟨hc43, h⟩
 ·refine a0p (pc' := 61) K.1 a3r.1.1.1 (by decide) ((teq hc43).1) ?_
  exact a4o K hw  h
 refine a0o K.1 a3r.1.1.1 ((feq hc43).1) (a0f K.1 a3r.1.1.2 rfl ?_)
 refine a0c (v := 1) K.1 a3r.1.2.1 (by decide) ?_
 rcases ifs h with ⟨hc49, h⟩ | ⟨hc49, h⟩
 ·refine a0p (pc' := 61) K.1 a3r.1.2.2 (by decide) ((teq hc49).1) ?_
  exact a4o K hw  h
 refine a0o K.1 a3r.1.2.2 ((feq hc49).1) (a0f K.1 a3r.2.1.1 rfl ?_)
 refine a0c (v := 1) K.1 a3r.2.1.2 (by decide) ?_
 rcases ifs h with ⟨hc55, h⟩ | ⟨hc55, h⟩
 ·refine a0p (pc' := 61) K.1 a3r.2.2.1 (by decide) ((teq hc55).1) ?_
  exact a4o K hw  h
 refine a0o K.1 a3r.2.2.1 ((feq hc55).1) ?_
 refine a0d (v := -4) K.1 a8e.1.2 (by decide) ?_
 cases h; exact a0e K.1 a8e.2.1.1 (a0w K)
theorem b4z (l : Launch) (Z : State) (a0 : Array Value) (hw : HW a0 Z) (n1 : Nat) (a : Addr) (ha : n1 ≤ a) {NF : Nat} {σ : St} {v1 v2 v3 : Int32} {r : Int32 × St} (h : b3A NF σ v1 v2 v3 = some r) : Con l Z cC cFS cFA 24 n1 a ⟨cC, "arith", "(III)I"⟩ c42 12 (some .int) ⟨3, 0, 0, 48⟩ [.ref 0, .int v1, .int v2, .int v3] σ (some (.int r.1)) r.2 :=
 a0l pnC rfl (a1m hw) a0E ha (fun X h1 K => b5l K hw h)
abbrev b4F := KKQ ⟨3, 0, 0, 46⟩ "scalar" c49 3 (some .int)
def a20 (σ : St) (v1 : Int32) : Option (Int32 × St) :=
 ((a6e σ).bind fun q1 => (if q1.1 < 0 then (some (q1.1, q1.2)) else ((a04 q1.2 q1.1 v1).bind fun q14 => (some (q1.1, q14)))))
theorem b4K (K : b4F X Z a0 l n1 a h0) (hw : HW a0 Z) {σ : St} {v1 : Int32} {r : Int32 × St} (h : a20 σ v1 = some r) : Go X (vvI r.1, (r.2, 24)) 0 [some (.ref 0), vvI v1, none] [] (σ, 24) := by
 unfold a20 at h
 refine a0a K.1 b0v.1.1.1 rfl ?_
 obtain ⟨q1, hq1, h⟩ := bsq h
 refine a0g (vs := []) K b0v.1.1.2 (b63 hw) (b68 hw) (b66 hw) (b62 hw) hyC b6b rfl rfl (a2s l Z a0 hw n1 a (a0i K) hq1) rfl (nbq rfl) (nbq rfl) rfl rfl (a0m (L' := [some (.ref 0), vvI v1, vvI q1.1]) K.1 b0v.1.2.1 (blt rfl) rfl (a0b K.1 b0v.1.2.2 rfl ?_))
 rcases ifs h with ⟨hc6, h⟩ | ⟨hc6, h⟩
 ·refine a0t K.1 b0v.2.1.1 ((if0 _ _).trans (tlt hc6).2.1) (a0b K.1 b3Z.2.1 rfl ?_)
  cases h; exact a0e K.1 b3Z.2.2 (a0w K)
 refine a0u (pc' := 11) K.1 b0v.2.1.1 (by decide) ((if0 _ _).trans (flt hc6).2.1) ?_
 refine a0a K.1 b0v.2.1.2 rfl (a0b K.1 b0v.2.2.1 rfl (a0b K.1 b0v.2.2.2 rfl ?_))
 obtain ⟨q14, hq14, h⟩ := bsq h
 refine a0g (vs := [.int q1.1, .int v1]) K b3Z.1.1.1 (b7c hw) (b60 hw) (b7a hw) (b7g hw) hyC b6i rfl rfl (a01 l Z a0 hw n1 a (a0i K) hq14) rfl (nbq rfl) (nbq rfl) rfl rfl (a0b K.1 b3Z.1.1.2 rfl ?_)
 cases h; exact a0e K.1 b3Z.1.2 (a0w K)
theorem a1T (l : Launch) (Z : State) (a0 : Array Value) (hw : HW a0 Z) (n1 : Nat) (a : Addr) (ha : n1 ≤ a) {σ : St} {v1 : Int32} {r : Int32 × St} (h : a20 σ v1 = some r) : Con l Z cC cFS cFA 24 n1 a ⟨cC, "scalar", "(I)I"⟩ c49 3 (some .int) ⟨3, 0, 0, 46⟩ [.ref 0, .int v1] σ (some (.int r.1)) r.2 :=
 a0l pnC rfl (a1m hw) a0E ha (fun X h1 K => b4K K hw h)
abbrev b4Q := KKQ ⟨1, 0, 0, 13⟩ "retain" c53 2 none
def a3S (σ : St) (v1 : Int32) : Option (St) :=
 ((a0Y σ v1).bind fun q2 => (if q2.1 = 0 then (some q2.2) else (if 0 ≤ (v1).toInt ∧ (v1).toInt < 1024 then (if 0 ≤ (v1).toInt ∧ (v1).toInt < 1024 then (some (sA q2.2 3 (v1).toInt ((gA q2.2 3 (v1).toInt) + 1))) else none) else none)))
theorem b4H (K : b4Q X Z a0 l n1 a h0) (hw : HW a0 Z) {σ : St} {v1 : Int32} {r : St} (h : a3S σ v1 = some r) : Go X (none, (r, 24)) 0 [some (.ref 0), vvI v1] [] (σ, 24) := by
 unfold a3S at h
 refine a0a K.1 b0A.1.1.1 rfl (a0b K.1 b0A.1.1.2 rfl ?_)
 obtain ⟨q2, hq2, h⟩ := bsq h
 refine a0g (vs := [.int v1]) K b0A.1.2.1 (b29 hw) (b27 hw) (b2O hw) (b2Q hw) hyC a1D rfl rfl (a0x l Z a0 hw n1 a (a0i K) hq2) rfl (nbq rfl) (nbq rfl) rfl rfl ?_
 rcases ifs h with ⟨hc5, h⟩ | ⟨hc5, h⟩
 ·refine a0u (pc' := 18) K.1 b0A.1.2.2 (by decide) ((if0 _ _).trans (teq hc5).1) ?_
  cases h; exact a0F K.1 b3n.2.2 (a0w K)
 refine a0t K.1 b0A.1.2.2 ((if0 _ _).trans (feq hc5).1) (a0a K.1 b0A.2.1.1 rfl (a0k K b0A.2.1.2 (w18 hw) b0Q rfl (a0b K.1 b0A.2.2.1 rfl (b52 K.1 b0A.2.2.2 rfl rfl ?_))))
 obtain ⟨hc14, h⟩ := ifn h
 refine a0j K b3n.1.1.1 a7Q rfl hc14 ?_
 refine a0c (v := 1) K.1 b3n.1.1.2 (by decide) ?_
 refine a0z K.1 b3n.1.2 ?_
 obtain ⟨hc17, h⟩ := ifn h
 refine a0r K b3n.2.1 a7Q rfl hc17 ?_
 cases h; exact a0F K.1 b3n.2.2 (a0w K)
theorem a2H (l : Launch) (Z : State) (a0 : Array Value) (hw : HW a0 Z) (n1 : Nat) (a : Addr) (ha : n1 ≤ a) {σ : St} {v1 : Int32} {r : St} (h : a3S σ v1 = some r) : Con l Z cC cFS cFA 24 n1 a ⟨cC, "retain", "(I)V"⟩ c53 2 none ⟨1, 0, 0, 13⟩ [.ref 0, .int v1] σ none r :=
 a0l pnC rfl (a1m hw) a0E ha (fun X h1 K => b4H K hw h)
abbrev b2t := KKQ ⟨2, 0, 0, 26⟩ "retainCell" c52 3 none
def a3U (σ : St) (v1 : Int32) : Option (St) :=
 ((a4B σ v1).bind fun q2 => (if q2.1 = 0 then (some q2.2) else ((a3a q2.2 v1).bind fun q10 => ((a3S q10.2 q10.1).bind fun q16 => (some q16)))))
theorem b2s (K : b2t X Z a0 l n1 a h0) (hw : HW a0 Z) {σ : St} {v1 : Int32} {r : St} (h : a3U σ v1 = some r) : Go X (none, (r, 24)) 0 [some (.ref 0), vvI v1, none] [] (σ, 24) := by
 unfold a3U at h
 refine a0a K.1 a9J.1.1.1 rfl (a0b K.1 a9J.1.1.2 rfl ?_)
 obtain ⟨q2, hq2, h⟩ := bsq h
 refine a0g (vs := [.int v1]) K a9J.1.2.1 (b6P hw) (b6L hw) (b6O hw) (b6J hw) hyC a1D rfl rfl (a1R l Z a0 hw n1 a (a0i K) hq2) rfl (nbq rfl) (nbq rfl) rfl rfl ?_
 rcases ifs h with ⟨hc5, h⟩ | ⟨hc5, h⟩
 ·refine a0u (pc' := 19) K.1 a9J.1.2.2 (by decide) ((if0 _ _).trans (teq hc5).1) ?_
  cases h; exact a0F K.1 b4f.2.2 (a0w K)
 refine a0t K.1 a9J.1.2.2 ((if0 _ _).trans (feq hc5).1) (a0a K.1 a9J.2.1.1 rfl (a0b K.1 a9J.2.1.2 rfl ?_))
 obtain ⟨q10, hq10, h⟩ := bsq h
 refine a0g (vs := [.int v1]) K a9J.2.2.1 (b7l hw) (b7h hw) (b7k hw) (b64 hw) hyC a3e rfl rfl (a1Y l Z a0 hw n1 a (a0i K) hq10) rfl (nbq rfl) (nbq rfl) rfl rfl (a0m (L' := [some (.ref 0), vvI v1, vvI q10.1]) K.1 a9J.2.2.2 (blt rfl) rfl (a0a K.1 b4f.1.1 rfl (a0b K.1 b4f.1.2 rfl ?_)))
 obtain ⟨q16, hq16, h⟩ := bsq h
 refine a0g (vs := [.int q10.1]) K b4f.2.1 (b7H hw) (b7p hw) (b7D hw) (b7q hw) hyC a9E rfl rfl (a2H l Z a0 hw n1 a (a0i K) hq16) rfl (nbq rfl) (nbq rfl) rfl rfl ?_
 cases h; exact a0F K.1 b4f.2.2 (a0w K)
theorem b1U (l : Launch) (Z : State) (a0 : Array Value) (hw : HW a0 Z) (n1 : Nat) (a : Addr) (ha : n1 ≤ a) {σ : St} {v1 : Int32} {r : St} (h : a3U σ v1 = some r) : Con l Z cC cFS cFA 24 n1 a ⟨cC, "retainCell", "(I)V"⟩ c52 3 none ⟨2, 0, 0, 26⟩ [.ref 0, .int v1] σ none r :=
 a0l pnC rfl (a1m hw) a0E ha (fun X h1 K => b2s K hw h)
abbrev b2c := KKQ ⟨3, 0, 0, 46⟩ "appendCopy" c51 3 none
def a2J (σ : St) (v1 v2 : Int32) : Option (St) :=
 ((a3U σ v2).bind fun q2 => ((a04 q2 v1 v2).bind fun q8 => (some q8)))
theorem b2q (K : b2c X Z a0 l n1 a h0) (hw : HW a0 Z) {σ : St} {v1 v2 : Int32} {r : St} (h : a2J σ v1 v2 = some r) : Go X (none, (r, 24)) 0 [some (.ref 0), vvI v1, vvI v2] [] (σ, 24) := by
 unfold a2J at h
 refine a0a K.1 b08.1.1.1 rfl (a0b K.1 b08.1.1.2 rfl ?_)
 obtain ⟨q2, hq2, h⟩ := bsq h
 refine a0g (vs := [.int v2]) K b08.1.2.1 (c0z hw) (c1R hw) (c0r hw) (c0t hw) hyC a9E rfl rfl (b1U l Z a0 hw n1 a (a0i K) hq2) rfl (nbq rfl) (nbq rfl) rfl rfl (a0a K.1 b08.1.2.2 rfl (a0b K.1 b08.2.1.1 rfl (a0b K.1 b08.2.1.2 rfl ?_)))
 obtain ⟨q8, hq8, h⟩ := bsq h
 refine a0g (vs := [.int v1, .int v2]) K b08.2.2.1 (b7c hw) (b60 hw) (b7a hw) (b7g hw) hyC b6i rfl rfl (a01 l Z a0 hw n1 a (a0i K) hq8) rfl (nbq rfl) (nbq rfl) rfl rfl ?_
 cases h; exact a0F K.1 b08.2.2.2 (a0w K)
theorem a6u (l : Launch) (Z : State) (a0 : Array Value) (hw : HW a0 Z) (n1 : Nat) (a : Addr) (ha : n1 ≤ a) {σ : St} {v1 v2 : Int32} {r : St} (h : a2J σ v1 v2 = some r) : Con l Z cC cFS cFA 24 n1 a ⟨cC, "appendCopy", "(II)V"⟩ c51 3 none ⟨3, 0, 0, 46⟩ [.ref 0, .int v1, .int v2] σ none r :=
 a0l pnC rfl (a1m hw) a0E ha (fun X h1 K => b2q K hw h)
abbrev a1z := KKQ ⟨4, 0, 0, 60⟩ "catenate" c50 7 (some .int)
def a3o (NF : Nat) (k106 : b5A) (i2 i4 : Int32) (i5 i6 : Int32) (σ : St) : Option (Int32 × St) :=
 (if i6 < i4 then (if i6 < 8 then (if 0 ≤ (((i2 * 8) + i6)).toInt ∧ (((i2 * 8) + i6)).toInt < 8192 then ((a2J σ i5 (gA σ 6 (((i2 * 8) + i6)).toInt)).bind fun q135 => k106 i2 i4 i5 (i6 + 1) q135) else none) else (some (i5, σ))) else (some (i5, σ)))
theorem b0f {NF : Nat} (K : a1z X Z a0 l n1 a h0) (hw : HW a0 Z) {k106 : Int32 → Int32 → Int32 → Int32 → St → Option (Int32 × St)} {i2 i4 : Int32} {i5 i6 : Int32} {σ : St} {r : Int32 × St} (hk106 : ∀ (i2 i4 : Int32) (i5 i6 : Int32) (σ : St) (h : k106 i2 i4 i5 i6 σ = some r), Go X (vvI r.1, (r.2, 24)) 106 [some (.ref 0), none, vvI i2, none, vvI i4, vvI i5, vvI i6] [] (σ, 24)) (h : a3o NF k106 i2 i4 i5 i6 σ = some r) : Go X (vvI r.1, (r.2, 24)) 106 [some (.ref 0), none, vvI i2, none, vvI i4, vvI i5, vvI i6] [] (σ, 24) := by
 unfold a3o at h
 refine a0f K.1 a4G.1.2.2 rfl (a0f K.1 a4G.2.1.1 rfl ?_)
 rcases ifs h with ⟨hc110, h⟩ | ⟨hc110, h⟩
 ·refine a0o K.1 a4G.2.1.2 ((tlt hc110).2.1) (a0f K.1 a4G.2.2.1 rfl ?_)
  refine a0d (v := 8) K.1 a4G.2.2.2 (by decide) ?_
  rcases ifs h with ⟨hc117, h⟩ | ⟨hc117, h⟩
  ·refine a0o K.1 a3s.1.1.1 ((tlt hc117).2.1) (a0a K.1 a3s.1.2.2 rfl (a0f K.1 a3s.2.1.1 rfl (a0a K.1 a3s.2.1.2 rfl (a0k K a3s.2.2.1 (w24 hw) a4a rfl (a0b K.1 a3s.2.2.2 rfl ?_)))))
   refine a0d (v := 8) K.1 a74.1.1.1 (by decide) ?_
   refine b0a K.1 a74.1.1.2 (a0f K.1 a74.1.2.1 rfl (a0z K.1 a74.1.2.2 ?_))
   obtain ⟨hc134, h⟩ := ifn h
   refine a0j K a74.2.1.1 a3N rfl hc134 ?_
   obtain ⟨q135, hq135, h⟩ := bsq h
   refine a0g (vs := [.int i5, .int (gA σ 6 (((i2 * 8) + i6)).toInt)]) K a74.2.1.2 (b9d hw) (b9n hw) (b9A hw) (b9v hw) hyC b6i rfl rfl (a6u l Z a0 hw n1 a (a0i K) hq135) rfl (nbq rfl) (nbq rfl) rfl rfl ?_
   refine a09 (w := 1) (L' := [some (.ref 0), none, vvI i2, none, vvI i4, vvI i5, some (.int (i6 + 1))]) K.1 a74.2.2.1 rfl (by decide) rfl ?_
   refine a0y (pc' := 106) K.1 a74.2.2.2 (by decide) ?_
   exact hk106 _ _ _ _ _ h
  refine a0p (pc' := 144) K.1 a3s.1.1.1 (by decide) ((flt hc117).2.1) ?_
  refine a0f K.1 a3s.1.1.2 rfl ?_
  cases h; exact a0e K.1 a3s.1.2.1 (a0w K)
 refine a0p (pc' := 144) K.1 a4G.2.1.2 (by decide) ((flt hc110).2.1) ?_
 refine a0f K.1 a3s.1.1.2 rfl ?_
 cases h; exact a0e K.1 a3s.1.2.1 (a0w K)
def a3l (NF : Nat)  : Nat → b5A
 | 0 => fun _ _ _ _ _ => none
 | n + 1 => fun i2 i4 i5 i6 σ => a3o NF  (a3l NF  n) i2 i4 i5 i6 σ
theorem b0w {NF : Nat} (K : a1z X Z a0 l n1 a h0) (hw : HW a0 Z) (n : Nat)  {r : Int32 × St}  : ∀ (i2 i4 : Int32) (i5 i6 : Int32) (σ : St) (h : a3l NF  n i2 i4 i5 i6 σ = some r), Go X (vvI r.1, (r.2, 24)) 106 [some (.ref 0), none, vvI i2, none, vvI i4, vvI i5, vvI i6] [] (σ, 24) := by
 induction n with
 | zero => intro i2 i4 i5 i6 σ h; cases h
 | succ n ih => intro i2 i4 i5 i6 σ h; exact b0f (NF := NF) K hw  ih h
def a15 (NF : Nat)  (i2 i4 i5 : Int32) (σ : St) : Option (Int32 × St) :=
 a3l NF NF i2 i4 i5 (0 : Int32) σ
theorem a32 {NF : Nat} (K : a1z X Z a0 l n1 a h0) (hw : HW a0 Z)  {i2 i4 i5 : Int32} {σ : St} {r : Int32 × St}  (h : a15 NF  i2 i4 i5 σ = some r) : Go X (vvI r.1, (r.2, 24)) 103 [some (.ref 0), none, vvI i2, none, vvI i4, vvI i5, none] [] (σ, 24) := by
 unfold a15 at h
 refine a0c (v := 0) K.1 a4G.1.1.2 (by decide) ?_
 refine a0q (L' := [some (.ref 0), none, vvI i2, none, vvI i4, vvI i5, some (.int (0 : Int32))]) K.1 a4G.1.2.1 (blt rfl) rfl ?_
 exact b0w K hw NF  _ _ _ _ _ h
def a4R (NF : Nat) (k66 : Int32 → Int32 → Int32 → Int32 → Int32 → Int32 → St → Option (Int32 × St)) (i1 i2 : Int32) (i3 i4 : Int32) (i5 i6 : Int32) (σ : St) : Option (Int32 × St) :=
 (if i6 < i3 then (if i6 < 8 then (if 0 ≤ (((i1 * 8) + i6)).toInt ∧ (((i1 * 8) + i6)).toInt < 8192 then ((a2J σ i5 (gA σ 6 (((i1 * 8) + i6)).toInt)).bind fun q94 => k66 i1 i2 i3 i4 i5 (i6 + 1) q94) else none) else a15 NF i2 i4 i5 σ) else a15 NF i2 i4 i5 σ)
theorem b0Z {NF : Nat} (K : a1z X Z a0 l n1 a h0) (hw : HW a0 Z) {k66 : Int32 → Int32 → Int32 → Int32 → Int32 → Int32 → St → Option (Int32 × St)} {i1 i2 : Int32} {i3 i4 : Int32} {i5 i6 : Int32} {σ : St} {r : Int32 × St} (hk66 : ∀ (i1 i2 : Int32) (i3 i4 : Int32) (i5 i6 : Int32) (σ : St) (h : k66 i1 i2 i3 i4 i5 i6 σ = some r), Go X (vvI r.1, (r.2, 24)) 66 [some (.ref 0), vvI i1, vvI i2, vvI i3, vvI i4, vvI i5, vvI i6] [] (σ, 24)) (h : a4R NF k66 i1 i2 i3 i4 i5 i6 σ = some r) : Go X (vvI r.1, (r.2, 24)) 66 [some (.ref 0), vvI i1, vvI i2, vvI i3, vvI i4, vvI i5, vvI i6] [] (σ, 24) := by
 unfold a4R at h
 refine a0f K.1 a4t.1.2.2 rfl (a0b K.1 a4t.2.1.1 rfl ?_)
 rcases ifs h with ⟨hc69, h⟩ | ⟨hc69, h⟩
 ·refine a0o K.1 a4t.2.1.2 ((tlt hc69).2.1) (a0f K.1 a4t.2.2.1 rfl ?_)
  refine a0d (v := 8) K.1 a4t.2.2.2 (by decide) ?_
  rcases ifs h with ⟨hc76, h⟩ | ⟨hc76, h⟩
  ·refine a0o K.1 a4G.1.1.1 ((tlt hc76).2.1) (a0a K.1 a7T.1.1.1 rfl (a0f K.1 a7T.1.1.2 rfl (a0a K.1 a7T.1.2.1 rfl (a0k K a7T.1.2.2 (w24 hw) a4a rfl (a0b K.1 a7T.2.1.1 rfl ?_)))))
   refine a0d (v := 8) K.1 a7T.2.1.2 (by decide) ?_
   refine b0a K.1 a7T.2.2.1 (a0f K.1 a7T.2.2.2 rfl (a0z K.1 a5M.1.1.1 ?_))
   obtain ⟨hc93, h⟩ := ifn h
   refine a0j K a5M.1.1.2 a3N rfl hc93 ?_
   obtain ⟨q94, hq94, h⟩ := bsq h
   refine a0g (vs := [.int i5, .int (gA σ 6 (((i1 * 8) + i6)).toInt)]) K a5M.1.2.1 (b9d hw) (b9n hw) (b9A hw) (b9v hw) hyC b6i rfl rfl (a6u l Z a0 hw n1 a (a0i K) hq94) rfl (nbq rfl) (nbq rfl) rfl rfl ?_
   refine a09 (w := 1) (L' := [some (.ref 0), vvI i1, vvI i2, vvI i3, vvI i4, vvI i5, some (.int (i6 + 1))]) K.1 a5M.1.2.2 rfl (by decide) rfl ?_
   refine a0y (pc' := 66) K.1 a5M.2.1.1 (by decide) ?_
   exact hk66 _ _ _ _ _ _ _ h
  refine a0p (pc' := 103) K.1 a4G.1.1.1 (by decide) ((flt hc76).2.1) ?_
  exact a0n (a32 K hw  h) (ls (ln (ls (ln (ls (ls (ln l0)))))))
 refine a0p (pc' := 103) K.1 a4t.2.1.2 (by decide) ((flt hc69).2.1) ?_
 exact a0n (a32 K hw  h) (ls (ln (ls (ln (ls (ls (ln l0)))))))
def a4L (NF : Nat)  : Nat → Int32 → Int32 → Int32 → Int32 → Int32 → Int32 → St → Option (Int32 × St)
 | 0 => fun _ _ _ _ _ _ _ => none
 | n + 1 => fun i1 i2 i3 i4 i5 i6 σ => a4R NF  (a4L NF  n) i1 i2 i3 i4 i5 i6 σ
theorem b01 {NF : Nat} (K : a1z X Z a0 l n1 a h0) (hw : HW a0 Z) (n : Nat)  {r : Int32 × St}  : ∀ (i1 i2 : Int32) (i3 i4 : Int32) (i5 i6 : Int32) (σ : St) (h : a4L NF  n i1 i2 i3 i4 i5 i6 σ = some r), Go X (vvI r.1, (r.2, 24)) 66 [some (.ref 0), vvI i1, vvI i2, vvI i3, vvI i4, vvI i5, vvI i6] [] (σ, 24) := by
 induction n with
 | zero => intro i1 i2 i3 i4 i5 i6 σ h; cases h
 | succ n ih => intro i1 i2 i3 i4 i5 i6 σ h; exact b0Z (NF := NF) K hw  ih h
def a8u (NF : Nat) (σ : St) (v1 v2 : Int32) : Option (Int32 × St) :=
 (if 0 ≤ (v1).toInt ∧ (v1).toInt < 1024 then (if 0 ≤ (v2).toInt ∧ (v2).toInt < 1024 then (if (gI σ 114) < ((gA σ 2 (v1).toInt) + (gA σ 2 (v2).toInt)) then (some ((-5 : Int32), σ)) else (if 0 ≤ (v1).toInt ∧ (v1).toInt < 1024 then (if 0 ≤ (v2).toInt ∧ (v2).toInt < 1024 then (if (gI σ 115) < ((gA σ 4 (v1).toInt) + (gA σ 4 (v2).toInt)) then (some ((-5 : Int32), σ)) else ((a6e σ).bind fun q50 => (if q50.1 < 0 then (some (q50.1, q50.2)) else a4L NF NF v1 v2 (gA σ 2 (v1).toInt) (gA σ 2 (v2).toInt) q50.1 (0 : Int32) q50.2))) else none) else none)) else none) else none)
theorem b3p {NF : Nat} (K : a1z X Z a0 l n1 a h0) (hw : HW a0 Z) {σ : St} {v1 v2 : Int32} {r : Int32 × St} (h : a8u NF σ v1 v2 = some r) : Go X (vvI r.1, (r.2, 24)) 0 [some (.ref 0), vvI v1, vvI v2, none, none, none, none] [] (σ, 24) := by
 unfold a8u at h
 refine a0a K.1 b1D.1.1.1 rfl (a0k K b1D.1.1.2 (w16 hw) a0L rfl (a0b K.1 b1D.1.2.1 rfl ?_))
 obtain ⟨hc5, h⟩ := ifn h
 refine a0j K b1D.1.2.2 a0K rfl hc5 (a0m (L' := [some (.ref 0), vvI v1, vvI v2, some (.int (gA σ 2 (v1).toInt)), none, none, none]) K.1 b1D.2.1.1 (blt rfl) rfl (a0a K.1 b1D.2.1.2 rfl (a0k K b1D.2.2.1 (w16 hw) a0L rfl (a0b K.1 b1D.2.2.2 rfl ?_))))
 obtain ⟨hc12, h⟩ := ifn h
 refine a0j K a94.1.1.1 a0K rfl hc12 (a0q (L' := [some (.ref 0), vvI v1, vvI v2, some (.int (gA σ 2 (v1).toInt)), some (.int (gA σ 2 (v2).toInt)), none, none]) K.1 a94.1.1.2 (blt rfl) rfl (a0b K.1 a94.1.2.1 rfl (a0f K.1 a94.1.2.2 rfl (a0z K.1 a94.2.1.1 (a0a K.1 a94.2.1.2 rfl ?_)))))
 refine a0s K a94.2.2.1 (w67 hw) a8x ?_
 rcases ifs h with ⟨hc23, h⟩ | ⟨hc23, h⟩
 ·refine a0p (pc' := 46) K.1 a94.2.2.2 (by decide) ((tlt hc23).2.2.1) ?_
  refine a0d (v := -5) K.1 a5M.2.2.2 (by decide) ?_
  cases h; exact a0e K.1 b5J (a0w K)
 refine a0o K.1 a94.2.2.2 ((flt hc23).2.2.1) (a0a K.1 a6G.1.1.1 rfl (a0k K a6G.1.1.2 (w20 hw) a1N rfl (a0b K.1 a6G.1.2.1 rfl ?_)))
 obtain ⟨hc31, h⟩ := ifn h
 refine a0j K a6G.1.2.2 a1B rfl hc31 (a0a K.1 a6G.2.1.1 rfl (a0k K a6G.2.1.2 (w20 hw) a1N rfl (a0b K.1 a6G.2.2.1 rfl ?_)))
 obtain ⟨hc37, h⟩ := ifn h
 refine a0j K a6G.2.2.2 a1B rfl hc37 (a0z K.1 a6a.1.1.1 (a0a K.1 a6a.1.1.2 rfl (a0s K a6a.1.2.1 (w69 hw) a8D ?_)))
 rcases ifs h with ⟨hc43, h⟩ | ⟨hc43, h⟩
 ·refine a0o K.1 a6a.1.2.2 ((tlt hc43).2.2.2) ?_
  refine a0d (v := -5) K.1 a5M.2.2.2 (by decide) ?_
  cases h; exact a0e K.1 b5J (a0w K)
 refine a0p (pc' := 49) K.1 a6a.1.2.2 (by decide) ((flt hc43).2.2.2) ?_
 refine a0a K.1 a6a.2.1.1 rfl ?_
 obtain ⟨q50, hq50, h⟩ := bsq h
 refine a0g (vs := []) K a6a.2.1.2 (b63 hw) (b68 hw) (b66 hw) (b62 hw) hyC b6b rfl rfl (a2s l Z a0 hw n1 a (a0i K) hq50) rfl (nbq rfl) (nbq rfl) rfl rfl (a0q (L' := [some (.ref 0), vvI v1, vvI v2, some (.int (gA σ 2 (v1).toInt)), some (.int (gA σ 2 (v2).toInt)), vvI q50.1, none]) K.1 a6a.2.2.1 (blt rfl) rfl (a0f K.1 a6a.2.2.2 rfl ?_))
 rcases ifs h with ⟨hc57, h⟩ | ⟨hc57, h⟩
 ·refine a0t K.1 a4t.1.1.1 ((if0 _ _).trans (tlt hc57).2.1) (a0f K.1 a5M.2.1.2 rfl ?_)
  cases h; exact a0e K.1 a5M.2.2.1 (a0w K)
 refine a0u (pc' := 63) K.1 a4t.1.1.1 (by decide) ((if0 _ _).trans (flt hc57).2.1) ?_
 refine a0c (v := 0) K.1 a4t.1.1.2 (by decide) ?_
 refine a0q (L' := [some (.ref 0), vvI v1, vvI v2, some (.int (gA σ 2 (v1).toInt)), some (.int (gA σ 2 (v2).toInt)), vvI q50.1, some (.int (0 : Int32))]) K.1 a4t.1.2.1 (blt rfl) rfl ?_
 exact b01 K hw NF  _ _ _ _ _ _ _ h
theorem b3b (l : Launch) (Z : State) (a0 : Array Value) (hw : HW a0 Z) (n1 : Nat) (a : Addr) (ha : n1 ≤ a) {NF : Nat} {σ : St} {v1 v2 : Int32} {r : Int32 × St} (h : a8u NF σ v1 v2 = some r) : Con l Z cC cFS cFA 24 n1 a ⟨cC, "catenate", "(II)I"⟩ c50 7 (some .int) ⟨4, 0, 0, 60⟩ [.ref 0, .int v1, .int v2] σ (some (.int r.1)) r.2 :=
 a0l pnC rfl (a1m hw) a0E ha (fun X h1 K => b3p K hw h)
abbrev a1s := KKQ ⟨1, 0, 0, 13⟩ "matchHandles" c54 7 (some .boolean)
def a1c (NF : Nat)  (i3 : Int32) (σ : St) : Option (Int32 × St) :=
 (if i3 = 0 then (some ((1 : Int32), σ)) else (some ((0 : Int32), σ)))
theorem a2l {NF : Nat} (K : a1s X Z a0 l n1 a h0) (hw : HW a0 Z)  {i3 : Int32} {σ : St} {r : Int32 × St}  (h : a1c NF  i3 σ = some r) : Go X (vvI r.1, (r.2, 24)) 135 [none, none, none, vvI i3, none, none, none] [] (σ, 24) := by
 unfold a1c at h
 refine a0b K.1 a3G.1.2.2 rfl ?_
 rcases ifs h with ⟨hc136, h⟩ | ⟨hc136, h⟩
 ·refine a0t K.1 a3G.2.1.1 ((if0 _ _).trans (teq hc136).2) ?_
  refine a0c (v := 1) K.1 a3G.2.2.1 (by decide) ?_
  refine a0y (pc' := 144) K.1 a3G.2.2.2 (by decide) ?_
  cases h; exact a0h (t := .boolean) K.1 rfl (Or.inl rfl) a6i.1.1.1 rfl (a0w K)
 refine a0u (pc' := 143) K.1 a3G.2.1.1 (by decide) ((if0 _ _).trans (feq hc136).2) ?_
 refine a0c (v := 0) K.1 a3G.2.1.2 (by decide) ?_
 cases h; exact a0h (t := .boolean) K.1 rfl (Or.inl rfl) a6i.1.1.1 rfl (a0w K)
def a2g (NF : Nat) (k19 : b4v) (i3 i4 : Int32) (σ : St) : Option (Int32 × St) :=
 (if i4 < 512 then (if 0 < i3 then (if 0 ≤ ((i3 + (-1 : Int32))).toInt ∧ ((i3 + (-1 : Int32))).toInt < 64 then (if 0 ≤ ((i3 + (-1 : Int32))).toInt ∧ ((i3 + (-1 : Int32))).toInt < 64 then (if (gA σ 20 ((i3 + (-1 : Int32))).toInt) = (gA σ 21 ((i3 + (-1 : Int32))).toInt) then k19 (i3 + (-1 : Int32)) (i4 + 1) σ else ((a0Y σ (gA σ 20 ((i3 + (-1 : Int32))).toInt)).bind fun q60 => (if q60.1 = 0 then (some ((0 : Int32), q60.2)) else ((a0Y q60.2 (gA σ 21 ((i3 + (-1 : Int32))).toInt)).bind fun q69 => (if q69.1 = 0 then (some ((0 : Int32), q69.2)) else (if 0 ≤ ((gA σ 20 ((i3 + (-1 : Int32))).toInt)).toInt ∧ ((gA σ 20 ((i3 + (-1 : Int32))).toInt)).toInt < 1024 then (if 0 ≤ ((gA σ 21 ((i3 + (-1 : Int32))).toInt)).toInt ∧ ((gA σ 21 ((i3 + (-1 : Int32))).toInt)).toInt < 1024 then (if (gA q69.2 2 ((gA σ 20 ((i3 + (-1 : Int32))).toInt)).toInt) = (gA q69.2 2 ((gA σ 21 ((i3 + (-1 : Int32))).toInt)).toInt) then (if 0 ≤ ((gA σ 20 ((i3 + (-1 : Int32))).toInt)).toInt ∧ ((gA σ 20 ((i3 + (-1 : Int32))).toInt)).toInt < 1024 then (if 0 ≤ ((gA σ 21 ((i3 + (-1 : Int32))).toInt)).toInt ∧ ((gA σ 21 ((i3 + (-1 : Int32))).toInt)).toInt < 1024 then (if (gA q69.2 4 ((gA σ 20 ((i3 + (-1 : Int32))).toInt)).toInt) = (gA q69.2 4 ((gA σ 21 ((i3 + (-1 : Int32))).toInt)).toInt) then none else (some ((0 : Int32), q69.2))) else none) else none) else (some ((0 : Int32), q69.2))) else none) else none)))))) else none) else none) else a1c NF i3 σ) else a1c NF i3 σ)
theorem a7N {NF : Nat} (K : a1s X Z a0 l n1 a h0) (hw : HW a0 Z) {k19 : Int32 → Int32 → St → Option (Int32 × St)} {i3 i4 : Int32} {σ : St} {r : Int32 × St} (hk19 : ∀ (i3 i4 : Int32) (σ : St) (h : k19 i3 i4 σ = some r), Go X (vvI r.1, (r.2, 24)) 19 [some (.ref 0), none, none, vvI i3, vvI i4, none, none] [] (σ, 24)) (h : a2g NF k19 i3 i4 σ = some r) : Go X (vvI r.1, (r.2, 24)) 19 [some (.ref 0), none, none, vvI i3, vvI i4, none, none] [] (σ, 24) := by
 unfold a2g at h
 refine a0f K.1 b1b.2.2.1 rfl ?_
 refine a0I (v := 512) K.1 b1b.2.2.2 (by decide) ?_
 rcases ifs h with ⟨hc24, h⟩ | ⟨hc24, h⟩
 ·refine a0o K.1 a3G.1.1.1 ((tlt hc24).2.1) (a0b K.1 a3G.1.1.2 rfl ?_)
  rcases ifs h with ⟨hc28, h⟩ | ⟨hc28, h⟩
  ·refine a0t K.1 a3G.1.2.1 ((if0 _ _).trans (tlt hc28).2.2.2) ?_
   refine a09 (w := -1) (L' := [some (.ref 0), none, none, some (.int (i3 + (-1 : Int32))), vvI i4, none, none]) K.1 a6i.1.1.2 rfl (by decide) rfl ?_
   refine a0a K.1 a6i.1.2.1 rfl (a0k K a6i.1.2.2 (w52 hw) b6S rfl (a0b K.1 a6i.2.1.1 rfl ?_))
   obtain ⟨hc39, h⟩ := ifn h
   refine a0j K a6i.2.1.2 b6G rfl hc39 (a0q (L' := [some (.ref 0), none, none, some (.int (i3 + (-1 : Int32))), vvI i4, some (.int (gA σ 20 ((i3 + (-1 : Int32))).toInt)), none]) K.1 a6i.2.2.1 (blt rfl) rfl (a0a K.1 a6i.2.2.2 rfl (a0k K a51.1.1.1 (w54 hw) b6Z rfl (a0b K.1 a51.1.1.2 rfl ?_))))
   obtain ⟨hc47, h⟩ := ifn h
   refine a0j K a51.1.2.1 b6Q rfl hc47 (a0q (L' := [some (.ref 0), none, none, some (.int (i3 + (-1 : Int32))), vvI i4, some (.int (gA σ 20 ((i3 + (-1 : Int32))).toInt)), some (.int (gA σ 21 ((i3 + (-1 : Int32))).toInt))]) K.1 a51.1.2.2 (blt rfl) rfl (a0f K.1 a51.2.1.1 rfl (a0f K.1 a51.2.1.2 rfl ?_)))
   rcases ifs h with ⟨hc54, h⟩ | ⟨hc54, h⟩
   ·refine a0p (pc' := 129) K.1 a51.2.2.1 (by decide) ((teq hc54).1) ?_
    refine a09 (w := 1) (L' := [some (.ref 0), none, none, some (.int (i3 + (-1 : Int32))), some (.int (i4 + 1)), some (.int (gA σ 20 ((i3 + (-1 : Int32))).toInt)), some (.int (gA σ 21 ((i3 + (-1 : Int32))).toInt))]) K.1 a51.2.2.2 rfl (by decide) rfl ?_
    refine a0y (pc' := 19) K.1 a52.1.1.1 (by decide) ?_
    exact a0n (hk19 _ _ _ h) (ls (ls (ls (ls (ls (ln (ln l0)))))))
   refine a0o K.1 a51.2.2.1 ((feq hc54).1) (a0a K.1 a52.1.1.2 rfl (a0f K.1 a52.1.2.1 rfl ?_))
   obtain ⟨q60, hq60, h⟩ := bsq h
   refine a0g (vs := [.int (gA σ 20 ((i3 + (-1 : Int32))).toInt)]) K a52.1.2.2 (b29 hw) (b27 hw) (b2O hw) (b2Q hw) hyC a1D rfl rfl (a0x l Z a0 hw n1 a (a0i K) hq60) rfl (nbq rfl) (nbq rfl) rfl rfl ?_
   rcases ifs h with ⟨hc63, h⟩ | ⟨hc63, h⟩
   ·refine a0u (pc' := 75) K.1 a52.2.1.1 (by decide) ((if0 _ _).trans (teq hc63).1) ?_
    refine a0c (v := 0) K.1 b02.1.2 (by decide) ?_
    cases h; exact a0h (t := .boolean) K.1 rfl (Or.inl rfl) b02.2 rfl (a0w K)
   refine a0t K.1 a52.2.1.1 ((if0 _ _).trans (feq hc63).1) (a0a K.1 a52.2.1.2 rfl (a0f K.1 a52.2.2.1 rfl ?_))
   obtain ⟨q69, hq69, h⟩ := bsq h
   refine a0g (vs := [.int (gA σ 21 ((i3 + (-1 : Int32))).toInt)]) K a52.2.2.2 (b29 hw) (b27 hw) (b2O hw) (b2Q hw) hyC a1D rfl rfl (a0x l Z a0 hw n1 a (a0i K) hq69) rfl (nbq rfl) (nbq rfl) rfl rfl ?_
   rcases ifs h with ⟨hc72, h⟩ | ⟨hc72, h⟩
   ·refine a0t K.1 a5h.1.1.1 ((if0 _ _).trans (teq hc72).2) ?_
    refine a0c (v := 0) K.1 b02.1.2 (by decide) ?_
    cases h; exact a0h (t := .boolean) K.1 rfl (Or.inl rfl) b02.2 rfl (a0w K)
   refine a0u (pc' := 77) K.1 a5h.1.1.1 (by decide) ((if0 _ _).trans (feq hc72).2) ?_
   refine a0a K.1 a5h.1.1.2 rfl (a0k K a5h.1.2.1 (w16 hw) a0L rfl (a0f K.1 a5h.1.2.2 rfl ?_))
   obtain ⟨hc83, h⟩ := ifn h
   refine a0j K a5h.2.1.1 a0K rfl hc83 (a0a K.1 a5h.2.1.2 rfl (a0k K a5h.2.2.1 (w16 hw) a0L rfl (a0f K.1 a5h.2.2.2 rfl ?_)))
   obtain ⟨hc90, h⟩ := ifn h
   refine a0j K a5v.1.1.1 a0K rfl hc90 ?_
   rcases ifs h with ⟨hc91, h⟩ | ⟨hc91, h⟩
   ·refine a0o K.1 a5v.1.1.2 ((teq hc91).2) (a0a K.1 a5v.1.2.1 rfl (a0k K a5v.1.2.2 (w20 hw) a1N rfl (a0f K.1 a5v.2.1.1 rfl ?_)))
    obtain ⟨hc100, h⟩ := ifn h
    refine a0j K a5v.2.1.2 a1B rfl hc100 (a0a K.1 a5v.2.2.1 rfl (a0k K a5v.2.2.2 (w20 hw) a1N rfl (a0f K.1 a4m.1.1.1 rfl ?_)))
    obtain ⟨hc107, h⟩ := ifn h
    refine a0j K a4m.1.1.2 a1B rfl hc107 ?_
    rcases ifs h with ⟨hc108, h⟩ | ⟨hc108, h⟩
    ·refine a0p (pc' := 113) K.1 a4m.1.2.1 (by decide) ((teq hc108).1) ?_
     refine a0a K.1 a4m.1.2.2 rfl (a0f K.1 a4m.2.1.1 rfl (a0f K.1 a4m.2.1.2 rfl (a0b K.1 a4m.2.2.1 rfl ?_)))
     cases h
    refine a0o K.1 a4m.1.2.1 ((feq hc108).1) ?_
    refine a0c (v := 0) K.1 a4m.2.2.2 (by decide) ?_
    cases h; exact a0h (t := .boolean) K.1 rfl (Or.inl rfl) b02.1.1 rfl (a0w K)
   refine a0p (pc' := 111) K.1 a5v.1.1.2 (by decide) ((feq hc91).2) ?_
   refine a0c (v := 0) K.1 a4m.2.2.2 (by decide) ?_
   cases h; exact a0h (t := .boolean) K.1 rfl (Or.inl rfl) b02.1.1 rfl (a0w K)
  refine a0u (pc' := 135) K.1 a3G.1.2.1 (by decide) ((if0 _ _).trans (flt hc28).2.2.2) ?_
  exact a0n (a2l K hw  h) (ln (ls (ls (ls (ln (ls (ls l0)))))))
 refine a0p (pc' := 135) K.1 a3G.1.1.1 (by decide) ((flt hc24).2.1) ?_
 exact a0n (a2l K hw  h) (ln (ls (ls (ls (ln (ls (ls l0)))))))
def a18 (NF : Nat)  : Nat → b4v
 | 0 => fun _ _ _ => none
 | n + 1 => fun i3 i4 σ => a2g NF  (a18 NF  n) i3 i4 σ
theorem a8b {NF : Nat} (K : a1s X Z a0 l n1 a h0) (hw : HW a0 Z) (n : Nat)  {r : Int32 × St}  : ∀ (i3 i4 : Int32) (σ : St) (h : a18 NF  n i3 i4 σ = some r), Go X (vvI r.1, (r.2, 24)) 19 [some (.ref 0), none, none, vvI i3, vvI i4, none, none] [] (σ, 24) := by
 induction n with
 | zero => intro i3 i4 σ h; cases h
 | succ n ih => intro i3 i4 σ h; exact a7N (NF := NF) K hw  ih h
def a1J (NF : Nat) (σ : St) (v1 v2 : Int32) : Option (Int32 × St) :=
 a18 NF NF (1 : Int32) (0 : Int32) (sA (sA σ 20 ((0 : Int32)).toInt v1) 21 ((0 : Int32)).toInt v2)
theorem b00 {NF : Nat} (K : a1s X Z a0 l n1 a h0) (hw : HW a0 Z) {σ : St} {v1 v2 : Int32} {r : Int32 × St} (h : a1J NF σ v1 v2 = some r) : Go X (vvI r.1, (r.2, 24)) 0 [some (.ref 0), vvI v1, vvI v2, none, none, none, none] [] (σ, 24) := by
 unfold a1J at h
 refine a0a K.1 b04.1.1.1 rfl (a0k K b04.1.1.2 (w52 hw) b6S rfl ?_)
 refine a0c (v := 0) K.1 b04.1.2.1 (by decide) ?_
 refine a0b K.1 b04.1.2.2 rfl ?_
 refine a0r K b04.2.1.1 b6G rfl (by decide) ?_
 refine a0a K.1 b04.2.1.2 rfl (a0k K b04.2.2.1 (w54 hw) b6Z rfl ?_)
 refine a0c (v := 0) K.1 b04.2.2.2 (by decide) ?_
 refine a0b K.1 b1b.1.1.1 rfl ?_
 refine a0r K b1b.1.1.2 b6Q rfl (by decide) ?_
 refine a0c (v := 1) K.1 b1b.1.2.1 (by decide) ?_
 refine a0m (L' := [some (.ref 0), vvI v1, vvI v2, some (.int (1 : Int32)), none, none, none]) K.1 b1b.1.2.2 (blt rfl) rfl ?_
 refine a0c (v := 0) K.1 b1b.2.1.1 (by decide) ?_
 refine a0q (L' := [some (.ref 0), vvI v1, vvI v2, some (.int (1 : Int32)), some (.int (0 : Int32)), none, none]) K.1 b1b.2.1.2 (blt rfl) rfl ?_
 exact a0n (a8b K hw NF  _ _ _ h) (ls (ln (ln (ls (ls (ls (ls l0)))))))
theorem a3V (l : Launch) (Z : State) (a0 : Array Value) (hw : HW a0 Z) (n1 : Nat) (a : Addr) (ha : n1 ≤ a) {NF : Nat} {σ : St} {v1 v2 : Int32} {r : Int32 × St} (h : a1J NF σ v1 v2 = some r) : Con l Z cC cFS cFA 24 n1 a ⟨cC, "matchHandles", "(II)Z"⟩ c54 7 (some .boolean) ⟨1, 0, 0, 13⟩ [.ref 0, .int v1, .int v2] σ (some (.int r.1)) r.2 :=
 a0l pnC rfl (a1m hw) a0E ha (fun X h1 K => b00 K hw h)
abbrev a57 := KKQ ⟨5, 0, 0, 78⟩ "dyadic" c40 6 (some .int)
def a2b (NF : Nat)  (i4 : Int32) (σ : St) : Option (Int32 × St) :=
 ((a1C NF σ i4).bind fun q127 => (some (q127.1, q127.2)))
theorem a2P {NF : Nat} (K : a57 X Z a0 l n1 a h0) (hw : HW a0 Z)  {i4 : Int32} {σ : St} {r : Int32 × St}  (h : a2b NF  i4 σ = some r) : Go X (vvI r.1, (r.2, 24)) 124 [some (.ref 0), none, none, none, vvI i4, none] [] (σ, 24) := by
 unfold a2b at h
 refine a0a K.1 a6f.1.2.2 rfl (a0f K.1 a6f.2.1.1 rfl ?_)
 obtain ⟨q127, hq127, h⟩ := bsq h
 refine a0g (vs := [.int i4]) K a6f.2.1.2 (b8f hw) (b8y hw) (b8r hw) (b8u hw) hyC a3e rfl rfl (a2w l Z a0 hw n1 a (a0i K) hq127) rfl (nbq rfl) (nbq rfl) rfl rfl ?_
 cases h; exact a0e K.1 a6f.2.2.1 (a0w K)
def a2K (NF : Nat)  (i1 i2 i3 : Int32) (σ : St) : Option (Int32 × St) :=
 ((b3A NF σ i1 i2 i3).bind fun q41 => a2b NF q41.1 q41.2)
theorem a3f {NF : Nat} (K : a57 X Z a0 l n1 a h0) (hw : HW a0 Z)  {i1 i2 i3 : Int32} {σ : St} {r : Int32 × St}  (h : a2K NF  i1 i2 i3 σ = some r) : Go X (vvI r.1, (r.2, 24)) 37 [some (.ref 0), vvI i1, vvI i2, vvI i3, none, none] [] (σ, 24) := by
 unfold a2K at h
 refine a0a K.1 a72.2.1.1 rfl (a0b K.1 a72.2.1.2 rfl (a0b K.1 a72.2.2.1 rfl (a0b K.1 a72.2.2.2 rfl ?_)))
 obtain ⟨q41, hq41, h⟩ := bsq h
 refine a0g (vs := [.int i1, .int i2, .int i3]) K a6f.1.1.1 (c0Y hw) (c1P hw) (c0j hw) (c0C hw) hyC b7n rfl rfl (b4z l Z a0 hw n1 a (a0i K) hq41) rfl (nbq rfl) (nbq rfl) rfl rfl (a0q (L' := [some (.ref 0), vvI i1, vvI i2, vvI i3, vvI q41.1, none]) K.1 a6f.1.1.2 (blt rfl) rfl ?_)
 refine a0y (pc' := 124) K.1 a6f.1.2.1 (by decide) ?_
 exact a0n (a2P K hw  h) (ls (ln (ln (ln (ls (ls l0))))))
def a29 (NF : Nat)  (t1 : Int32) (σ : St) : Option (Int32 × St) :=
 ((a20 σ t1).bind fun q108 => a2b NF q108.1 q108.2)
theorem a6m {NF : Nat} (K : a57 X Z a0 l n1 a h0) (hw : HW a0 Z)  {t1 : Int32} {σ : St} {r : Int32 × St}  (h : a29 NF  t1 σ = some r) : Go X (vvI r.1, (r.2, 24)) 108 [some (.ref 0), none, none, none, none, none] [.int t1, .ref 0] (σ, 24) := by
 unfold a29 at h
 obtain ⟨q108, hq108, h⟩ := bsq h
 refine a0g (vs := [.int t1]) K a68.1.1.1 (b7j hw) (b7f hw) (b7m hw) (b7e hw) hyC a3e rfl rfl (a1T l Z a0 hw n1 a (a0i K) hq108) rfl (nbq rfl) (nbq rfl) rfl rfl (a0q (L' := [some (.ref 0), none, none, none, vvI q108.1, none]) K.1 a68.1.1.2 (blt rfl) rfl ?_)
 refine a0y (pc' := 124) K.1 a68.1.2.1 (by decide) ?_
 exact a2P K hw  h
def a9R (NF : Nat) (σ : St) (v1 v2 v3 : Int32) : Option (Int32 × St) :=
 ((a0Y σ v2).bind fun q2 => (if q2.1 = 0 then (some ((-5 : Int32), q2.2)) else ((a0Y q2.2 v3).bind fun q10 => (if q10.1 = 0 then (some ((-5 : Int32), q10.2)) else (if v1 = 43 then a2K NF v1 v2 v3 q10.2 else (if v1 = 45 then a2K NF v1 v2 v3 q10.2 else (if v1 = 42 then a2K NF v1 v2 v3 q10.2 else (if v1 = 44 then ((a8u NF q10.2 v2 v3).bind fun q58 => a2b NF q58.1 q58.2) else (if v1 = 35 then none else (if v1 = 61 then ((a1J NF q10.2 v2 v3).bind fun q92 => (if q92.1 = 0 then a29 NF (0 : Int32) q92.2 else a29 NF (1 : Int32) q92.2)) else none))))))))))
theorem b4I {NF : Nat} (K : a57 X Z a0 l n1 a h0) (hw : HW a0 Z) {σ : St} {v1 v2 v3 : Int32} {r : Int32 × St} (h : a9R NF σ v1 v2 v3 = some r) : Go X (vvI r.1, (r.2, 24)) 0 [some (.ref 0), vvI v1, vvI v2, vvI v3, none, none] [] (σ, 24) := by
 unfold a9R at h
 refine a0a K.1 a8I.1.1.1 rfl (a0b K.1 a8I.1.1.2 rfl ?_)
 obtain ⟨q2, hq2, h⟩ := bsq h
 refine a0g (vs := [.int v2]) K a8I.1.2.1 (b29 hw) (b27 hw) (b2O hw) (b2Q hw) hyC a1D rfl rfl (a0x l Z a0 hw n1 a (a0i K) hq2) rfl (nbq rfl) (nbq rfl) rfl rfl ?_
 rcases ifs h with ⟨hc5, h⟩ | ⟨hc5, h⟩
 ·refine a0u (pc' := 16) K.1 a8I.1.2.2 (by decide) ((if0 _ _).trans (teq hc5).1) ?_
  refine a0d (v := -5) K.1 a6f.2.2.2 (by decide) ?_
  cases h; exact a0e K.1 b55 (a0w K)
 refine a0t K.1 a8I.1.2.2 ((if0 _ _).trans (feq hc5).1) (a0a K.1 a8I.2.1.1 rfl (a0b K.1 a8I.2.1.2 rfl ?_))
 obtain ⟨q10, hq10, h⟩ := bsq h
 refine a0g (vs := [.int v3]) K a8I.2.2.1 (b29 hw) (b27 hw) (b2O hw) (b2Q hw) hyC a1D rfl rfl (a0x l Z a0 hw n1 a (a0i K) hq10) rfl (nbq rfl) (nbq rfl) rfl rfl ?_
 rcases ifs h with ⟨hc13, h⟩ | ⟨hc13, h⟩
 ·refine a0t K.1 a8I.2.2.2 ((if0 _ _).trans (teq hc13).2) ?_
  refine a0d (v := -5) K.1 a6f.2.2.2 (by decide) ?_
  cases h; exact a0e K.1 b55 (a0w K)
 refine a0u (pc' := 19) K.1 a8I.2.2.2 (by decide) ((if0 _ _).trans (feq hc13).2) ?_
 refine a0b K.1 a80.1.1.1 rfl ?_
 refine a0d (v := 43) K.1 a80.1.1.2 (by decide) ?_
 rcases ifs h with ⟨hc22, h⟩ | ⟨hc22, h⟩
 ·refine a0p (pc' := 37) K.1 a80.1.2.1 (by decide) ((teq hc22).1) ?_
  exact a3f K hw  h
 refine a0o K.1 a80.1.2.1 ((feq hc22).1) (a0b K.1 a80.1.2.2 rfl ?_)
 refine a0d (v := 45) K.1 a80.2.1.1 (by decide) ?_
 rcases ifs h with ⟨hc28, h⟩ | ⟨hc28, h⟩
 ·refine a0p (pc' := 37) K.1 a80.2.1.2 (by decide) ((teq hc28).1) ?_
  exact a3f K hw  h
 refine a0o K.1 a80.2.1.2 ((feq hc28).1) (a0b K.1 a80.2.2.1 rfl ?_)
 refine a0d (v := 42) K.1 a80.2.2.2 (by decide) ?_
 rcases ifs h with ⟨hc34, h⟩ | ⟨hc34, h⟩
 ·refine a0o K.1 a3k.1.1.1 ((teq hc34).2) ?_
  exact a3f K hw  h
 refine a0p (pc' := 49) K.1 a3k.1.1.1 (by decide) ((feq hc34).2) ?_
 refine a0b K.1 a3k.1.1.2 rfl ?_
 refine a0d (v := 44) K.1 a3k.1.2.1 (by decide) ?_
 rcases ifs h with ⟨hc52, h⟩ | ⟨hc52, h⟩
 ·refine a0o K.1 a3k.1.2.2 ((teq hc52).2) (a0a K.1 a68.2.2.1 rfl (a0b K.1 a68.2.2.2 rfl (a0b K.1 a72.1.1.1 rfl ?_)))
  obtain ⟨q58, hq58, h⟩ := bsq h
  refine a0g (vs := [.int v2, .int v3]) K a72.1.1.2 (c1F hw) (c0E hw) (c1A hw) (c0W hw) hyC b4S rfl rfl (b3b l Z a0 hw n1 a (a0i K) hq58) rfl (nbq rfl) (nbq rfl) rfl rfl (a0q (L' := [some (.ref 0), vvI v1, vvI v2, vvI v3, vvI q58.1, none]) K.1 a72.1.2.1 (blt rfl) rfl ?_)
  refine a0y (pc' := 124) K.1 a72.1.2.2 (by decide) ?_
  exact a0n (a2P K hw  h) (ls (ln (ln (ln (ls (ls l0))))))
 refine a0p (pc' := 66) K.1 a3k.1.2.2 (by decide) ((feq hc52).2) ?_
 refine a0b K.1 a3k.2.1.1 rfl ?_
 refine a0d (v := 35) K.1 a3k.2.1.2 (by decide) ?_
 rcases ifs h with ⟨hc69, h⟩ | ⟨hc69, h⟩
 ·refine a0o K.1 a3k.2.2.1 ((teq hc69).2) (a0a K.1 a68.1.2.2 rfl (a0b K.1 a68.2.1.1 rfl (a0b K.1 a68.2.1.2 rfl ?_)))
  cases h
 refine a0p (pc' := 83) K.1 a3k.2.2.1 (by decide) ((feq hc69).2) ?_
 refine a0b K.1 a3k.2.2.2 rfl ?_
 refine a0d (v := 61) K.1 a5l.1.1.1 (by decide) ?_
 rcases ifs h with ⟨hc86, h⟩ | ⟨hc86, h⟩
 ·refine a0o K.1 a5l.1.1.2 ((teq hc86).2) (a0a K.1 a5l.2.1.2 rfl (a0b K.1 a5l.2.2.1 rfl (a0b K.1 a5l.2.2.2 rfl ?_)))
  obtain ⟨q92, hq92, h⟩ := bsq h
  refine a0g (vs := [.int v2, .int v3]) K a5H.1.1.1 (b9B hw) (b9l hw) (b9e hw) (b83 hw) hyC b8t rfl rfl (a3V l Z a0 hw n1 a (a0i K) hq92) rfl (nbq rfl) (nbq rfl) rfl rfl (a0q (L' := [some (.ref 0), vvI v1, vvI v2, vvI v3, none, vvI q92.1]) K.1 a5H.1.1.2 (blt rfl) rfl (a0a K.1 a5H.1.2.1 rfl (a0f K.1 a5H.1.2.2 rfl ?_)))
  rcases ifs h with ⟨hc100, h⟩ | ⟨hc100, h⟩
  ·refine a0u (pc' := 107) K.1 a5H.2.1.1 (by decide) ((if0 _ _).trans (teq hc100).1) ?_
   refine a0c (v := 0) K.1 a5H.2.1.2 (by decide) ?_
   exact a0n (a6m K hw  h) (ls (ln (ln (ln (ls (ln l0))))))
  refine a0t K.1 a5H.2.1.1 ((if0 _ _).trans (feq hc100).1) ?_
  refine a0c (v := 1) K.1 a5H.2.2.1 (by decide) ?_
  refine a0y (pc' := 108) K.1 a5H.2.2.2 (by decide) ?_
  exact a0n (a6m K hw  h) (ls (ln (ln (ln (ls (ln l0))))))
 refine a0p (pc' := 116) K.1 a5l.1.1.2 (by decide) ((feq hc86).2) ?_
 refine a0a K.1 a5l.1.2.1 rfl (a0b K.1 a5l.1.2.2 rfl (a0b K.1 a5l.2.1.1 rfl ?_))
 cases h
theorem b1y (l : Launch) (Z : State) (a0 : Array Value) (hw : HW a0 Z) (n1 : Nat) (a : Addr) (ha : n1 ≤ a) {NF : Nat} {σ : St} {v1 v2 v3 : Int32} {r : Int32 × St} (h : a9R NF σ v1 v2 v3 = some r) : Con l Z cC cFS cFA 24 n1 a ⟨cC, "dyadic", "(III)I"⟩ c40 6 (some .int) ⟨5, 0, 0, 78⟩ [.ref 0, .int v1, .int v2, .int v3] σ (some (.int r.1)) r.2 :=
 a0l pnC rfl (a1m hw) a0E ha (fun X h1 K => b4I K hw h)
abbrev b1X := KKQ ⟨4, 0, 0, 60⟩ "valueOfItem" c56 5 (some .int)
def a2j (σ : St) (v1 v2 : Int32) : Option (Int32 × St) :=
 ((a8A σ v1 v2).bind fun q3 => ((a4B q3.2 q3.1).bind fun q9 => (if q9.1 = 0 then ((a20 q9.2 q3.1).bind fun q45 => (some (q45.1, q45.2))) else ((a3a q9.2 q3.1).bind fun q17 => ((a0Y q17.2 q17.1).bind fun q25 => (if q25.1 = 0 then (some ((-5 : Int32), q25.2)) else ((a3S q25.2 q17.1).bind fun q37 => (some (q17.1, q37)))))))))
theorem b1F (K : b1X X Z a0 l n1 a h0) (hw : HW a0 Z) {σ : St} {v1 v2 : Int32} {r : Int32 × St} (h : a2j σ v1 v2 = some r) : Go X (vvI r.1, (r.2, 24)) 0 [some (.ref 0), vvI v1, vvI v2, none, none] [] (σ, 24) := by
 unfold a2j at h
 refine a0a K.1 b07.1.1.1 rfl (a0b K.1 b07.1.1.2 rfl (a0b K.1 b07.1.2.1 rfl ?_))
 obtain ⟨q3, hq3, h⟩ := bsq h
 refine a0g (vs := [.int v1, .int v2]) K b07.1.2.2 (b8q hw) (b8j hw) (b8x hw) (b8m hw) hyC b4S rfl rfl (a8m l Z a0 hw n1 a (a0i K) hq3) rfl (nbq rfl) (nbq rfl) rfl rfl (a0m (L' := [some (.ref 0), vvI v1, vvI v2, vvI q3.1, none]) K.1 b07.2.1.1 (blt rfl) rfl (a0a K.1 b07.2.1.2 rfl (a0b K.1 b07.2.2.1 rfl ?_)))
 obtain ⟨q9, hq9, h⟩ := bsq h
 refine a0g (vs := [.int q3.1]) K b07.2.2.2 (b6P hw) (b6L hw) (b6O hw) (b6J hw) hyC a1D rfl rfl (a1R l Z a0 hw n1 a (a0i K) hq9) rfl (nbq rfl) (nbq rfl) rfl rfl ?_
 rcases ifs h with ⟨hc12, h⟩ | ⟨hc12, h⟩
 ·refine a0u (pc' := 43) K.1 b0D.1.1.1 (by decide) ((if0 _ _).trans (teq hc12).1) ?_
  refine a0a K.1 b0D.1.1.2 rfl (a0b K.1 b0D.1.2.1 rfl ?_)
  obtain ⟨q45, hq45, h⟩ := bsq h
  refine a0g (vs := [.int q3.1]) K b0D.1.2.2 (b7j hw) (b7f hw) (b7m hw) (b7e hw) hyC a3e rfl rfl (a1T l Z a0 hw n1 a (a0i K) hq45) rfl (nbq rfl) (nbq rfl) rfl rfl ?_
  cases h; exact a0e K.1 b0D.2.1.1 (a0w K)
 refine a0t K.1 b0D.1.1.1 ((if0 _ _).trans (feq hc12).1) (a0a K.1 b0D.2.1.2 rfl (a0b K.1 b0D.2.2.1 rfl ?_))
 obtain ⟨q17, hq17, h⟩ := bsq h
 refine a0g (vs := [.int q3.1]) K b0D.2.2.2 (b7l hw) (b7h hw) (b7k hw) (b64 hw) hyC a3e rfl rfl (a1Y l Z a0 hw n1 a (a0i K) hq17) rfl (nbq rfl) (nbq rfl) rfl rfl (a0q (L' := [some (.ref 0), vvI v1, vvI v2, vvI q3.1, vvI q17.1]) K.1 a5k.1.1.1 (blt rfl) rfl (a0a K.1 a5k.1.1.2 rfl (a0f K.1 a5k.1.2.1 rfl ?_)))
 obtain ⟨q25, hq25, h⟩ := bsq h
 refine a0g (vs := [.int q17.1]) K a5k.1.2.2 (b29 hw) (b27 hw) (b2O hw) (b2Q hw) hyC a1D rfl rfl (a0x l Z a0 hw n1 a (a0i K) hq25) rfl (nbq rfl) (nbq rfl) rfl rfl ?_
 rcases ifs h with ⟨hc28, h⟩ | ⟨hc28, h⟩
 ·refine a0t K.1 a5k.2.1.1 ((if0 _ _).trans (teq hc28).2) ?_
  refine a0d (v := -5) K.1 b3t.2.1 (by decide) ?_
  cases h; exact a0e K.1 b3t.2.2 (a0w K)
 refine a0u (pc' := 34) K.1 a5k.2.1.1 (by decide) ((if0 _ _).trans (feq hc28).2) ?_
 refine a0a K.1 a5k.2.1.2 rfl (a0f K.1 a5k.2.2.1 rfl ?_)
 obtain ⟨q37, hq37, h⟩ := bsq h
 refine a0g (vs := [.int q17.1]) K a5k.2.2.2 (b7H hw) (b7p hw) (b7D hw) (b7q hw) hyC a9E rfl rfl (a2H l Z a0 hw n1 a (a0i K) hq37) rfl (nbq rfl) (nbq rfl) rfl rfl (a0f K.1 b3t.1.1 rfl ?_)
 cases h; exact a0e K.1 b3t.1.2 (a0w K)
theorem a43 (l : Launch) (Z : State) (a0 : Array Value) (hw : HW a0 Z) (n1 : Nat) (a : Addr) (ha : n1 ≤ a) {σ : St} {v1 v2 : Int32} {r : Int32 × St} (h : a2j σ v1 v2 = some r) : Con l Z cC cFS cFA 24 n1 a ⟨cC, "valueOfItem", "(II)I"⟩ c56 5 (some .int) ⟨4, 0, 0, 60⟩ [.ref 0, .int v1, .int v2] σ (some (.int r.1)) r.2 :=
 a0l pnC rfl (a1m hw) a0E ha (fun X h1 K => b1F K hw h)
abbrev a2t := KKQ ⟨6, 0, 0, 95⟩ "reduce" c55 8 (some .int)
def a3O (NF : Nat)  (σ : St) : Option (Int32 × St) :=
 ((a20 σ (0 : Int32)).bind fun q36 => (some (q36.1, q36.2)))
theorem a7y {NF : Nat} (K : a2t X Z a0 l n1 a h0) (hw : HW a0 Z)  {σ : St} {r : Int32 × St}  (h : a3O NF  σ = some r) : Go X (vvI r.1, (r.2, 24)) 34 [some (.ref 0), none, none, none, none, none, none, none] [] (σ, 24) := by
 unfold a3O at h
 refine a0a K.1 a4p.2.2.2 rfl ?_
 refine a0c (v := 0) K.1 b2K.1.1.1 (by decide) ?_
 obtain ⟨q36, hq36, h⟩ := bsq h
 refine a0g (vs := [.int (0 : Int32)]) K b2K.1.1.2 (b7j hw) (b7f hw) (b7m hw) (b7e hw) hyC a3e rfl rfl (a1T l Z a0 hw n1 a (a0i K) hq36) rfl (nbq rfl) (nbq rfl) rfl rfl ?_
 cases h; exact a0e K.1 b2K.1.2 (a0w K)
def a2V (NF : Nat)  (i4 : Int32) (σ : St) : Option (Int32 × St) :=
 ((a1C NF σ i4).bind fun q168 => (some (q168.1, q168.2)))
theorem a6n {NF : Nat} (K : a2t X Z a0 l n1 a h0) (hw : HW a0 Z)  {i4 : Int32} {σ : St} {r : Int32 × St}  (h : a2V NF  i4 σ = some r) : Go X (vvI r.1, (r.2, 24)) 165 [some (.ref 0), none, none, none, vvI i4, none, none, none] [] (σ, 24) := by
 unfold a2V at h
 refine a0a K.1 a5O.1.2.1 rfl (a0f K.1 a5O.1.2.2 rfl ?_)
 obtain ⟨q168, hq168, h⟩ := bsq h
 refine a0g (vs := [.int i4]) K a5O.2.1.1 (b8f hw) (b8y hw) (b8r hw) (b8u hw) hyC a3e rfl rfl (a2w l Z a0 hw n1 a (a0i K) hq168) rfl (nbq rfl) (nbq rfl) rfl rfl ?_
 cases h; exact a0e K.1 a5O.2.1.2 (a0w K)
def a6y (NF : Nat) (k89 : b5A) (i1 i2 : Int32) (i4 i5 : Int32) (σ : St) : Option (Int32 × St) :=
 (if i5 < 0 then a2V NF i4 σ else (if i5 < 8 then ((a2j σ i2 i5).bind fun q105 => (if q105.1 < 0 then ((a03 NF q105.2 i4).bind fun q118 => (some (q105.1, q118))) else ((a9R NF q105.2 i1 q105.1 i4).bind fun q130 => ((a03 NF q130.2 q105.1).bind fun q138 => ((a03 NF q138 i4).bind fun q144 => (if q130.1 < 0 then (some (q130.1, q144)) else k89 i1 i2 q130.1 (i5 + (-1 : Int32)) q144)))))) else a2V NF i4 σ))
theorem b2m {NF : Nat} (K : a2t X Z a0 l n1 a h0) (hw : HW a0 Z) {k89 : Int32 → Int32 → Int32 → Int32 → St → Option (Int32 × St)} {i1 i2 : Int32} {i4 i5 : Int32} {σ : St} {r : Int32 × St} (hk89 : ∀ (i1 i2 : Int32) (i4 i5 : Int32) (σ : St) (h : k89 i1 i2 i4 i5 σ = some r), Go X (vvI r.1, (r.2, 24)) 89 [some (.ref 0), vvI i1, vvI i2, none, vvI i4, vvI i5, none, none] [] (σ, 24)) (h : a6y NF k89 i1 i2 i4 i5 σ = some r) : Go X (vvI r.1, (r.2, 24)) 89 [some (.ref 0), vvI i1, vvI i2, none, vvI i4, vvI i5, none, none] [] (σ, 24) := by
 unfold a6y at h
 refine a0f K.1 a4J.2.1.2 rfl ?_
 rcases ifs h with ⟨hc91, h⟩ | ⟨hc91, h⟩
 ·refine a0u (pc' := 165) K.1 a4J.2.2.1 (by decide) ((if0 _ _).trans (tlt hc91).1) ?_
  exact a0n (a6n K hw  h) (ls (ln (ln (ls (ls (ln (ls (ls l0))))))))
 refine a0t K.1 a4J.2.2.1 ((if0 _ _).trans (flt hc91).1) (a0f K.1 a4J.2.2.2 rfl ?_)
 refine a0d (v := 8) K.1 a5O.1.1.1 (by decide) ?_
 rcases ifs h with ⟨hc98, h⟩ | ⟨hc98, h⟩
 ·refine a0o K.1 a5O.1.1.2 ((tlt hc98).2.1) (a0a K.1 a5O.2.2.1 rfl (a0b K.1 a5O.2.2.2 rfl (a0f K.1 a50.1.1.1 rfl ?_)))
  obtain ⟨q105, hq105, h⟩ := bsq h
  refine a0g (vs := [.int i2, .int i5]) K a50.1.1.2 (b9u hw) (b81 hw) (b89 hw) (b9y hw) hyC b4S rfl rfl (a43 l Z a0 hw n1 a (a0i K) hq105) rfl (nbq rfl) (nbq rfl) rfl rfl (a0q (L' := [some (.ref 0), vvI i1, vvI i2, none, vvI i4, vvI i5, vvI q105.1, none]) K.1 a50.1.2.1 (blt rfl) rfl (a0f K.1 a50.1.2.2 rfl ?_))
  rcases ifs h with ⟨hc112, h⟩ | ⟨hc112, h⟩
  ·refine a0t K.1 a50.2.1.1 ((if0 _ _).trans (tlt hc112).2.1) (a0a K.1 a7p.1.1.2 rfl (a0f K.1 a7p.1.2.1 rfl ?_))
   obtain ⟨q118, hq118, h⟩ := bsq h
   refine a0g (vs := [.int i4]) K a7p.1.2.2 (b59 hw) (b58 hw) (b5V hw) (b5Y hw) hyC a9E rfl rfl (a0Q l Z a0 hw n1 a (a0i K) hq118) rfl (nbq rfl) (nbq rfl) rfl rfl (a0f K.1 a7p.2.1.1 rfl ?_)
   cases h; exact a0e K.1 a7p.2.1.2 (a0w K)
  refine a0u (pc' := 124) K.1 a50.2.1.1 (by decide) ((if0 _ _).trans (flt hc112).2.1) ?_
  refine a0a K.1 a50.2.1.2 rfl (a0b K.1 a50.2.2.1 rfl (a0f K.1 a50.2.2.2 rfl (a0f K.1 a7l.1.1.1 rfl ?_)))
  obtain ⟨q130, hq130, h⟩ := bsq h
  refine a0g (vs := [.int i1, .int q105.1, .int i4]) K a7l.1.1.2 (b9m hw) (b9C hw) (b80 hw) (b9c hw) hyC b7n rfl rfl (b1y l Z a0 hw n1 a (a0i K) hq130) rfl (nbq rfl) (nbq rfl) rfl rfl (a0q (L' := [some (.ref 0), vvI i1, vvI i2, none, vvI i4, vvI i5, vvI q105.1, vvI q130.1]) K.1 a7l.1.2.1 (blt rfl) rfl (a0a K.1 a7l.1.2.2 rfl (a0f K.1 a7l.2.1.1 rfl ?_)))
  obtain ⟨q138, hq138, h⟩ := bsq h
  refine a0g (vs := [.int q105.1]) K a7l.2.1.2 (b59 hw) (b58 hw) (b5V hw) (b5Y hw) hyC a9E rfl rfl (a0Q l Z a0 hw n1 a (a0i K) hq138) rfl (nbq rfl) (nbq rfl) rfl rfl (a0a K.1 a7l.2.2.1 rfl (a0f K.1 a7l.2.2.2 rfl ?_))
  obtain ⟨q144, hq144, h⟩ := bsq h
  refine a0g (vs := [.int i4]) K a5B.1.1.1 (b59 hw) (b58 hw) (b5V hw) (b5Y hw) hyC a9E rfl rfl (a0Q l Z a0 hw n1 a (a0i K) hq144) rfl (nbq rfl) (nbq rfl) rfl rfl (a0f K.1 a5B.1.1.2 rfl ?_)
  rcases ifs h with ⟨hc149, h⟩ | ⟨hc149, h⟩
  ·refine a0t K.1 a5B.1.2.1 ((if0 _ _).trans (tlt hc149).2.1) (a0f K.1 a5B.2.2.2 rfl ?_)
   cases h; exact a0e K.1 a7p.1.1.1 (a0w K)
  refine a0u (pc' := 155) K.1 a5B.1.2.1 (by decide) ((if0 _ _).trans (flt hc149).2.1) ?_
  refine a0f K.1 a5B.1.2.2 rfl (a0q (L' := [some (.ref 0), vvI i1, vvI i2, none, vvI q130.1, vvI i5, vvI q105.1, vvI q130.1]) K.1 a5B.2.1.1 (blt rfl) rfl ?_)
  refine a09 (w := -1) (L' := [some (.ref 0), vvI i1, vvI i2, none, vvI q130.1, some (.int (i5 + (-1 : Int32))), vvI q105.1, vvI q130.1]) K.1 a5B.2.1.2 rfl (by decide) rfl ?_
  refine a0y (pc' := 89) K.1 a5B.2.2.1 (by decide) ?_
  exact a0n (hk89 _ _ _ _ _ h) (ls (ls (ls (ls (ls (ls (ln (ln l0))))))))
 refine a0p (pc' := 165) K.1 a5O.1.1.2 (by decide) ((flt hc98).2.1) ?_
 exact a0n (a6n K hw  h) (ls (ln (ln (ls (ls (ln (ls (ls l0))))))))
def a7s (NF : Nat)  : Nat → b5A
 | 0 => fun _ _ _ _ _ => none
 | n + 1 => fun i1 i2 i4 i5 σ => a6y NF  (a7s NF  n) i1 i2 i4 i5 σ
theorem b2i {NF : Nat} (K : a2t X Z a0 l n1 a h0) (hw : HW a0 Z) (n : Nat)  {r : Int32 × St}  : ∀ (i1 i2 : Int32) (i4 i5 : Int32) (σ : St) (h : a7s NF  n i1 i2 i4 i5 σ = some r), Go X (vvI r.1, (r.2, 24)) 89 [some (.ref 0), vvI i1, vvI i2, none, vvI i4, vvI i5, none, none] [] (σ, 24) := by
 induction n with
 | zero => intro i1 i2 i4 i5 σ h; cases h
 | succ n ih => intro i1 i2 i4 i5 σ h; exact b2m (NF := NF) K hw  ih h
def a39 (NF : Nat)  (i1 i2 i3 : Int32) (σ : St) : Option (Int32 × St) :=
 ((a2j σ i2 (i3 - 1)).bind fun q71 => (if q71.1 < 0 then (some (q71.1, q71.2)) else a7s NF NF i1 i2 q71.1 (i3 - 2) q71.2))
theorem a6S {NF : Nat} (K : a2t X Z a0 l n1 a h0) (hw : HW a0 Z)  {i1 i2 i3 : Int32} {σ : St} {r : Int32 × St}  (h : a39 NF  i1 i2 i3 σ = some r) : Go X (vvI r.1, (r.2, 24)) 66 [some (.ref 0), vvI i1, vvI i2, vvI i3, none, none, none, none] [] (σ, 24) := by
 unfold a39 at h
 refine a0a K.1 a7C.1.1.1 rfl (a0b K.1 a7C.1.1.2 rfl (a0b K.1 a7C.1.2.1 rfl ?_))
 refine a0c (v := 1) K.1 a7C.1.2.2 (by decide) ?_
 refine a1l K.1 a7C.2.1.1 ?_
 obtain ⟨q71, hq71, h⟩ := bsq h
 refine a0g (vs := [.int i2, .int (i3 - 1)]) K a7C.2.1.2 (b9u hw) (b81 hw) (b89 hw) (b9y hw) hyC b4S rfl rfl (a43 l Z a0 hw n1 a (a0i K) hq71) rfl (nbq rfl) (nbq rfl) rfl rfl (a0q (L' := [some (.ref 0), vvI i1, vvI i2, vvI i3, vvI q71.1, none, none, none]) K.1 a7C.2.2.1 (blt rfl) rfl (a0f K.1 a7C.2.2.2 rfl ?_))
 rcases ifs h with ⟨hc78, h⟩ | ⟨hc78, h⟩
 ·refine a0t K.1 a4J.1.1.1 ((if0 _ _).trans (tlt hc78).2.1) (a0f K.1 a7p.2.2.1 rfl ?_)
  cases h; exact a0e K.1 a7p.2.2.2 (a0w K)
 refine a0u (pc' := 84) K.1 a4J.1.1.1 (by decide) ((if0 _ _).trans (flt hc78).2.1) ?_
 refine a0b K.1 a4J.1.1.2 rfl ?_
 refine a0c (v := 2) K.1 a4J.1.2.1 (by decide) ?_
 refine a1l K.1 a4J.1.2.2 (a0q (L' := [some (.ref 0), vvI i1, vvI i2, vvI i3, vvI q71.1, some (.int (i3 - 2)), none, none]) K.1 a4J.2.1.1 (blt rfl) rfl ?_)
 exact a0n (b2i K hw NF  _ _ _ _ _ h) (ls (ls (ls (ln (ls (ls (ls (ls l0))))))))
def b13 (NF : Nat) (σ : St) (v1 v2 : Int32) : Option (Int32 × St) :=
 ((a0Y σ v2).bind fun q2 => (if q2.1 = 0 then (some ((-5 : Int32), q2.2)) else (if 0 ≤ (v2).toInt ∧ (v2).toInt < 1024 then (if (gA q2.2 2 (v2).toInt) = 0 then (if v1 = 43 then a3O NF q2.2 else (if v1 = 45 then a3O NF q2.2 else (if v1 = 42 then ((a20 q2.2 (1 : Int32)).bind fun q48 => (some (q48.1, q48.2))) else (some ((-4 : Int32), q2.2))))) else (if 8 < (gA q2.2 2 (v2).toInt) then a39 NF v1 v2 (8 : Int32) q2.2 else a39 NF v1 v2 (gA q2.2 2 (v2).toInt) q2.2)) else none)))
theorem b4G {NF : Nat} (K : a2t X Z a0 l n1 a h0) (hw : HW a0 Z) {σ : St} {v1 v2 : Int32} {r : Int32 × St} (h : b13 NF σ v1 v2 = some r) : Go X (vvI r.1, (r.2, 24)) 0 [some (.ref 0), vvI v1, vvI v2, none, none, none, none, none] [] (σ, 24) := by
 unfold b13 at h
 refine a0a K.1 a9V.1.1.1 rfl (a0b K.1 a9V.1.1.2 rfl ?_)
 obtain ⟨q2, hq2, h⟩ := bsq h
 refine a0g (vs := [.int v2]) K a9V.1.2.1 (b29 hw) (b27 hw) (b2O hw) (b2Q hw) hyC a1D rfl rfl (a0x l Z a0 hw n1 a (a0i K) hq2) rfl (nbq rfl) (nbq rfl) rfl rfl ?_
 rcases ifs h with ⟨hc5, h⟩ | ⟨hc5, h⟩
 ·refine a0t K.1 a9V.1.2.2 ((if0 _ _).trans (teq hc5).2) ?_
  refine a0d (v := -5) K.1 b2K.2.1 (by decide) ?_
  cases h; exact a0e K.1 b2K.2.2 (a0w K)
 refine a0u (pc' := 11) K.1 a9V.1.2.2 (by decide) ((if0 _ _).trans (feq hc5).2) ?_
 refine a0a K.1 a9V.2.1.1 rfl (a0k K a9V.2.1.2 (w16 hw) a0L rfl (a0b K.1 a9V.2.2.1 rfl ?_))
 obtain ⟨hc16, h⟩ := ifn h
 refine a0j K a9V.2.2.2 a0K rfl hc16 (a0m (L' := [some (.ref 0), vvI v1, vvI v2, some (.int (gA q2.2 2 (v2).toInt)), none, none, none, none]) K.1 a81.1.1.1 (blt rfl) rfl (a0b K.1 a81.1.1.2 rfl ?_))
 rcases ifs h with ⟨hc19, h⟩ | ⟨hc19, h⟩
 ·refine a0t K.1 a81.1.2.1 ((if0 _ _).trans (teq hc19).2) (a0b K.1 a4d.1.1.1 rfl ?_)
  refine a0d (v := 43) K.1 a4d.1.1.2 (by decide) ?_
  rcases ifs h with ⟨hc25, h⟩ | ⟨hc25, h⟩
  ·refine a0p (pc' := 34) K.1 a4d.1.2.1 (by decide) ((teq hc25).1) ?_
   exact a0n (a7y K hw  h) (ls (ln (ln (ln (ls (ls (ls (ls l0))))))))
  refine a0o K.1 a4d.1.2.1 ((feq hc25).1) (a0b K.1 a4d.1.2.2 rfl ?_)
  refine a0d (v := 45) K.1 a4d.2.1.1 (by decide) ?_
  rcases ifs h with ⟨hc31, h⟩ | ⟨hc31, h⟩
  ·refine a0o K.1 a4d.2.1.2 ((teq hc31).2) ?_
   exact a0n (a7y K hw  h) (ls (ln (ln (ln (ls (ls (ls (ls l0))))))))
  refine a0p (pc' := 40) K.1 a4d.2.1.2 (by decide) ((feq hc31).2) ?_
  refine a0b K.1 a4d.2.2.1 rfl ?_
  refine a0d (v := 42) K.1 a4d.2.2.2 (by decide) ?_
  rcases ifs h with ⟨hc43, h⟩ | ⟨hc43, h⟩
  ·refine a0o K.1 a4p.1.1.1 ((teq hc43).2) (a0a K.1 a4p.1.2.1 rfl ?_)
   refine a0c (v := 1) K.1 a4p.1.2.2 (by decide) ?_
   obtain ⟨q48, hq48, h⟩ := bsq h
   refine a0g (vs := [.int (1 : Int32)]) K a4p.2.1.1 (b7j hw) (b7f hw) (b7m hw) (b7e hw) hyC a3e rfl rfl (a1T l Z a0 hw n1 a (a0i K) hq48) rfl (nbq rfl) (nbq rfl) rfl rfl ?_
   refine a0y (pc' := 56) K.1 a4p.2.1.2 (by decide) ?_
   cases h; exact a0e K.1 a4p.2.2.1 (a0w K)
  refine a0p (pc' := 54) K.1 a4p.1.1.1 (by decide) ((feq hc43).2) ?_
  refine a0d (v := -4) K.1 a4p.1.1.2 (by decide) ?_
  cases h; exact a0e K.1 a4p.2.2.1 (a0w K)
 refine a0u (pc' := 57) K.1 a81.1.2.1 (by decide) ((if0 _ _).trans (feq hc19).2) ?_
 refine a0b K.1 a81.1.2.2 rfl ?_
 refine a0d (v := 8) K.1 a81.2.1.1 (by decide) ?_
 rcases ifs h with ⟨hc60, h⟩ | ⟨hc60, h⟩
 ·refine a0o K.1 a81.2.1.2 ((tlt hc60).2.2.2) ?_
  refine a0d (v := 8) K.1 a81.2.2.1 (by decide) ?_
  refine a0m (L' := [some (.ref 0), vvI v1, vvI v2, some (.int (8 : Int32)), none, none, none, none]) K.1 a81.2.2.2 (blt rfl) rfl ?_
  exact a6S K hw  h
 refine a0p (pc' := 66) K.1 a81.2.1.2 (by decide) ((flt hc60).2.2.2) ?_
 exact a6S K hw  h
theorem b34 (l : Launch) (Z : State) (a0 : Array Value) (hw : HW a0 Z) (n1 : Nat) (a : Addr) (ha : n1 ≤ a) {NF : Nat} {σ : St} {v1 v2 : Int32} {r : Int32 × St} (h : b13 NF σ v1 v2 = some r) : Con l Z cC cFS cFA 24 n1 a ⟨cC, "reduce", "(II)I"⟩ c55 8 (some .int) ⟨6, 0, 0, 95⟩ [.ref 0, .int v1, .int v2] σ (some (.int r.1)) r.2 :=
 a0l pnC rfl (a1m hw) a0E ha (fun X h1 K => b4G K hw h)
abbrev a9s := KKQ ⟨3, 0, 0, 46⟩ "negate" c58 6 (some .int)
def a64 (NF : Nat) (k34 : b5A) (i1 i2 : Int32) (i3 i4 : Int32) (σ : St) : Option (Int32 × St) :=
 (if i4 < i3 then (if i4 < 8 then (if 0 ≤ (((i1 * 8) + i4)).toInt ∧ (((i1 * 8) + i4)).toInt < 8192 then ((a04 σ i2 (-(gA σ 6 (((i1 * 8) + i4)).toInt))).bind fun q66 => k34 i1 i2 i3 (i4 + 1) q66) else none) else (some (i2, σ))) else (some (i2, σ)))
theorem b2a {NF : Nat} (K : a9s X Z a0 l n1 a h0) (hw : HW a0 Z) {k34 : Int32 → Int32 → Int32 → Int32 → St → Option (Int32 × St)} {i1 i2 : Int32} {i3 i4 : Int32} {σ : St} {r : Int32 × St} (hk34 : ∀ (i1 i2 : Int32) (i3 i4 : Int32) (σ : St) (h : k34 i1 i2 i3 i4 σ = some r), Go X (vvI r.1, (r.2, 24)) 34 [some (.ref 0), vvI i1, vvI i2, vvI i3, vvI i4, none] [] (σ, 24)) (h : a64 NF k34 i1 i2 i3 i4 σ = some r) : Go X (vvI r.1, (r.2, 24)) 34 [some (.ref 0), vvI i1, vvI i2, vvI i3, vvI i4, none] [] (σ, 24) := by
 unfold a64 at h
 refine a0f K.1 a4F.1.2.1 rfl (a0b K.1 a4F.1.2.2 rfl ?_)
 rcases ifs h with ⟨hc37, h⟩ | ⟨hc37, h⟩
 ·refine a0o K.1 a4F.2.1.1 ((tlt hc37).2.1) (a0f K.1 a4F.2.1.2 rfl ?_)
  refine a0d (v := 8) K.1 a4F.2.2.1 (by decide) ?_
  rcases ifs h with ⟨hc44, h⟩ | ⟨hc44, h⟩
  ·refine a0o K.1 a4F.2.2.2 ((tlt hc44).2.1) (a0a K.1 a4A.1.2.1 rfl (a0k K a4A.1.2.2 (w24 hw) a4a rfl (a0b K.1 a4A.2.1.1 rfl ?_)))
   refine a0d (v := 8) K.1 a4A.2.1.2 (by decide) ?_
   refine b0a K.1 a4A.2.2.1 (a0f K.1 a4A.2.2.2 rfl (a0z K.1 a7L.1.1.1 ?_))
   obtain ⟨hc58, h⟩ := ifn h
   refine a0j K a7L.1.1.2 a3N rfl hc58 (a0q (L' := [some (.ref 0), vvI i1, vvI i2, vvI i3, vvI i4, some (.int (gA σ 6 (((i1 * 8) + i4)).toInt))]) K.1 a7L.1.2.1 (blt rfl) rfl (a0a K.1 a7L.1.2.2 rfl (a0b K.1 a7L.2.1.1 rfl (a0f K.1 a7L.2.1.2 rfl (b42 K.1 a7L.2.2.1 ?_)))))
   obtain ⟨q66, hq66, h⟩ := bsq h
   refine a0g (vs := [.int i2, .int (-(gA σ 6 (((i1 * 8) + i4)).toInt))]) K a7L.2.2.2 (b7c hw) (b60 hw) (b7a hw) (b7g hw) hyC b6i rfl rfl (a01 l Z a0 hw n1 a (a0i K) hq66) rfl (nbq rfl) (nbq rfl) rfl rfl ?_
   refine a09 (w := 1) (L' := [some (.ref 0), vvI i1, vvI i2, vvI i3, some (.int (i4 + 1)), some (.int (gA σ 6 (((i1 * 8) + i4)).toInt))]) K.1 b0P.1.1.1 rfl (by decide) rfl ?_
   refine a0y (pc' := 34) K.1 b0P.1.1.2 (by decide) ?_
   exact a0n (hk34 _ _ _ _ _ h) (ls (ls (ls (ls (ls (ln l0))))))
  refine a0p (pc' := 75) K.1 a4F.2.2.2 (by decide) ((flt hc44).2.1) ?_
  refine a0b K.1 a4A.1.1.1 rfl ?_
  cases h; exact a0e K.1 a4A.1.1.2 (a0w K)
 refine a0p (pc' := 75) K.1 a4F.2.1.1 (by decide) ((flt hc37).2.1) ?_
 refine a0b K.1 a4A.1.1.1 rfl ?_
 cases h; exact a0e K.1 a4A.1.1.2 (a0w K)
def a6P (NF : Nat)  : Nat → b5A
 | 0 => fun _ _ _ _ _ => none
 | n + 1 => fun i1 i2 i3 i4 σ => a64 NF  (a6P NF  n) i1 i2 i3 i4 σ
theorem b2L {NF : Nat} (K : a9s X Z a0 l n1 a h0) (hw : HW a0 Z) (n : Nat)  {r : Int32 × St}  : ∀ (i1 i2 : Int32) (i3 i4 : Int32) (σ : St) (h : a6P NF  n i1 i2 i3 i4 σ = some r), Go X (vvI r.1, (r.2, 24)) 34 [some (.ref 0), vvI i1, vvI i2, vvI i3, vvI i4, none] [] (σ, 24) := by
 induction n with
 | zero => intro i1 i2 i3 i4 σ h; cases h
 | succ n ih => intro i1 i2 i3 i4 σ h; exact b2a (NF := NF) K hw  ih h
def b14 (NF : Nat) (σ : St) (v1 : Int32) : Option (Int32 × St) :=
 (if 0 ≤ (v1).toInt ∧ (v1).toInt < 1024 then (if 1 < (gA σ 5 (v1).toInt) then (some ((-3 : Int32), σ)) else ((a6e σ).bind fun q14 => (if q14.1 < 0 then (some (q14.1, q14.2)) else (if 0 ≤ (v1).toInt ∧ (v1).toInt < 1024 then a6P NF NF v1 q14.1 (gA q14.2 2 (v1).toInt) (0 : Int32) q14.2 else none)))) else none)
theorem b4y {NF : Nat} (K : a9s X Z a0 l n1 a h0) (hw : HW a0 Z) {σ : St} {v1 : Int32} {r : Int32 × St} (h : b14 NF σ v1 = some r) : Go X (vvI r.1, (r.2, 24)) 0 [some (.ref 0), vvI v1, none, none, none, none] [] (σ, 24) := by
 unfold b14 at h
 refine a0a K.1 b0k.1.1.1 rfl (a0k K b0k.1.1.2 (w22 hw) a1r rfl (a0b K.1 b0k.1.2.1 rfl ?_))
 obtain ⟨hc5, h⟩ := ifn h
 refine a0j K b0k.1.2.2 a1n rfl hc5 ?_
 refine a0c (v := 1) K.1 b0k.2.1.1 (by decide) ?_
 rcases ifs h with ⟨hc7, h⟩ | ⟨hc7, h⟩
 ·refine a0o K.1 b0k.2.1.2 ((tlt hc7).2.2.2) ?_
  refine a0d (v := -3) K.1 b0P.2.1.2 (by decide) ?_
  cases h; exact a0e K.1 b0P.2.2 (a0w K)
 refine a0p (pc' := 13) K.1 b0k.2.1.2 (by decide) ((flt hc7).2.2.2) ?_
 refine a0a K.1 b0k.2.2.1 rfl ?_
 obtain ⟨q14, hq14, h⟩ := bsq h
 refine a0g (vs := []) K b0k.2.2.2 (b63 hw) (b68 hw) (b66 hw) (b62 hw) hyC b6b rfl rfl (a2s l Z a0 hw n1 a (a0i K) hq14) rfl (nbq rfl) (nbq rfl) rfl rfl (a0m (L' := [some (.ref 0), vvI v1, vvI q14.1, none, none, none]) K.1 a9N.1.1.1 (blt rfl) rfl (a0b K.1 a9N.1.1.2 rfl ?_))
 rcases ifs h with ⟨hc19, h⟩ | ⟨hc19, h⟩
 ·refine a0t K.1 a9N.1.2.1 ((if0 _ _).trans (tlt hc19).2.1) (a0b K.1 b0P.1.2 rfl ?_)
  cases h; exact a0e K.1 b0P.2.1.1 (a0w K)
 refine a0u (pc' := 24) K.1 a9N.1.2.1 (by decide) ((if0 _ _).trans (flt hc19).2.1) ?_
 refine a0a K.1 a9N.1.2.2 rfl (a0k K a9N.2.1.1 (w16 hw) a0L rfl (a0b K.1 a9N.2.1.2 rfl ?_))
 obtain ⟨hc29, h⟩ := ifn h
 refine a0j K a9N.2.2.1 a0K rfl hc29 (a0m (L' := [some (.ref 0), vvI v1, vvI q14.1, some (.int (gA q14.2 2 (v1).toInt)), none, none]) K.1 a9N.2.2.2 (blt rfl) rfl ?_)
 refine a0c (v := 0) K.1 a4F.1.1.1 (by decide) ?_
 refine a0q (L' := [some (.ref 0), vvI v1, vvI q14.1, some (.int (gA q14.2 2 (v1).toInt)), some (.int (0 : Int32)), none]) K.1 a4F.1.1.2 (blt rfl) rfl ?_
 exact b2L K hw NF  _ _ _ _ _ h
theorem b4q (l : Launch) (Z : State) (a0 : Array Value) (hw : HW a0 Z) (n1 : Nat) (a : Addr) (ha : n1 ≤ a) {NF : Nat} {σ : St} {v1 : Int32} {r : Int32 × St} (h : b14 NF σ v1 = some r) : Con l Z cC cFS cFA 24 n1 a ⟨cC, "negate", "(I)I"⟩ c58 6 (some .int) ⟨3, 0, 0, 46⟩ [.ref 0, .int v1] σ (some (.int r.1)) r.2 :=
 a0l pnC rfl (a1m hw) a0E ha (fun X h1 K => b4y K hw h)
abbrev b5b := KKQ ⟨0, 0, 0, 0⟩ "boxOf" c60 2 (some .int)
def b3V (σ : St) (v1 : Int32) : Option (Int32 × St) :=
 (some ((100000 + v1), σ))
theorem b5r (K : b5b X Z a0 l n1 a h0) (hw : HW a0 Z) {σ : St} {v1 : Int32} {r : Int32 × St} (h : b3V σ v1 = some r) : Go X (vvI r.1, (r.2, 24)) 0 [some (.ref 0), vvI v1] [] (σ, 24) := by
 unfold b3V at h
 refine b5U K.1 b44.1.1 (b8b hw) (a0b K.1 b44.1.2 rfl (a0z K.1 b44.2.1 ?_))
 cases h; exact a0e K.1 b44.2.2 (a0w K)
theorem b4w (l : Launch) (Z : State) (a0 : Array Value) (hw : HW a0 Z) (n1 : Nat) (a : Addr) (ha : n1 ≤ a) {σ : St} {v1 : Int32} {r : Int32 × St} (h : b3V σ v1 = some r) : Con l Z cC cFS cFA 24 n1 a ⟨cC, "boxOf", "(I)I"⟩ c60 2 (some .int) ⟨0, 0, 0, 0⟩ [.ref 0, .int v1] σ (some (.int r.1)) r.2 :=
 a0l pnC rfl (a1m hw) a0E ha (fun X h1 K => b5r K hw h)
abbrev b32 := KKQ ⟨3, 0, 0, 46⟩ "enclose" c59 4 (some .int)
def b0G (σ : St) (v1 : Int32) : Option (Int32 × St) :=
 (if 0 ≤ (v1).toInt ∧ (v1).toInt < 1024 then (if (gI σ 115) < (1 + (gA σ 4 (v1).toInt)) then (some ((-5 : Int32), σ)) else ((a6e σ).bind fun q19 => (if q19.1 < 0 then (some (q19.1, q19.2)) else ((a3S q19.2 v1).bind fun q31 => ((b3V q31 v1).bind fun q36 => ((a04 q36.2 q19.1 q36.1).bind fun q43 => (some (q19.1, q43)))))))) else none)
theorem b4p (K : b32 X Z a0 l n1 a h0) (hw : HW a0 Z) {σ : St} {v1 : Int32} {r : Int32 × St} (h : b0G σ v1 = some r) : Go X (vvI r.1, (r.2, 24)) 0 [some (.ref 0), vvI v1, none, none] [] (σ, 24) := by
 unfold b0G at h
 refine a0c (v := 1) K.1 b1k.1.1.1 (by decide) ?_
 refine a0a K.1 b1k.1.1.2 rfl (a0k K b1k.1.2.1 (w20 hw) a1N rfl (a0b K.1 b1k.1.2.2 rfl ?_))
 obtain ⟨hc6, h⟩ := ifn h
 refine a0j K b1k.2.1.1 a1B rfl hc6 (a0z K.1 b1k.2.1.2 (a0a K.1 b1k.2.2.1 rfl (a0s K b1k.2.2.2 (w69 hw) a8D ?_)))
 rcases ifs h with ⟨hc12, h⟩ | ⟨hc12, h⟩
 ·refine a0o K.1 a8T.1.1.1 ((tlt hc12).2.2.2) ?_
  refine a0d (v := -5) K.1 a9o.2.1.2 (by decide) ?_
  cases h; exact a0e K.1 a9o.2.2 (a0w K)
 refine a0p (pc' := 18) K.1 a8T.1.1.1 (by decide) ((flt hc12).2.2.2) ?_
 refine a0a K.1 a8T.1.1.2 rfl ?_
 obtain ⟨q19, hq19, h⟩ := bsq h
 refine a0g (vs := []) K a8T.1.2.1 (b63 hw) (b68 hw) (b66 hw) (b62 hw) hyC b6b rfl rfl (a2s l Z a0 hw n1 a (a0i K) hq19) rfl (nbq rfl) (nbq rfl) rfl rfl (a0m (L' := [some (.ref 0), vvI v1, vvI q19.1, none]) K.1 a8T.1.2.2 (blt rfl) rfl (a0b K.1 a8T.2.1.1 rfl ?_))
 rcases ifs h with ⟨hc24, h⟩ | ⟨hc24, h⟩
 ·refine a0t K.1 a8T.2.1.2 ((if0 _ _).trans (tlt hc24).2.1) (a0b K.1 a9o.1.2.2 rfl ?_)
  cases h; exact a0e K.1 a9o.2.1.1 (a0w K)
 refine a0u (pc' := 29) K.1 a8T.2.1.2 (by decide) ((if0 _ _).trans (flt hc24).2.1) ?_
 refine a0a K.1 a8T.2.2.1 rfl (a0b K.1 a8T.2.2.2 rfl ?_)
 obtain ⟨q31, hq31, h⟩ := bsq h
 refine a0g (vs := [.int v1]) K a7X.1.1.1 (b7H hw) (b7p hw) (b7D hw) (b7q hw) hyC a9E rfl rfl (a2H l Z a0 hw n1 a (a0i K) hq31) rfl (nbq rfl) (nbq rfl) rfl rfl (a0a K.1 a7X.1.1.2 rfl (a0b K.1 a7X.1.2.1 rfl ?_))
 obtain ⟨q36, hq36, h⟩ := bsq h
 refine a0g (vs := [.int v1]) K a7X.1.2.2 (c1e hw) (c1k hw) (c1m hw) (c1V hw) hyC a3e rfl rfl (b4w l Z a0 hw n1 a (a0i K) hq36) rfl (nbq rfl) (nbq rfl) rfl rfl (a0m (L' := [some (.ref 0), vvI v1, vvI q19.1, vvI q36.1]) K.1 a7X.2.1.1 (blt rfl) rfl (a0a K.1 a7X.2.1.2 rfl (a0b K.1 a7X.2.2.1 rfl (a0b K.1 a7X.2.2.2 rfl ?_))))
 obtain ⟨q43, hq43, h⟩ := bsq h
 refine a0g (vs := [.int q19.1, .int q36.1]) K a9o.1.1.1 (b7c hw) (b60 hw) (b7a hw) (b7g hw) hyC b6i rfl rfl (a01 l Z a0 hw n1 a (a0i K) hq43) rfl (nbq rfl) (nbq rfl) rfl rfl (a0b K.1 a9o.1.1.2 rfl ?_)
 cases h; exact a0e K.1 a9o.1.2.1 (a0w K)
theorem b3P (l : Launch) (Z : State) (a0 : Array Value) (hw : HW a0 Z) (n1 : Nat) (a : Addr) (ha : n1 ≤ a) {σ : St} {v1 : Int32} {r : Int32 × St} (h : b0G σ v1 = some r) : Con l Z cC cFS cFA 24 n1 a ⟨cC, "enclose", "(I)I"⟩ c59 4 (some .int) ⟨3, 0, 0, 46⟩ [.ref 0, .int v1] σ (some (.int r.1)) r.2 :=
 a0l pnC rfl (a1m hw) a0E ha (fun X h1 K => b4p K hw h)
abbrev b1d := KKQ ⟨4, 0, 0, 63⟩ "monadic" c57 4 (some .int)
def a1j (NF : Nat)  (i3 : Int32) (σ : St) : Option (Int32 × St) :=
 ((a1C NF σ i3).bind fun q104 => (some (q104.1, q104.2)))
theorem a1t {NF : Nat} (K : b1d X Z a0 l n1 a h0) (hw : HW a0 Z)  {i3 : Int32} {σ : St} {r : Int32 × St}  (h : a1j NF  i3 σ = some r) : Go X (vvI r.1, (r.2, 24)) 102 [some (.ref 0), none, none, vvI i3] [] (σ, 24) := by
 unfold a1j at h
 refine a0a K.1 a9t.1.1.2 rfl (a0b K.1 a9t.1.2.1 rfl ?_)
 obtain ⟨q104, hq104, h⟩ := bsq h
 refine a0g (vs := [.int i3]) K a9t.1.2.2 (b8f hw) (b8y hw) (b8r hw) (b8u hw) hyC a3e rfl rfl (a2w l Z a0 hw n1 a (a0i K) hq104) rfl (nbq rfl) (nbq rfl) rfl rfl ?_
 cases h; exact a0e K.1 a9t.2.1.1 (a0w K)
def b0g (NF : Nat) (σ : St) (v1 v2 : Int32) : Option (Int32 × St) :=
 ((a0Y σ v2).bind fun q2 => (if q2.1 = 0 then (some ((-5 : Int32), q2.2)) else (if v1 = 45 then ((b14 NF q2.2 v2).bind fun q19 => a1j NF q19.1 q19.2) else (if v1 = 60 then ((b0G q2.2 v2).bind fun q34 => a1j NF q34.1 q34.2) else (if v1 = 62 then none else (if v1 = 61 then (if 0 ≤ (v2).toInt ∧ (v2).toInt < 1024 then ((a20 q2.2 (gA q2.2 5 (v2).toInt)).bind fun q69 => a1j NF q69.1 q69.2) else none) else (if v1 = 35 then (if 0 ≤ (v2).toInt ∧ (v2).toInt < 1024 then ((a20 q2.2 (gA q2.2 2 (v2).toInt)).bind fun q89 => a1j NF q89.1 q89.2) else none) else none)))))))
theorem b36 {NF : Nat} (K : b1d X Z a0 l n1 a h0) (hw : HW a0 Z) {σ : St} {v1 v2 : Int32} {r : Int32 × St} (h : b0g NF σ v1 v2 = some r) : Go X (vvI r.1, (r.2, 24)) 0 [some (.ref 0), vvI v1, vvI v2, none] [] (σ, 24) := by
 unfold b0g at h
 refine a0a K.1 a83.1.1.1 rfl (a0b K.1 a83.1.1.2 rfl ?_)
 obtain ⟨q2, hq2, h⟩ := bsq h
 refine a0g (vs := [.int v2]) K a83.1.2.1 (b29 hw) (b27 hw) (b2O hw) (b2Q hw) hyC a1D rfl rfl (a0x l Z a0 hw n1 a (a0i K) hq2) rfl (nbq rfl) (nbq rfl) rfl rfl ?_
 rcases ifs h with ⟨hc5, h⟩ | ⟨hc5, h⟩
 ·refine a0t K.1 a83.1.2.2 ((if0 _ _).trans (teq hc5).2) ?_
  refine a0d (v := -5) K.1 a9t.2.1.2 (by decide) ?_
  cases h; exact a0e K.1 a9t.2.2 (a0w K)
 refine a0u (pc' := 11) K.1 a83.1.2.2 (by decide) ((if0 _ _).trans (feq hc5).2) ?_
 refine a0b K.1 a83.2.1.1 rfl ?_
 refine a0d (v := 45) K.1 a83.2.1.2 (by decide) ?_
 rcases ifs h with ⟨hc14, h⟩ | ⟨hc14, h⟩
 ·refine a0o K.1 a83.2.2.1 ((teq hc14).2) (a0a K.1 a7t.2.1.1 rfl (a0b K.1 a7t.2.1.2 rfl ?_))
  obtain ⟨q19, hq19, h⟩ := bsq h
  refine a0g (vs := [.int v2]) K a7t.2.2.1 (b9L hw) (b9Z hw) (c04 hw) (c1s hw) hyC a3e rfl rfl (b4q l Z a0 hw n1 a (a0i K) hq19) rfl (nbq rfl) (nbq rfl) rfl rfl (a0m (L' := [some (.ref 0), vvI v1, vvI v2, vvI q19.1]) K.1 a7t.2.2.2 (blt rfl) rfl ?_)
  refine a0y (pc' := 102) K.1 a9t.1.1.1 (by decide) ?_
  exact a0n (a1t K hw  h) (ls (ln (ln (ls l0))))
 refine a0p (pc' := 26) K.1 a83.2.2.1 (by decide) ((feq hc14).2) ?_
 refine a0b K.1 a83.2.2.2 rfl ?_
 refine a0d (v := 60) K.1 a67.1.1.1 (by decide) ?_
 rcases ifs h with ⟨hc29, h⟩ | ⟨hc29, h⟩
 ·refine a0o K.1 a67.1.1.2 ((teq hc29).2) (a0a K.1 a6Z.2.2.2 rfl (a0b K.1 a7t.1.1.1 rfl ?_))
  obtain ⟨q34, hq34, h⟩ := bsq h
  refine a0g (vs := [.int v2]) K a7t.1.1.2 (b94 hw) (c02 hw) (b9O hw) (b9T hw) hyC a3e rfl rfl (b3P l Z a0 hw n1 a (a0i K) hq34) rfl (nbq rfl) (nbq rfl) rfl rfl (a0m (L' := [some (.ref 0), vvI v1, vvI v2, vvI q34.1]) K.1 a7t.1.2.1 (blt rfl) rfl ?_)
  refine a0y (pc' := 102) K.1 a7t.1.2.2 (by decide) ?_
  exact a0n (a1t K hw  h) (ls (ln (ln (ls l0))))
 refine a0p (pc' := 41) K.1 a67.1.1.2 (by decide) ((feq hc29).2) ?_
 refine a0b K.1 a67.1.2.1 rfl ?_
 refine a0d (v := 62) K.1 a67.1.2.2 (by decide) ?_
 rcases ifs h with ⟨hc44, h⟩ | ⟨hc44, h⟩
 ·refine a0o K.1 a67.2.1.1 ((teq hc44).2) (a0a K.1 a6Z.2.1.2 rfl (a0b K.1 a6Z.2.2.1 rfl ?_))
  cases h
 refine a0p (pc' := 56) K.1 a67.2.1.1 (by decide) ((feq hc44).2) ?_
 refine a0b K.1 a67.2.1.2 rfl ?_
 refine a0d (v := 61) K.1 a67.2.2.1 (by decide) ?_
 rcases ifs h with ⟨hc59, h⟩ | ⟨hc59, h⟩
 ·refine a0o K.1 a67.2.2.2 ((teq hc59).2) (a0a K.1 a7F.2.1.2 rfl (a0a K.1 a7F.2.2.1 rfl (a0k K a7F.2.2.2 (w22 hw) a1r rfl (a0b K.1 a6Z.1.1.1 rfl ?_))))
  obtain ⟨hc68, h⟩ := ifn h
  refine a0j K a6Z.1.1.2 a1n rfl hc68 ?_
  obtain ⟨q69, hq69, h⟩ := bsq h
  refine a0g (vs := [.int (gA q2.2 5 (v2).toInt)]) K a6Z.1.2.1 (b7j hw) (b7f hw) (b7m hw) (b7e hw) hyC a3e rfl rfl (a1T l Z a0 hw n1 a (a0i K) hq69) rfl (nbq rfl) (nbq rfl) rfl rfl (a0m (L' := [some (.ref 0), vvI v1, vvI v2, vvI q69.1]) K.1 a6Z.1.2.2 (blt rfl) rfl ?_)
  refine a0y (pc' := 102) K.1 a6Z.2.1.1 (by decide) ?_
  exact a0n (a1t K hw  h) (ls (ln (ln (ls l0))))
 refine a0p (pc' := 76) K.1 a67.2.2.2 (by decide) ((feq hc59).2) ?_
 refine a0b K.1 a6g.1.1.1 rfl ?_
 refine a0d (v := 35) K.1 a6g.1.1.2 (by decide) ?_
 rcases ifs h with ⟨hc79, h⟩ | ⟨hc79, h⟩
 ·refine a0o K.1 a6g.1.2.1 ((teq hc79).2) (a0a K.1 a6g.2.1.2 rfl (a0a K.1 a6g.2.2.1 rfl (a0k K a6g.2.2.2 (w16 hw) a0L rfl (a0b K.1 a7F.1.1.1 rfl ?_))))
  obtain ⟨hc88, h⟩ := ifn h
  refine a0j K a7F.1.1.2 a0K rfl hc88 ?_
  obtain ⟨q89, hq89, h⟩ := bsq h
  refine a0g (vs := [.int (gA q2.2 2 (v2).toInt)]) K a7F.1.2.1 (b7j hw) (b7f hw) (b7m hw) (b7e hw) hyC a3e rfl rfl (a1T l Z a0 hw n1 a (a0i K) hq89) rfl (nbq rfl) (nbq rfl) rfl rfl (a0m (L' := [some (.ref 0), vvI v1, vvI v2, vvI q89.1]) K.1 a7F.1.2.2 (blt rfl) rfl ?_)
  refine a0y (pc' := 102) K.1 a7F.2.1.1 (by decide) ?_
  exact a0n (a1t K hw  h) (ls (ln (ln (ls l0))))
 refine a0p (pc' := 96) K.1 a6g.1.2.1 (by decide) ((feq hc79).2) ?_
 refine a0a K.1 a6g.1.2.2 rfl (a0b K.1 a6g.2.1.1 rfl ?_)
 cases h
theorem b3U (l : Launch) (Z : State) (a0 : Array Value) (hw : HW a0 Z) (n1 : Nat) (a : Addr) (ha : n1 ≤ a) {NF : Nat} {σ : St} {v1 v2 : Int32} {r : Int32 × St} (h : b0g NF σ v1 v2 = some r) : Con l Z cC cFS cFA 24 n1 a ⟨cC, "monadic", "(II)I"⟩ c57 4 (some .int) ⟨4, 0, 0, 63⟩ [.ref 0, .int v1, .int v2] σ (some (.int r.1)) r.2 :=
 a0l pnC rfl (a1m hw) a0E ha (fun X h1 K => b36 K hw h)
abbrev a84 := KKQ ⟨7, 0, 0, 114⟩ "applyNode" c39 7 (some .int)
def a1M (NF : Nat)  (i4 i5 : Int32) (σ : St) : Option (Int32 × St) :=
 ((a03 NF σ i4).bind fun q191 => (some (i5, q191)))
theorem a3D {NF : Nat} (K : a84 X Z a0 l n1 a h0) (hw : HW a0 Z)  {i4 i5 : Int32} {σ : St} {r : Int32 × St}  (h : a1M NF  i4 i5 σ = some r) : Go X (vvI r.1, (r.2, 24)) 188 [some (.ref 0), none, none, none, vvI i4, vvI i5, none] [] (σ, 24) := by
 unfold a1M at h
 refine a0a K.1 a6W.1.2.1 rfl (a0f K.1 a6W.1.2.2 rfl ?_)
 obtain ⟨q191, hq191, h⟩ := bsq h
 refine a0g (vs := [.int i4]) K a6W.2.1.1 (b59 hw) (b58 hw) (b5V hw) (b5Y hw) hyC a9E rfl rfl (a0Q l Z a0 hw n1 a (a0i K) hq191) rfl (nbq rfl) (nbq rfl) rfl rfl (a0f K.1 a6W.2.1.2 rfl ?_)
 cases h; exact a0e K.1 a6W.2.2.1 (a0w K)
def a5b (NF : Nat) (σ : St) (v1 : Int32) : Option (Int32 × St) :=
 (if 0 ≤ (v1).toInt ∧ (v1).toInt < 33 then (if 0 ≤ (v1).toInt ∧ (v1).toInt < 33 then (if (gA σ 12 (v1).toInt) = 100 then (if (gI σ 144) < 2 then (some ((-5 : Int32), σ)) else (if 40 < (gI σ 144) then (some ((-5 : Int32), σ)) else (if 0 ≤ (((gI σ 144) - 1)).toInt ∧ (((gI σ 144) - 1)).toInt < 40 then (if 0 ≤ (((gI σ 144) - 2)).toInt ∧ (((gI σ 144) - 2)).toInt < 40 then ((a9R NF (sI σ 144 ((gI σ 144) - 2)) (gA σ 13 (v1).toInt) (gA σ 19 (((gI σ 144) - 1)).toInt) (gA σ 19 (((gI σ 144) - 2)).toInt)).bind fun q82 => ((a03 NF q82.2 (gA σ 19 (((gI σ 144) - 1)).toInt)).bind fun q90 => ((a03 NF q90 (gA σ 19 (((gI σ 144) - 2)).toInt)).bind fun q96 => (some (q82.1, q96))))) else none) else none))) else (if (gI σ 144) < 1 then (some ((-5 : Int32), σ)) else (if 40 < (gI σ 144) then (some ((-5 : Int32), σ)) else (if 0 ≤ ((gI (sI σ 144 ((gI σ 144) - 1)) 144)).toInt ∧ ((gI (sI σ 144 ((gI σ 144) - 1)) 144)).toInt < 40 then (if (gA σ 12 (v1).toInt) = 126 then none else (if (gA σ 12 (v1).toInt) = 47 then ((b13 NF (sI σ 144 ((gI σ 144) - 1)) (gA σ 13 (v1).toInt) (gA (sI σ 144 ((gI σ 144) - 1)) 19 ((gI (sI σ 144 ((gI σ 144) - 1)) 144)).toInt)).bind fun q171 => a1M NF (gA (sI σ 144 ((gI σ 144) - 1)) 19 ((gI (sI σ 144 ((gI σ 144) - 1)) 144)).toInt) q171.1 q171.2) else ((b0g NF (sI σ 144 ((gI σ 144) - 1)) (gA σ 13 (v1).toInt) (gA (sI σ 144 ((gI σ 144) - 1)) 19 ((gI (sI σ 144 ((gI σ 144) - 1)) 144)).toInt)).bind fun q183 => a1M NF (gA (sI σ 144 ((gI σ 144) - 1)) 19 ((gI (sI σ 144 ((gI σ 144) - 1)) 144)).toInt) q183.1 q183.2))) else none)))) else none) else none)
theorem b25 {NF : Nat} (K : a84 X Z a0 l n1 a h0) (hw : HW a0 Z) {σ : St} {v1 : Int32} {r : Int32 × St} (h : a5b NF σ v1 = some r) : Go X (vvI r.1, (r.2, 24)) 0 [some (.ref 0), vvI v1, none, none, none, none, none] [] (σ, 24) := by
 unfold a5b at h
 refine a0a K.1 b1z.1.1.1 rfl (a0k K b1z.1.1.2 (w36 hw) a56 rfl (a0b K.1 b1z.1.2.1 rfl ?_))
 obtain ⟨hc5, h⟩ := ifn h
 refine a0j K b1z.1.2.2 a5t rfl hc5 (a0m (L' := [some (.ref 0), vvI v1, some (.int (gA σ 12 (v1).toInt)), none, none, none, none]) K.1 b1z.2.1.1 (blt rfl) rfl (a0a K.1 b1z.2.1.2 rfl (a0k K b1z.2.2.1 (w38 hw) b2D rfl (a0b K.1 b1z.2.2.2 rfl ?_))))
 obtain ⟨hc12, h⟩ := ifn h
 refine a0j K b0p.1.1.1 b2v rfl hc12 (a0m (L' := [some (.ref 0), vvI v1, some (.int (gA σ 12 (v1).toInt)), some (.int (gA σ 13 (v1).toInt)), none, none, none]) K.1 b0p.1.1.2 (blt rfl) rfl (a0b K.1 b0p.1.2.1 rfl ?_))
 refine a0d (v := 100) K.1 b0p.1.2.2 (by decide) ?_
 rcases ifs h with ⟨hc17, h⟩ | ⟨hc17, h⟩
 ·refine a0o K.1 b0p.2.1.1 ((teq hc17).2) (a0a K.1 a3g.2.1.1 rfl (a0s K a3g.2.1.2 (b3G hw) a1e ?_))
  refine a0c (v := 2) K.1 a3g.2.2.1 (by decide) ?_
  rcases ifs h with ⟨hc25, h⟩ | ⟨hc25, h⟩
  ·refine a0p (pc' := 37) K.1 a3g.2.2.2 (by decide) ((tlt hc25).1) ?_
   refine a0d (v := -5) K.1 b15.1 (by decide) ?_
   cases h; exact a0e K.1 b15.2 (a0w K)
  refine a0o K.1 a3g.2.2.2 ((flt hc25).1) (a0a K.1 a5V.1.1.1 rfl (a0s K a5V.1.1.2 (b3G hw) a1e ?_))
  refine a0d (v := 40) K.1 a5V.1.2.1 (by decide) ?_
  rcases ifs h with ⟨hc34, h⟩ | ⟨hc34, h⟩
  ·refine a0o K.1 a5V.1.2.2 ((tlt hc34).2.2.2) ?_
   refine a0d (v := -5) K.1 b15.1 (by decide) ?_
   cases h; exact a0e K.1 b15.2 (a0w K)
  refine a0p (pc' := 40) K.1 a5V.1.2.2 (by decide) ((flt hc34).2.2.2) ?_
  refine a0a K.1 a5V.2.1.1 rfl (a0k K a5V.2.1.2 (w50 hw) a4T rfl (a0a K.1 a5V.2.2.1 rfl (a0s K a5V.2.2.2 (b3G hw) a1e ?_)))
  refine a0c (v := 1) K.1 a8g.1.1.1 (by decide) ?_
  refine a1l K.1 a8g.1.1.2 ?_
  obtain ⟨hc50, h⟩ := ifn h
  refine a0j K a8g.1.2.1 a4X rfl hc50 (a0q (L' := [some (.ref 0), vvI v1, some (.int (gA σ 12 (v1).toInt)), some (.int (gA σ 13 (v1).toInt)), some (.int (gA σ 19 (((gI σ 144) - 1)).toInt)), none, none]) K.1 a8g.1.2.2 (blt rfl) rfl (a0a K.1 a8g.2.1.1 rfl (a0k K a8g.2.1.2 (w50 hw) a4T rfl (a0a K.1 a8g.2.2.1 rfl (a0s K a8g.2.2.2 (b3G hw) a1e ?_)))))
  refine a0c (v := 2) K.1 a6U.1.1.1 (by decide) ?_
  refine a1l K.1 a6U.1.1.2 ?_
  obtain ⟨hc63, h⟩ := ifn h
  refine a0j K a6U.1.2.1 a4X rfl hc63 (a0q (L' := [some (.ref 0), vvI v1, some (.int (gA σ 12 (v1).toInt)), some (.int (gA σ 13 (v1).toInt)), some (.int (gA σ 19 (((gI σ 144) - 1)).toInt)), some (.int (gA σ 19 (((gI σ 144) - 2)).toInt)), none]) K.1 a6U.1.2.2 (blt rfl) rfl (a0a K.1 a6U.2.1.1 rfl (b0u K.1 a6U.2.1.2 rfl (a0s K a6U.2.2.1 (b3G hw) a1e ?_))))
  refine a0c (v := 2) K.1 a6U.2.2.2 (by decide) ?_
  refine a1l K.1 a8j.1.1.1 (a0R (t := .int) (v' := ((gI σ 144) - 2)) K a8j.1.1.2 (b3G hw) a1e (Or.inl (b69 hw)) a1o rfl rfl (a0a K.1 a8j.1.2.1 rfl (a0b K.1 a8j.1.2.2 rfl (a0f K.1 a8j.2.1.1 rfl (a0f K.1 a8j.2.1.2 rfl ?_)))))
  obtain ⟨q82, hq82, h⟩ := bsq h
  refine a0g (vs := [.int (gA σ 13 (v1).toInt), .int (gA σ 19 (((gI σ 144) - 1)).toInt), .int (gA σ 19 (((gI σ 144) - 2)).toInt)]) K a8j.2.2.1 (b9m hw) (b9C hw) (b80 hw) (b9c hw) hyC b7n rfl rfl (b1y l Z a0 hw n1 a (a0i K) hq82) rfl (nbq rfl) (nbq rfl) rfl rfl (a0q (L' := [some (.ref 0), vvI v1, some (.int (gA σ 12 (v1).toInt)), some (.int (gA σ 13 (v1).toInt)), some (.int (gA σ 19 (((gI σ 144) - 1)).toInt)), some (.int (gA σ 19 (((gI σ 144) - 2)).toInt)), vvI q82.1]) K.1 a8j.2.2.2 (blt rfl) rfl (a0a K.1 a8c.1.1.1 rfl (a0f K.1 a8c.1.1.2 rfl ?_)))
  obtain ⟨q90, hq90, h⟩ := bsq h
  refine a0g (vs := [.int (gA σ 19 (((gI σ 144) - 1)).toInt)]) K a8c.1.2.1 (b59 hw) (b58 hw) (b5V hw) (b5Y hw) hyC a9E rfl rfl (a0Q l Z a0 hw n1 a (a0i K) hq90) rfl (nbq rfl) (nbq rfl) rfl rfl (a0a K.1 a8c.1.2.2 rfl (a0f K.1 a8c.2.1.1 rfl ?_))
  obtain ⟨q96, hq96, h⟩ := bsq h
  refine a0g (vs := [.int (gA σ 19 (((gI σ 144) - 2)).toInt)]) K a8c.2.1.2 (b59 hw) (b58 hw) (b5V hw) (b5Y hw) hyC a9E rfl rfl (a0Q l Z a0 hw n1 a (a0i K) hq96) rfl (nbq rfl) (nbq rfl) rfl rfl (a0f K.1 a8c.2.2.1 rfl ?_)
  cases h; exact a0e K.1 a8c.2.2.2 (a0w K)
 refine a0p (pc' := 102) K.1 b0p.2.1.1 (by decide) ((feq hc17).2) ?_
 refine a0a K.1 b0p.2.1.2 rfl (a0s K b0p.2.2.1 (b3G hw) a1e ?_)
 refine a0c (v := 1) K.1 b0p.2.2.2 (by decide) ?_
 rcases ifs h with ⟨hc107, h⟩ | ⟨hc107, h⟩
 ·refine a0p (pc' := 119) K.1 a4l.1.1.1 (by decide) ((tlt hc107).1) ?_
  refine a0d (v := -5) K.1 a3g.1.2.1 (by decide) ?_
  cases h; exact a0e K.1 a3g.1.2.2 (a0w K)
 refine a0o K.1 a4l.1.1.1 ((flt hc107).1) (a0a K.1 a4l.1.1.2 rfl (a0s K a4l.1.2.1 (b3G hw) a1e ?_))
 refine a0d (v := 40) K.1 a4l.1.2.2 (by decide) ?_
 rcases ifs h with ⟨hc116, h⟩ | ⟨hc116, h⟩
 ·refine a0o K.1 a4l.2.1.1 ((tlt hc116).2.2.2) ?_
  refine a0d (v := -5) K.1 a3g.1.2.1 (by decide) ?_
  cases h; exact a0e K.1 a3g.1.2.2 (a0w K)
 refine a0p (pc' := 122) K.1 a4l.2.1.1 (by decide) ((flt hc116).2.2.2) ?_
 refine a0a K.1 a4l.2.1.2 rfl (b0u K.1 a4l.2.2.1 rfl (a0s K a4l.2.2.2 (b3G hw) a1e ?_))
 refine a0c (v := 1) K.1 a76.1.1.1 (by decide) ?_
 refine a1l K.1 a76.1.1.2 (a0R (t := .int) (v' := ((gI σ 144) - 1)) K a76.1.2.1 (b3G hw) a1e (Or.inl (b69 hw)) a1o rfl rfl (a0a K.1 a76.1.2.2 rfl (a0k K a76.2.1.1 (w50 hw) a4T rfl (a0a K.1 a76.2.1.2 rfl (a0s K a76.2.2.1 (b3G hw) a1e ?_)))))
 obtain ⟨hc140, h⟩ := ifn h
 refine a0j K a76.2.2.2 a4X rfl hc140 (a0q (L' := [some (.ref 0), vvI v1, some (.int (gA σ 12 (v1).toInt)), some (.int (gA σ 13 (v1).toInt)), some (.int (gA (sI σ 144 ((gI σ 144) - 1)) 19 ((gI (sI σ 144 ((gI σ 144) - 1)) 144)).toInt)), none, none]) K.1 a4r.1.1.1 (blt rfl) rfl (a0b K.1 a4r.1.1.2 rfl ?_))
 refine a0d (v := 126) K.1 a4r.1.2.1 (by decide) ?_
 rcases ifs h with ⟨hc146, h⟩ | ⟨hc146, h⟩
 ·refine a0o K.1 a4r.1.2.2 ((teq hc146).2) (a0a K.1 a6W.2.2.2 rfl (a0b K.1 a3g.1.1.1 rfl (a0f K.1 a3g.1.1.2 rfl ?_)))
  cases h
 refine a0p (pc' := 161) K.1 a4r.1.2.2 (by decide) ((feq hc146).2) ?_
 refine a0b K.1 a4r.2.1.1 rfl ?_
 refine a0d (v := 47) K.1 a4r.2.1.2 (by decide) ?_
 rcases ifs h with ⟨hc164, h⟩ | ⟨hc164, h⟩
 ·refine a0o K.1 a4r.2.2.1 ((teq hc164).2) (a0a K.1 a7m.2.1.1 rfl (a0b K.1 a7m.2.1.2 rfl (a0f K.1 a7m.2.2.1 rfl ?_)))
  obtain ⟨q171, hq171, h⟩ := bsq h
  refine a0g (vs := [.int (gA σ 13 (v1).toInt), .int (gA (sI σ 144 ((gI σ 144) - 1)) 19 ((gI (sI σ 144 ((gI σ 144) - 1)) 144)).toInt)]) K a7m.2.2.2 (c05 hw) (c1T hw) (c0k hw) (c0h hw) hyC b4S rfl rfl (b34 l Z a0 hw n1 a (a0i K) hq171) rfl (nbq rfl) (nbq rfl) rfl rfl (a0q (L' := [some (.ref 0), vvI v1, some (.int (gA σ 12 (v1).toInt)), some (.int (gA σ 13 (v1).toInt)), some (.int (gA (sI σ 144 ((gI σ 144) - 1)) 19 ((gI (sI σ 144 ((gI σ 144) - 1)) 144)).toInt)), vvI q171.1, none]) K.1 a6W.1.1.1 (blt rfl) rfl ?_)
  refine a0y (pc' := 188) K.1 a6W.1.1.2 (by decide) ?_
  exact a0n (a3D K hw  h) (ls (ln (ln (ln (ls (ls (ls l0)))))))
 refine a0p (pc' := 179) K.1 a4r.2.2.1 (by decide) ((feq hc164).2) ?_
 refine a0a K.1 a4r.2.2.2 rfl (a0b K.1 a7m.1.1.1 rfl (a0f K.1 a7m.1.1.2 rfl ?_))
 obtain ⟨q183, hq183, h⟩ := bsq h
 refine a0g (vs := [.int (gA σ 13 (v1).toInt), .int (gA (sI σ 144 ((gI σ 144) - 1)) 19 ((gI (sI σ 144 ((gI σ 144) - 1)) 144)).toInt)]) K a7m.1.2.1 (c0Q hw) (c09 hw) (c1O hw) (c0v hw) hyC b4S rfl rfl (b3U l Z a0 hw n1 a (a0i K) hq183) rfl (nbq rfl) (nbq rfl) rfl rfl (a0q (L' := [some (.ref 0), vvI v1, some (.int (gA σ 12 (v1).toInt)), some (.int (gA σ 13 (v1).toInt)), some (.int (gA (sI σ 144 ((gI σ 144) - 1)) 19 ((gI (sI σ 144 ((gI σ 144) - 1)) 144)).toInt)), vvI q183.1, none]) K.1 a7m.1.2.2 (blt rfl) rfl ?_)
 exact a0n (a3D K hw  h) (ls (ln (ln (ln (ls (ls (ls l0)))))))
theorem b2b (l : Launch) (Z : State) (a0 : Array Value) (hw : HW a0 Z) (n1 : Nat) (a : Addr) (ha : n1 ≤ a) {NF : Nat} {σ : St} {v1 : Int32} {r : Int32 × St} (h : a5b NF σ v1 = some r) : Con l Z cC cFS cFA 24 n1 a ⟨cC, "applyNode", "(I)I"⟩ c39 7 (some .int) ⟨7, 0, 0, 114⟩ [.ref 0, .int v1] σ (some (.int r.1)) r.2 :=
 a0l pnC rfl (a1m hw) a0E ha (fun X h1 K => b25 K hw h)
abbrev a4c := KKQ ⟨3, 0, 0, 46⟩ "literal" c62 6 (some .int)
def a2c (NF : Nat) (k25 : b5A) (i1 i2 : Int32) (i3 i4 : Int32) (σ : St) : Option (Int32 × St) :=
 k25 i1 i2 i3 (i4 + 1) σ
theorem a2O {NF : Nat} (K : a4c X Z a0 l n1 a h0) (hw : HW a0 Z) {k25 : Int32 → Int32 → Int32 → Int32 → St → Option (Int32 × St)} {i1 i2 : Int32} {i3 i4 : Int32} {σ : St} {r : Int32 × St} (hk25 : ∀ (i1 i2 : Int32) (i3 i4 : Int32) (σ : St) (h : k25 i1 i2 i3 i4 σ = some r), Go X (vvI r.1, (r.2, 24)) 25 [some (.ref 0), vvI i1, vvI i2, vvI i3, vvI i4, none] [] (σ, 24)) (h : a2c NF k25 i1 i2 i3 i4 σ = some r) : Go X (vvI r.1, (r.2, 24)) 68 [some (.ref 0), vvI i1, vvI i2, vvI i3, vvI i4, none] [] (σ, 24) := by
 unfold a2c at h
 refine a09 (w := 1) (L' := [some (.ref 0), vvI i1, vvI i2, vvI i3, some (.int (i4 + 1)), none]) K.1 a7P.1.2.2 rfl (by decide) rfl ?_
 refine a0y (pc' := 25) K.1 a7P.2.1.1 (by decide) ?_
 exact hk25 _ _ _ _ _ h
def a6b (NF : Nat) (k25 : b5A) (i1 i2 : Int32) (i3 i4 : Int32) (σ : St) : Option (Int32 × St) :=
 (if i4 < i2 then (if i4 < 8 then (if (i1 + i4) < 0 then a2c NF k25 i1 i2 i3 i4 σ else (if (i1 + i4) < 33 then (if 0 ≤ ((i1 + i4)).toInt ∧ ((i1 + i4)).toInt < 33 then ((a04 σ i3 (gA σ 11 ((i1 + i4)).toInt)).bind fun q65 => a2c NF k25 i1 i2 i3 i4 q65) else none) else a2c NF k25 i1 i2 i3 i4 σ)) else (some (i3, σ))) else (some (i3, σ)))
theorem b1W {NF : Nat} (K : a4c X Z a0 l n1 a h0) (hw : HW a0 Z) {k25 : Int32 → Int32 → Int32 → Int32 → St → Option (Int32 × St)} {i1 i2 : Int32} {i3 i4 : Int32} {σ : St} {r : Int32 × St} (hk25 : ∀ (i1 i2 : Int32) (i3 i4 : Int32) (σ : St) (h : k25 i1 i2 i3 i4 σ = some r), Go X (vvI r.1, (r.2, 24)) 25 [some (.ref 0), vvI i1, vvI i2, vvI i3, vvI i4, none] [] (σ, 24)) (h : a6b NF k25 i1 i2 i3 i4 σ = some r) : Go X (vvI r.1, (r.2, 24)) 25 [some (.ref 0), vvI i1, vvI i2, vvI i3, vvI i4, none] [] (σ, 24) := by
 unfold a6b at h
 refine a0f K.1 a8X.1.2.2 rfl (a0b K.1 a8X.2.1.1 rfl ?_)
 rcases ifs h with ⟨hc28, h⟩ | ⟨hc28, h⟩
 ·refine a0o K.1 a8X.2.1.2 ((tlt hc28).2.1) (a0f K.1 a8X.2.2.1 rfl ?_)
  refine a0d (v := 8) K.1 a8X.2.2.2 (by decide) ?_
  rcases ifs h with ⟨hc35, h⟩ | ⟨hc35, h⟩
  ·refine a0o K.1 a3C.1.1.1 ((tlt hc35).2.1) (a0b K.1 a3C.1.2.2 rfl (a0f K.1 a3C.2.1.1 rfl (a0z K.1 a3C.2.1.2 (a0q (L' := [some (.ref 0), vvI i1, vvI i2, vvI i3, vvI i4, some (.int (i1 + i4))]) K.1 a3C.2.2.1 (blt rfl) rfl (a0f K.1 a3C.2.2.2 rfl ?_)))))
   rcases ifs h with ⟨hc46, h⟩ | ⟨hc46, h⟩
   ·refine a0u (pc' := 68) K.1 a4v.1.1.1 (by decide) ((if0 _ _).trans (tlt hc46).1) ?_
    exact a0n (a2O K hw hk25 h) (ls (ls (ls (ls (ls (ln l0))))))
   refine a0t K.1 a4v.1.1.1 ((if0 _ _).trans (flt hc46).1) (a0f K.1 a4v.1.1.2 rfl ?_)
   refine a0d (v := 33) K.1 a4v.1.2.1 (by decide) ?_
   rcases ifs h with ⟨hc53, h⟩ | ⟨hc53, h⟩
   ·refine a0o K.1 a4v.1.2.2 ((tlt hc53).2.1) (a0a K.1 a4v.2.1.1 rfl (a0b K.1 a4v.2.1.2 rfl (a0a K.1 a4v.2.2.1 rfl (a0k K a4v.2.2.2 (w34 hw) a3B rfl (a0f K.1 a7P.1.1.1 rfl ?_)))))
    obtain ⟨hc64, h⟩ := ifn h
    refine a0j K a7P.1.1.2 a3c rfl hc64 ?_
    obtain ⟨q65, hq65, h⟩ := bsq h
    refine a0g (vs := [.int i3, .int (gA σ 11 ((i1 + i4)).toInt)]) K a7P.1.2.1 (b7c hw) (b60 hw) (b7a hw) (b7g hw) hyC b6i rfl rfl (a01 l Z a0 hw n1 a (a0i K) hq65) rfl (nbq rfl) (nbq rfl) rfl rfl ?_
    exact a0n (a2O K hw hk25 h) (ls (ls (ls (ls (ls (ln l0))))))
   refine a0p (pc' := 68) K.1 a4v.1.2.2 (by decide) ((flt hc53).2.1) ?_
   exact a0n (a2O K hw hk25 h) (ls (ls (ls (ls (ls (ln l0))))))
  refine a0p (pc' := 74) K.1 a3C.1.1.1 (by decide) ((flt hc35).2.1) ?_
  refine a0b K.1 a3C.1.1.2 rfl ?_
  cases h; exact a0e K.1 a3C.1.2.1 (a0w K)
 refine a0p (pc' := 74) K.1 a8X.2.1.2 (by decide) ((flt hc28).2.1) ?_
 refine a0b K.1 a3C.1.1.2 rfl ?_
 cases h; exact a0e K.1 a3C.1.2.1 (a0w K)
def a5S (NF : Nat)  : Nat → b5A
 | 0 => fun _ _ _ _ _ => none
 | n + 1 => fun i1 i2 i3 i4 σ => a6b NF  (a5S NF  n) i1 i2 i3 i4 σ
theorem b1P {NF : Nat} (K : a4c X Z a0 l n1 a h0) (hw : HW a0 Z) (n : Nat)  {r : Int32 × St}  : ∀ (i1 i2 : Int32) (i3 i4 : Int32) (σ : St) (h : a5S NF  n i1 i2 i3 i4 σ = some r), Go X (vvI r.1, (r.2, 24)) 25 [some (.ref 0), vvI i1, vvI i2, vvI i3, vvI i4, none] [] (σ, 24) := by
 induction n with
 | zero => intro i1 i2 i3 i4 σ h; cases h
 | succ n ih => intro i1 i2 i3 i4 σ h; exact b1W (NF := NF) K hw  ih h
def a9H (NF : Nat) (σ : St) (v1 v2 : Int32) : Option (Int32 × St) :=
 (if (gI σ 114) < v2 then (some ((-5 : Int32), σ)) else ((a6e σ).bind fun q12 => (if q12.1 < 0 then (some (q12.1, q12.2)) else a5S NF NF v1 v2 q12.1 (0 : Int32) q12.2)))
theorem b31 {NF : Nat} (K : a4c X Z a0 l n1 a h0) (hw : HW a0 Z) {σ : St} {v1 v2 : Int32} {r : Int32 × St} (h : a9H NF σ v1 v2 = some r) : Go X (vvI r.1, (r.2, 24)) 0 [some (.ref 0), vvI v1, vvI v2, none, none, none] [] (σ, 24) := by
 unfold a9H at h
 refine a0b K.1 b0c.1.1.1 rfl (a0a K.1 b0c.1.1.2 rfl (a0s K b0c.1.2.1 (w67 hw) a8x ?_))
 rcases ifs h with ⟨hc5, h⟩ | ⟨hc5, h⟩
 ·refine a0o K.1 b0c.1.2.2 ((tlt hc5).2.2.2) ?_
  refine a0d (v := -5) K.1 a7P.2.2.2 (by decide) ?_
  cases h; exact a0e K.1 b6V (a0w K)
 refine a0p (pc' := 11) K.1 b0c.1.2.2 (by decide) ((flt hc5).2.2.2) ?_
 refine a0a K.1 b0c.2.1.1 rfl ?_
 obtain ⟨q12, hq12, h⟩ := bsq h
 refine a0g (vs := []) K b0c.2.1.2 (b63 hw) (b68 hw) (b66 hw) (b62 hw) hyC b6b rfl rfl (a2s l Z a0 hw n1 a (a0i K) hq12) rfl (nbq rfl) (nbq rfl) rfl rfl (a0m (L' := [some (.ref 0), vvI v1, vvI v2, vvI q12.1, none, none]) K.1 b0c.2.2.1 (blt rfl) rfl (a0b K.1 b0c.2.2.2 rfl ?_))
 rcases ifs h with ⟨hc17, h⟩ | ⟨hc17, h⟩
 ·refine a0t K.1 a8X.1.1.1 ((if0 _ _).trans (tlt hc17).2.1) (a0b K.1 a7P.2.1.2 rfl ?_)
  cases h; exact a0e K.1 a7P.2.2.1 (a0w K)
 refine a0u (pc' := 22) K.1 a8X.1.1.1 (by decide) ((if0 _ _).trans (flt hc17).2.1) ?_
 refine a0c (v := 0) K.1 a8X.1.1.2 (by decide) ?_
 refine a0q (L' := [some (.ref 0), vvI v1, vvI v2, vvI q12.1, some (.int (0 : Int32)), none]) K.1 a8X.1.2.1 (blt rfl) rfl ?_
 exact b1P K hw NF  _ _ _ _ _ h
theorem b3R (l : Launch) (Z : State) (a0 : Array Value) (hw : HW a0 Z) (n1 : Nat) (a : Addr) (ha : n1 ≤ a) {NF : Nat} {σ : St} {v1 v2 : Int32} {r : Int32 × St} (h : a9H NF σ v1 v2 = some r) : Con l Z cC cFS cFA 24 n1 a ⟨cC, "literal", "(II)I"⟩ c62 6 (some .int) ⟨3, 0, 0, 46⟩ [.ref 0, .int v1, .int v2] σ (some (.int r.1)) r.2 :=
 a0l pnC rfl (a1m hw) a0E ha (fun X h1 K => b31 K hw h)
abbrev b5W := KKQ ⟨4, 0, 0, 63⟩ "leaf" c61 3 (some .int)
def b41 (NF : Nat) (σ : St) (v1 : Int32) : Option (Int32 × St) :=
 (if 0 ≤ (v1).toInt ∧ (v1).toInt < 33 then (if (gA σ 12 (v1).toInt) = 118 then (if 0 ≤ (v1).toInt ∧ (v1).toInt < 33 then (if (gA σ 14 (v1).toInt) < 0 then (some ((-2 : Int32), σ)) else (if 3 < (gA σ 14 (v1).toInt) then (some ((-2 : Int32), σ)) else (if 0 ≤ ((gA σ 14 (v1).toInt)).toInt ∧ ((gA σ 14 (v1).toInt)).toInt < 5 then ((a0Y σ (gA σ 9 ((gA σ 14 (v1).toInt)).toInt)).bind fun q34 => (if q34.1 = 0 then (some ((-2 : Int32), q34.2)) else (if 0 ≤ ((gA σ 14 (v1).toInt)).toInt ∧ ((gA σ 14 (v1).toInt)).toInt < 5 then ((a3S q34.2 (gA q34.2 9 ((gA σ 14 (v1).toInt)).toInt)).bind fun q50 => (if 0 ≤ ((gA σ 14 (v1).toInt)).toInt ∧ ((gA σ 14 (v1).toInt)).toInt < 5 then (some ((gA q50 9 ((gA σ 14 (v1).toInt)).toInt), q50)) else none)) else none))) else none))) else none) else (if 0 ≤ (v1).toInt ∧ (v1).toInt < 33 then (if 0 ≤ (v1).toInt ∧ (v1).toInt < 33 then ((a9H NF σ (gA σ 14 (v1).toInt) (gA σ 15 (v1).toInt)).bind fun q73 => (some (q73.1, q73.2))) else none) else none)) else none)
theorem b53 {NF : Nat} (K : b5W X Z a0 l n1 a h0) (hw : HW a0 Z) {σ : St} {v1 : Int32} {r : Int32 × St} (h : b41 NF σ v1 = some r) : Go X (vvI r.1, (r.2, 24)) 0 [some (.ref 0), vvI v1, none] [] (σ, 24) := by
 unfold b41 at h
 refine a0a K.1 a90.1.1.1 rfl (a0k K a90.1.1.2 (w36 hw) a56 rfl (a0b K.1 a90.1.2.1 rfl ?_))
 obtain ⟨hc5, h⟩ := ifn h
 refine a0j K a90.1.2.2 a5t rfl hc5 ?_
 refine a0d (v := 118) K.1 a90.2.1.1 (by decide) ?_
 rcases ifs h with ⟨hc8, h⟩ | ⟨hc8, h⟩
 ·refine a0o K.1 a90.2.1.2 ((teq hc8).2) (a0a K.1 a5A.1.1.2 rfl (a0k K a5A.1.2.1 (w40 hw) b4x rfl (a0b K.1 a5A.1.2.2 rfl ?_)))
  obtain ⟨hc16, h⟩ := ifn h
  refine a0j K a5A.2.1.1 b4T rfl hc16 (a0m (L' := [some (.ref 0), vvI v1, some (.int (gA σ 14 (v1).toInt))]) K.1 a5A.2.1.2 (blt rfl) rfl (a0b K.1 a5A.2.2.1 rfl ?_))
  rcases ifs h with ⟨hc19, h⟩ | ⟨hc19, h⟩
  ·refine a0u (pc' := 40) K.1 a5A.2.2.2 (by decide) ((if0 _ _).trans (tlt hc19).1) ?_
   refine a0d (v := -2) K.1 a3H.2.1.2 (by decide) ?_
   cases h; exact a0e K.1 a3H.2.2 (a0w K)
  refine a0t K.1 a5A.2.2.2 ((if0 _ _).trans (flt hc19).1) (a0b K.1 a5w.1.1.1 rfl ?_)
  refine a0c (v := 3) K.1 a5w.1.1.2 (by decide) ?_
  rcases ifs h with ⟨hc24, h⟩ | ⟨hc24, h⟩
  ·refine a0p (pc' := 40) K.1 a5w.1.2.1 (by decide) ((tlt hc24).2.2.1) ?_
   refine a0d (v := -2) K.1 a3H.2.1.2 (by decide) ?_
   cases h; exact a0e K.1 a3H.2.2 (a0w K)
  refine a0o K.1 a5w.1.2.1 ((flt hc24).2.2.1) (a0a K.1 a5w.1.2.2 rfl (a0a K.1 a5w.2.1.1 rfl (a0k K a5w.2.1.2 (w30 hw) a2R rfl (a0b K.1 a5w.2.2.1 rfl ?_))))
  obtain ⟨hc33, h⟩ := ifn h
  refine a0j K a5w.2.2.2 a2T rfl hc33 ?_
  obtain ⟨q34, hq34, h⟩ := bsq h
  refine a0g (vs := [.int (gA σ 9 ((gA σ 14 (v1).toInt)).toInt)]) K a5U.1.1.1 (b29 hw) (b27 hw) (b2O hw) (b2Q hw) hyC a1D rfl rfl (a0x l Z a0 hw n1 a (a0i K) hq34) rfl (nbq rfl) (nbq rfl) rfl rfl ?_
  rcases ifs h with ⟨hc37, h⟩ | ⟨hc37, h⟩
  ·refine a0t K.1 a5U.1.1.2 ((if0 _ _).trans (teq hc37).2) ?_
   refine a0d (v := -2) K.1 a3H.2.1.2 (by decide) ?_
   cases h; exact a0e K.1 a3H.2.2 (a0w K)
  refine a0u (pc' := 43) K.1 a5U.1.1.2 (by decide) ((if0 _ _).trans (feq hc37).2) ?_
  refine a0a K.1 a5U.1.2.1 rfl (a0a K.1 a5U.1.2.2 rfl (a0k K a5U.2.1.1 (w30 hw) a2R rfl (a0b K.1 a5U.2.1.2 rfl ?_)))
  obtain ⟨hc49, h⟩ := ifn h
  refine a0j K a5U.2.2.1 a2T rfl hc49 ?_
  obtain ⟨q50, hq50, h⟩ := bsq h
  refine a0g (vs := [.int (gA q34.2 9 ((gA σ 14 (v1).toInt)).toInt)]) K a5U.2.2.2 (b7H hw) (b7p hw) (b7D hw) (b7q hw) hyC a9E rfl rfl (a2H l Z a0 hw n1 a (a0i K) hq50) rfl (nbq rfl) (nbq rfl) rfl rfl (a0a K.1 a3H.1.1.1 rfl (a0k K a3H.1.1.2 (w30 hw) a2R rfl (a0b K.1 a3H.1.2.1 rfl ?_)))
  obtain ⟨hc58, h⟩ := ifn h
  refine a0j K a3H.1.2.2 a2T rfl hc58 ?_
  cases h; exact a0e K.1 a3H.2.1.1 (a0w K)
 refine a0p (pc' := 60) K.1 a90.2.1.2 (by decide) ((feq hc8).2) ?_
 refine a0a K.1 a90.2.2.1 rfl (a0a K.1 a90.2.2.2 rfl (a0k K b1m.1.1.1 (w40 hw) b4x rfl (a0b K.1 b1m.1.1.2 rfl ?_)))
 obtain ⟨hc66, h⟩ := ifn h
 refine a0j K b1m.1.2.1 b4T rfl hc66 (a0a K.1 b1m.1.2.2 rfl (a0k K b1m.2.1.1 (w42 hw) b50 rfl (a0b K.1 b1m.2.1.2 rfl ?_)))
 obtain ⟨hc72, h⟩ := ifn h
 refine a0j K b1m.2.2.1 b5M rfl hc72 ?_
 obtain ⟨q73, hq73, h⟩ := bsq h
 refine a0g (vs := [.int (gA σ 14 (v1).toInt), .int (gA σ 15 (v1).toInt)]) K b1m.2.2.2 (c0O hw) (b98 hw) (b9S hw) (c1t hw) hyC b4S rfl rfl (b3R l Z a0 hw n1 a (a0i K) hq73) rfl (nbq rfl) (nbq rfl) rfl rfl ?_
 cases h; exact a0e K.1 a5A.1.1.1 (a0w K)
theorem b5x (l : Launch) (Z : State) (a0 : Array Value) (hw : HW a0 Z) (n1 : Nat) (a : Addr) (ha : n1 ≤ a) {NF : Nat} {σ : St} {v1 : Int32} {r : Int32 × St} (h : b41 NF σ v1 = some r) : Con l Z cC cFS cFA 24 n1 a ⟨cC, "leaf", "(I)I"⟩ c61 3 (some .int) ⟨4, 0, 0, 63⟩ [.ref 0, .int v1] σ (some (.int r.1)) r.2 :=
 a0l pnC rfl (a1m hw) a0E ha (fun X h1 K => b53 K hw h)
abbrev b0N := KKQ ⟨0, 0, 0, 0⟩ "pushChildren" c63 3 (some .int)
def a2B (σ : St) (v1 v2 : Int32) : Option (Int32 × St) :=
 (if v2 < 0 then (some ((-1 : Int32), σ)) else (if 80 < (v2 + 2) then (some ((-1 : Int32), σ)) else (if 0 ≤ (v1).toInt ∧ (v1).toInt < 33 then (if (gA σ 12 (v1).toInt) = 100 then (if 0 ≤ (v1).toInt ∧ (v1).toInt < 33 then (if 0 ≤ (v2).toInt ∧ (v2).toInt < 80 then (if 0 ≤ (v2).toInt ∧ (v2).toInt < 80 then (if 0 ≤ (v1).toInt ∧ (v1).toInt < 33 then (if 0 ≤ ((v2 + 1)).toInt ∧ ((v2 + 1)).toInt < 80 then (if 0 ≤ ((v2 + 1)).toInt ∧ ((v2 + 1)).toInt < 80 then (some ((v2 + 2), (sA (sA (sA (sA σ 17 (v2).toInt (gA σ 14 (v1).toInt)) 18 (v2).toInt (0 : Int32)) 17 ((v2 + 1)).toInt (gA (sA (sA σ 17 (v2).toInt (gA σ 14 (v1).toInt)) 18 (v2).toInt (0 : Int32)) 15 (v1).toInt)) 18 ((v2 + 1)).toInt (0 : Int32)))) else none) else none) else none) else none) else none) else none) else (if 0 ≤ (v1).toInt ∧ (v1).toInt < 33 then (if 0 ≤ (v2).toInt ∧ (v2).toInt < 80 then (if 0 ≤ (v2).toInt ∧ (v2).toInt < 80 then (some ((v2 + 1), (sA (sA σ 17 (v2).toInt (gA σ 14 (v1).toInt)) 18 (v2).toInt (0 : Int32)))) else none) else none) else none)) else none)))
theorem b0J (K : b0N X Z a0 l n1 a h0) (hw : HW a0 Z) {σ : St} {v1 v2 : Int32} {r : Int32 × St} (h : a2B σ v1 v2 = some r) : Go X (vvI r.1, (r.2, 24)) 0 [some (.ref 0), vvI v1, vvI v2] [] (σ, 24) := by
 unfold a2B at h
 refine a0b K.1 a8P.1.1.1 rfl ?_
 rcases ifs h with ⟨hc1, h⟩ | ⟨hc1, h⟩
 ·refine a0u (pc' := 12) K.1 a8P.1.1.2 (by decide) ((if0 _ _).trans (tlt hc1).1) ?_
  refine a0c (v := -1) K.1 b3T.1 (by decide) ?_
  cases h; exact a0e K.1 b3T.2 (a0w K)
 refine a0t K.1 a8P.1.1.2 ((if0 _ _).trans (flt hc1).1) (a0b K.1 a8P.1.2.1 rfl ?_)
 refine a0c (v := 2) K.1 a8P.1.2.2 (by decide) ?_
 refine a0z K.1 a8P.2.1.1 ?_
 refine a0d (v := 80) K.1 a8P.2.1.2 (by decide) ?_
 rcases ifs h with ⟨hc9, h⟩ | ⟨hc9, h⟩
 ·refine a0o K.1 a8P.2.2.1 ((tlt hc9).2.2.2) ?_
  refine a0c (v := -1) K.1 b3T.1 (by decide) ?_
  cases h; exact a0e K.1 b3T.2 (a0w K)
 refine a0p (pc' := 14) K.1 a8P.2.2.1 (by decide) ((flt hc9).2.2.2) ?_
 refine a0a K.1 a8P.2.2.2 rfl (a0k K b0e.1.1.1 (w36 hw) a56 rfl (a0b K.1 b0e.1.1.2 rfl ?_))
 obtain ⟨hc19, h⟩ := ifn h
 refine a0j K b0e.1.2.1 a5t rfl hc19 ?_
 refine a0d (v := 100) K.1 b0e.1.2.2 (by decide) ?_
 rcases ifs h with ⟨hc22, h⟩ | ⟨hc22, h⟩
 ·refine a0o K.1 b0e.2.1.1 ((teq hc22).2) (a0a K.1 a7d.2.2.1 rfl (a0k K a7d.2.2.2 (w46 hw) a8w rfl (a0b K.1 a75.1.1.1 rfl (a0a K.1 a75.1.1.2 rfl (a0k K a75.1.2.1 (w40 hw) b4x rfl ?_)))))
  refine a0b K.1 a75.1.2.2 rfl ?_
  obtain ⟨hc35, h⟩ := ifn h
  refine a0j K a75.2.1.1 b4T rfl hc35 ?_
  obtain ⟨hc36, h⟩ := ifn h
  refine a0r K a75.2.1.2 a8r rfl hc36 (a0a K.1 a75.2.2.1 rfl (a0k K a75.2.2.2 (w48 hw) a3t rfl (a0b K.1 a77.1.1.1 rfl ?_)))
  refine a0c (v := 0) K.1 a77.1.1.2 (by decide) ?_
  obtain ⟨hc43, h⟩ := ifn h
  refine a0r K a77.1.2.1 a3i rfl hc43 (a0a K.1 a77.1.2.2 rfl (a0k K a77.2.1.1 (w46 hw) a8w rfl (a0b K.1 a77.2.1.2 rfl ?_)))
  refine a0c (v := 1) K.1 a77.2.2.1 (by decide) ?_
  refine a0z K.1 a77.2.2.2 (a0a K.1 a7V.1.1.1 rfl (a0k K a7V.1.1.2 (w42 hw) b50 rfl (a0b K.1 a7V.1.2.1 rfl ?_)))
  obtain ⟨hc56, h⟩ := ifn h
  refine a0j K a7V.1.2.2 b5M rfl hc56 ?_
  obtain ⟨hc57, h⟩ := ifn h
  refine a0r K a7V.2.1.1 a8r rfl hc57 (a0a K.1 a7V.2.1.2 rfl (a0k K a7V.2.2.1 (w48 hw) a3t rfl (a0b K.1 a7V.2.2.2 rfl ?_)))
  refine a0c (v := 1) K.1 a7K.1.1.1 (by decide) ?_
  refine a0z K.1 a7K.1.1.2 ?_
  refine a0c (v := 0) K.1 a7K.1.2.1 (by decide) ?_
  obtain ⟨hc66, h⟩ := ifn h
  refine a0r K a7K.1.2.2 a3i rfl hc66 (a0b K.1 a7K.2.1.1 rfl ?_)
  refine a0c (v := 2) K.1 a7K.2.1.2 (by decide) ?_
  refine a0z K.1 a7K.2.2.1 ?_
  cases h; exact a0e K.1 a7K.2.2.2 (a0w K)
 refine a0p (pc' := 71) K.1 b0e.2.1.1 (by decide) ((feq hc22).2) ?_
 refine a0a K.1 b0e.2.1.2 rfl (a0k K b0e.2.2.1 (w46 hw) a8w rfl (a0b K.1 b0e.2.2.2 rfl (a0a K.1 a6J.1.1.1 rfl (a0k K a6J.1.1.2 (w40 hw) b4x rfl (a0b K.1 a6J.1.2.1 rfl ?_)))))
 obtain ⟨hc81, h⟩ := ifn h
 refine a0j K a6J.1.2.2 b4T rfl hc81 ?_
 obtain ⟨hc82, h⟩ := ifn h
 refine a0r K a6J.2.1.1 a8r rfl hc82 (a0a K.1 a6J.2.1.2 rfl (a0k K a6J.2.2.1 (w48 hw) a3t rfl (a0b K.1 a6J.2.2.2 rfl ?_)))
 refine a0c (v := 0) K.1 a7d.1.1.1 (by decide) ?_
 obtain ⟨hc89, h⟩ := ifn h
 refine a0r K a7d.1.1.2 a3i rfl hc89 (a0b K.1 a7d.1.2.1 rfl ?_)
 refine a0c (v := 1) K.1 a7d.1.2.2 (by decide) ?_
 refine a0z K.1 a7d.2.1.1 ?_
 cases h; exact a0e K.1 a7d.2.1.2 (a0w K)
theorem a9U (l : Launch) (Z : State) (a0 : Array Value) (hw : HW a0 Z) (n1 : Nat) (a : Addr) (ha : n1 ≤ a) {σ : St} {v1 v2 : Int32} {r : Int32 × St} (h : a2B σ v1 v2 = some r) : Con l Z cC cFS cFA 24 n1 a ⟨cC, "pushChildren", "(II)I"⟩ c63 3 (some .int) ⟨0, 0, 0, 0⟩ [.ref 0, .int v1, .int v2] σ (some (.int r.1)) r.2 :=
 a0l pnC rfl (a1m hw) a0E ha (fun X h1 K => b0J K hw h)
abbrev a0P := KKQ ⟨8, 0, 0, 132⟩ "evaluate" c35 7 (some .int)
def a2z (NF : Nat)  (σ : St) : Option (Int32 × St) :=
 none
theorem a42 {NF : Nat} (K : a0P X Z a0 l n1 a h0) (hw : HW a0 Z)  {σ : St} {r : Int32 × St}  (h : a2z NF  σ = some r) : Go X (vvI r.1, (r.2, 24)) 64 [some (.ref 0), none, none, none, none, none, none] [] (σ, 24) := by
 unfold a2z at h
 refine a0a K.1 a27.2.2.1 rfl ?_
 refine a0d (v := -5) K.1 a27.2.2.2 (by decide) ?_
 cases h
def a14 (NF : Nat) (k26 : b4v) (i1 i2 : Int32) (σ : St) : Option (Int32 × St) :=
 k26 i1 (i2 + 1) σ
theorem a3Q {NF : Nat} (K : a0P X Z a0 l n1 a h0) (hw : HW a0 Z) {k26 : Int32 → Int32 → St → Option (Int32 × St)} {i1 i2 : Int32} {σ : St} {r : Int32 × St} (hk26 : ∀ (i1 i2 : Int32) (σ : St) (h : k26 i1 i2 σ = some r), Go X (vvI r.1, (r.2, 24)) 26 [some (.ref 0), vvI i1, vvI i2, none, none, none, none] [] (σ, 24)) (h : a14 NF k26 i1 i2 σ = some r) : Go X (vvI r.1, (r.2, 24)) 194 [some (.ref 0), vvI i1, vvI i2, none, none, none, none] [] (σ, 24) := by
 unfold a14 at h
 refine a09 (w := 1) (L' := [some (.ref 0), vvI i1, some (.int (i2 + 1)), none, none, none, none]) K.1 a27.1.2.1 rfl (by decide) rfl ?_
 refine a0y (pc' := 26) K.1 a27.1.2.2 (by decide) ?_
 exact hk26 _ _ _ h
def a17 (NF : Nat) (k26 : b4v) (i1 i2 t0 : Int32) (σ : St) : Option (Int32 × St) :=
 (if t0 < 0 then none else ((b3s NF σ t0).bind fun q181 => (if q181.1 = 0 then none else a14 NF k26 i1 i2 q181.2)))
theorem a37 {NF : Nat} (K : a0P X Z a0 l n1 a h0) (hw : HW a0 Z) {k26 : Int32 → Int32 → St → Option (Int32 × St)} {i1 i2 t0 : Int32} {σ : St} {r : Int32 × St} (hk26 : ∀ (i1 i2 : Int32) (σ : St) (h : k26 i1 i2 σ = some r), Go X (vvI r.1, (r.2, 24)) 26 [some (.ref 0), vvI i1, vvI i2, none, none, none, none] [] (σ, 24)) (h : a17 NF k26 i1 i2 t0 σ = some r) : Go X (vvI r.1, (r.2, 24)) 164 [some (.ref 0), vvI i1, vvI i2, none, none, none, none] [.int t0] (σ, 24) := by
 unfold a17 at h
 refine a0q (L' := [some (.ref 0), vvI i1, vvI i2, none, none, none, vvI t0]) K.1 a4j.1.1.2 (blt rfl) rfl (a0f K.1 a4j.1.2.1 rfl ?_)
 rcases ifs h with ⟨hc168, h⟩ | ⟨hc168, h⟩
 ·refine a0t K.1 a4j.1.2.2 ((if0 _ _).trans (tlt hc168).2.1) (a0a K.1 a60.1.2.1 rfl (a0f K.1 a60.1.2.2 rfl ?_))
  cases h
 refine a0u (pc' := 178) K.1 a4j.1.2.2 (by decide) ((if0 _ _).trans (flt hc168).2.1) ?_
 refine a0a K.1 a4j.2.1.1 rfl (a0f K.1 a4j.2.1.2 rfl ?_)
 obtain ⟨q181, hq181, h⟩ := bsq h
 refine a0g (vs := [.int t0]) K a4j.2.2.1 (b90 hw) (c1p hw) (b9N hw) (c0S hw) hyC a1D rfl rfl (b4L l Z a0 hw n1 a (a0i K) hq181) rfl (nbq rfl) (nbq rfl) rfl rfl ?_
 rcases ifs h with ⟨hc184, h⟩ | ⟨hc184, h⟩
 ·refine a0t K.1 a4j.2.2.2 ((if0 _ _).trans (teq hc184).2) (a0a K.1 a60.1.1.1 rfl ?_)
  refine a0d (v := -5) K.1 a60.1.1.2 (by decide) ?_
  cases h
 refine a0u (pc' := 194) K.1 a4j.2.2.2 (by decide) ((if0 _ _).trans (feq hc184).2) ?_
 exact a0n (a3Q K hw hk26 h) (ls (ls (ls (ls (ls (ls (ln l0)))))))
def a2h (NF : Nat) (k26 : b4v) (i1 i2 : Int32) (i3 i5 : Int32) (σ : St) : Option (Int32 × St) :=
 (if i5 = 0 then ((a5b NF σ i3).bind fun q161 => a17 NF k26 (i1 + (-1 : Int32)) i2 q161.1 q161.2) else ((b41 NF σ i3).bind fun q153 => a17 NF k26 (i1 + (-1 : Int32)) i2 q153.1 q153.2))
theorem a4b {NF : Nat} (K : a0P X Z a0 l n1 a h0) (hw : HW a0 Z) {k26 : Int32 → Int32 → St → Option (Int32 × St)} {i1 i2 : Int32} {i3 i5 : Int32} {σ : St} {r : Int32 × St} (hk26 : ∀ (i1 i2 : Int32) (σ : St) (h : k26 i1 i2 σ = some r), Go X (vvI r.1, (r.2, 24)) 26 [some (.ref 0), vvI i1, vvI i2, none, none, none, none] [] (σ, 24)) (h : a2h NF k26 i1 i2 i3 i5 σ = some r) : Go X (vvI r.1, (r.2, 24)) 143 [some (.ref 0), vvI i1, vvI i2, vvI i3, none, vvI i5, none] [] (σ, 24) := by
 unfold a2h at h
 refine a09 (w := -1) (L' := [some (.ref 0), some (.int (i1 + (-1 : Int32))), vvI i2, vvI i3, none, vvI i5, none]) K.1 a5z.2.2.2 rfl (by decide) rfl ?_
 refine a0f K.1 a5o.1.1.1 rfl ?_
 rcases ifs h with ⟨hc148, h⟩ | ⟨hc148, h⟩
 ·refine a0u (pc' := 159) K.1 a5o.1.1.2 (by decide) ((if0 _ _).trans (teq hc148).1) ?_
  refine a0a K.1 a5o.1.2.1 rfl (a0b K.1 a5o.1.2.2 rfl ?_)
  obtain ⟨q161, hq161, h⟩ := bsq h
  refine a0g (vs := [.int i3]) K a5o.2.1.1 (b99 hw) (c1L hw) (c1c hw) (c0s hw) hyC a3e rfl rfl (b2b l Z a0 hw n1 a (a0i K) hq161) rfl (nbq rfl) (nbq rfl) rfl rfl ?_
  exact a0n (a37 K hw hk26 h) (ls (ls (ls (ln (ls (ln (ls l0)))))))
 refine a0t K.1 a5o.1.1.2 ((if0 _ _).trans (feq hc148).1) (a0a K.1 a5o.2.1.2 rfl (a0b K.1 a5o.2.2.1 rfl ?_))
 obtain ⟨q153, hq153, h⟩ := bsq h
 refine a0g (vs := [.int i3]) K a5o.2.2.2 (c1y hw) (c0a hw) (c08 hw) (c0J hw) hyC a3e rfl rfl (b5x l Z a0 hw n1 a (a0i K) hq153) rfl (nbq rfl) (nbq rfl) rfl rfl ?_
 refine a0y (pc' := 164) K.1 a4j.1.1.1 (by decide) ?_
 exact a0n (a37 K hw hk26 h) (ls (ls (ls (ln (ls (ln (ls l0)))))))
def a2A (NF : Nat) (k26 : b4v) (i1 i2 : Int32) (i3 t0 : Int32) (σ : St) : Option (Int32 × St) :=
 (if t0 = 0 then (if 0 ≤ ((i1 - 1)).toInt ∧ ((i1 - 1)).toInt < 80 then (if (gA σ 18 ((i1 - 1)).toInt) = 0 then (if 0 ≤ ((i1 - 1)).toInt ∧ ((i1 - 1)).toInt < 80 then ((a2B (sA σ 18 ((i1 - 1)).toInt (1 : Int32)) i3 i1).bind fun q128 => (if q128.1 < 0 then none else a14 NF k26 q128.1 i2 q128.2)) else none) else a2h NF k26 i1 i2 i3 t0 σ) else none) else a2h NF k26 i1 i2 i3 t0 σ)
theorem a41 {NF : Nat} (K : a0P X Z a0 l n1 a h0) (hw : HW a0 Z) {k26 : Int32 → Int32 → St → Option (Int32 × St)} {i1 i2 : Int32} {i3 t0 : Int32} {σ : St} {r : Int32 × St} (hk26 : ∀ (i1 i2 : Int32) (σ : St) (h : k26 i1 i2 σ = some r), Go X (vvI r.1, (r.2, 24)) 26 [some (.ref 0), vvI i1, vvI i2, none, none, none, none] [] (σ, 24)) (h : a2A NF k26 i1 i2 i3 t0 σ = some r) : Go X (vvI r.1, (r.2, 24)) 98 [some (.ref 0), vvI i1, vvI i2, vvI i3, none, none, none] [.int t0] (σ, 24) := by
 unfold a2A at h
 refine a0q (L' := [some (.ref 0), vvI i1, vvI i2, vvI i3, none, vvI t0, none]) K.1 a4s.2.1.2 (blt rfl) rfl (a0f K.1 a4s.2.2.1 rfl ?_)
 rcases ifs h with ⟨hc102, h⟩ | ⟨hc102, h⟩
 ·refine a0t K.1 a4s.2.2.2 ((if0 _ _).trans (teq hc102).2) (a0a K.1 a5z.1.1.1 rfl (a0k K a5z.1.1.2 (w48 hw) a3t rfl (a0b K.1 a5z.1.2.1 rfl ?_)))
  refine a0c (v := 1) K.1 a5z.1.2.2 (by decide) ?_
  refine a1l K.1 a5z.2.1.1 ?_
  obtain ⟨hc112, h⟩ := ifn h
  refine a0j K a5z.2.1.2 a3i rfl hc112 ?_
  rcases ifs h with ⟨hc113, h⟩ | ⟨hc113, h⟩
  ·refine a0t K.1 a5z.2.2.1 ((if0 _ _).trans (teq hc113).2) (a0a K.1 a60.2.1.1 rfl (a0k K a60.2.1.2 (w48 hw) a3t rfl (a0b K.1 a60.2.2.1 rfl ?_)))
   refine a0c (v := 1) K.1 a60.2.2.2 (by decide) ?_
   refine a1l K.1 a3I.1.1.1 ?_
   refine a0c (v := 1) K.1 a3I.1.1.2 (by decide) ?_
   obtain ⟨hc124, h⟩ := ifn h
   refine a0r K a3I.1.2.1 a3i rfl hc124 (a0a K.1 a3I.1.2.2 rfl (a0b K.1 a3I.2.1.1 rfl (a0b K.1 a3I.2.1.2 rfl ?_)))
   obtain ⟨q128, hq128, h⟩ := bsq h
   refine a0g (vs := [.int i3, .int i1]) K a3I.2.2.1 (b92 hw) (c0l hw) (c00 hw) (c1v hw) hyC b4S rfl rfl (a9U l Z a0 hw n1 a (a0i K) hq128) rfl (nbq rfl) (nbq rfl) rfl rfl (a0m (L' := [some (.ref 0), vvI q128.1, vvI i2, vvI i3, none, vvI t0, none]) K.1 a3I.2.2.2 (blt rfl) rfl (a0b K.1 a27.1.1.1 rfl ?_))
   rcases ifs h with ⟨hc133, h⟩ | ⟨hc133, h⟩
   ·refine a0t K.1 a27.1.1.2 ((if0 _ _).trans (tlt hc133).2.1) (a0a K.1 a27.2.1.1 rfl ?_)
    refine a0d (v := -5) K.1 a27.2.1.2 (by decide) ?_
    cases h
   refine a0u (pc' := 194) K.1 a27.1.1.2 (by decide) ((if0 _ _).trans (flt hc133).2.1) ?_
   exact a0n (a3Q K hw hk26 h) (ls (ls (ls (ln (ls (ln (ls l0)))))))
  refine a0u (pc' := 143) K.1 a5z.2.2.1 (by decide) ((if0 _ _).trans (feq hc113).2) ?_
  exact a4b K hw hk26 h
 refine a0u (pc' := 143) K.1 a4s.2.2.2 (by decide) ((if0 _ _).trans (feq hc102).2) ?_
 exact a4b K hw hk26 h
def a2C (NF : Nat) (k26 : b4v) (i1 i2 i3 : Int32) (σ : St) : Option (Int32 × St) :=
 a2A NF k26 i1 i2 i3 (1 : Int32) σ
theorem a4Z {NF : Nat} (K : a0P X Z a0 l n1 a h0) (hw : HW a0 Z) {k26 : Int32 → Int32 → St → Option (Int32 × St)} {i1 i2 i3 : Int32} {σ : St} {r : Int32 × St} (hk26 : ∀ (i1 i2 : Int32) (σ : St) (h : k26 i1 i2 σ = some r), Go X (vvI r.1, (r.2, 24)) 26 [some (.ref 0), vvI i1, vvI i2, none, none, none, none] [] (σ, 24)) (h : a2C NF k26 i1 i2 i3 σ = some r) : Go X (vvI r.1, (r.2, 24)) 93 [some (.ref 0), vvI i1, vvI i2, vvI i3, none, none, none] [] (σ, 24) := by
 unfold a2C at h
 refine a0c (v := 1) K.1 a4s.1.2.2 (by decide) ?_
 refine a0y (pc' := 98) K.1 a4s.2.1.1 (by decide) ?_
 exact a41 K hw hk26 h
def a2k (NF : Nat)  (σ : St) : Option (Int32 × St) :=
 none
theorem a3P {NF : Nat} (K : a0P X Z a0 l n1 a h0) (hw : HW a0 Z)  {σ : St} {r : Int32 × St}  (h : a2k NF  σ = some r) : Go X (vvI r.1, (r.2, 24)) 212 [some (.ref 0), none, none, none, none, none, none] [] (σ, 24) := by
 unfold a2k at h
 refine a0a K.1 a65.1.1.1 rfl ?_
 refine a0d (v := -5) K.1 a65.1.1.2 (by decide) ?_
 cases h
def a1q (NF : Nat)  (i1 : Int32) (σ : St) : Option (Int32 × St) :=
 (if i1 = 0 then (if (gI σ 144) = 1 then (some ((gA (sI σ 144 (0 : Int32)) 19 ((0 : Int32)).toInt), (sI σ 144 (0 : Int32)))) else a2k NF σ) else a2k NF σ)
theorem a2f {NF : Nat} (K : a0P X Z a0 l n1 a h0) (hw : HW a0 Z)  {i1 : Int32} {σ : St} {r : Int32 × St}  (h : a1q NF  i1 σ = some r) : Go X (vvI r.1, (r.2, 24)) 200 [some (.ref 0), vvI i1, none, none, none, none, none] [] (σ, 24) := by
 unfold a1q at h
 refine a0b K.1 a3y.1.2.1 rfl ?_
 rcases ifs h with ⟨hc201, h⟩ | ⟨hc201, h⟩
 ·refine a0t K.1 a3y.1.2.2 ((if0 _ _).trans (teq hc201).2) (a0a K.1 a3y.2.1.1 rfl (a0s K a3y.2.1.2 (b3G hw) a1e ?_))
  refine a0c (v := 1) K.1 a3y.2.2.1 (by decide) ?_
  rcases ifs h with ⟨hc209, h⟩ | ⟨hc209, h⟩
  ·refine a0p (pc' := 219) K.1 a3y.2.2.2 (by decide) ((teq hc209).1) ?_
   refine a0a K.1 a6K.1.1.1 rfl ?_
   refine a0c (v := 0) K.1 a6K.1.1.2 (by decide) ?_
   refine a0R (t := .int) (v' := (0 : Int32)) K a6K.1.2.1 (b3G hw) a1e (Or.inl (b69 hw)) a1o rfl rfl (a0a K.1 a6K.1.2.2 rfl (a0k K a6K.2.1.1 (w50 hw) a4T rfl ?_))
   refine a0c (v := 0) K.1 a6K.2.1.2 (by decide) ?_
   refine a0j K a6K.2.2.1 a4X rfl (by decide) ?_
   cases h; exact a0e K.1 a6K.2.2.2 (a0w K)
  refine a0o K.1 a3y.2.2.2 ((feq hc209).1) ?_
  exact a0n (a3P K hw  h) (ls (ln (ls (ls (ls (ls (ls l0)))))))
 refine a0u (pc' := 212) K.1 a3y.1.2.2 (by decide) ((if0 _ _).trans (feq hc201).2) ?_
 exact a0n (a3P K hw  h) (ls (ln (ls (ls (ls (ls (ls l0)))))))
def a4P (NF : Nat) (k26 : b4v) (i1 i2 : Int32) (σ : St) : Option (Int32 × St) :=
 (if i2 < 200 then (if 0 < i1 then (if 80 < i1 then a1q NF i1 σ else (if 0 ≤ ((i1 - 1)).toInt ∧ ((i1 - 1)).toInt < 80 then (if (gA σ 17 ((i1 - 1)).toInt) < 0 then a2z NF σ else (if (gA σ 17 ((i1 - 1)).toInt) < (gI σ 134) then (if 0 ≤ ((gA σ 17 ((i1 - 1)).toInt)).toInt ∧ ((gA σ 17 ((i1 - 1)).toInt)).toInt < 33 then (if (gA σ 12 ((gA σ 17 ((i1 - 1)).toInt)).toInt) = 110 then a2C NF k26 i1 i2 (gA σ 17 ((i1 - 1)).toInt) σ else (if (gA σ 12 ((gA σ 17 ((i1 - 1)).toInt)).toInt) = 118 then a2C NF k26 i1 i2 (gA σ 17 ((i1 - 1)).toInt) σ else a2A NF k26 i1 i2 (gA σ 17 ((i1 - 1)).toInt) (0 : Int32) σ)) else none) else a2z NF σ)) else none)) else a1q NF i1 σ) else a1q NF i1 σ)
theorem b0K {NF : Nat} (K : a0P X Z a0 l n1 a h0) (hw : HW a0 Z) {k26 : Int32 → Int32 → St → Option (Int32 × St)} {i1 i2 : Int32} {σ : St} {r : Int32 × St} (hk26 : ∀ (i1 i2 : Int32) (σ : St) (h : k26 i1 i2 σ = some r), Go X (vvI r.1, (r.2, 24)) 26 [some (.ref 0), vvI i1, vvI i2, none, none, none, none] [] (σ, 24)) (h : a4P NF k26 i1 i2 σ = some r) : Go X (vvI r.1, (r.2, 24)) 26 [some (.ref 0), vvI i1, vvI i2, none, none, none, none] [] (σ, 24) := by
 unfold a4P at h
 refine a0b K.1 a4I.1.2.1 rfl ?_
 refine a0I (v := 200) K.1 a4I.1.2.2 (by decide) ?_
 rcases ifs h with ⟨hc30, h⟩ | ⟨hc30, h⟩
 ·refine a0o K.1 a4I.2.1.1 ((tlt hc30).2.1) (a0b K.1 a4I.2.1.2 rfl ?_)
  rcases ifs h with ⟨hc34, h⟩ | ⟨hc34, h⟩
  ·refine a0t K.1 a4I.2.2.1 ((if0 _ _).trans (tlt hc34).2.2.2) (a0b K.1 a4I.2.2.2 rfl ?_)
   refine a0d (v := 80) K.1 a3y.1.1.1 (by decide) ?_
   rcases ifs h with ⟨hc40, h⟩ | ⟨hc40, h⟩
   ·refine a0p (pc' := 200) K.1 a3y.1.1.2 (by decide) ((tlt hc40).2.2.1) ?_
    exact a0n (a2f K hw  h) (ls (ls (ln (ls (ls (ls (ls l0)))))))
   refine a0o K.1 a3y.1.1.2 ((flt hc40).2.2.1) (a0a K.1 a65.1.2.1 rfl (a0k K a65.1.2.2 (w46 hw) a8w rfl (a0b K.1 a65.2.1.1 rfl ?_)))
   refine a0c (v := 1) K.1 a65.2.1.2 (by decide) ?_
   refine a1l K.1 a65.2.2.1 ?_
   obtain ⟨hc50, h⟩ := ifn h
   refine a0j K a65.2.2.2 a8r rfl hc50 (a0m (L' := [some (.ref 0), vvI i1, vvI i2, some (.int (gA σ 17 ((i1 - 1)).toInt)), none, none, none]) K.1 a4N.1.1.1 (blt rfl) rfl (a0b K.1 a4N.1.1.2 rfl ?_))
   rcases ifs h with ⟨hc53, h⟩ | ⟨hc53, h⟩
   ·refine a0u (pc' := 64) K.1 a4N.1.2.1 (by decide) ((if0 _ _).trans (tlt hc53).1) ?_
    exact a0n (a42 K hw  h) (ls (ln (ln (ln (ls (ls (ls l0)))))))
   refine a0t K.1 a4N.1.2.1 ((if0 _ _).trans (flt hc53).1) (a0b K.1 a4N.1.2.2 rfl (a0a K.1 a4N.2.1.1 rfl (a0s K a4N.2.1.2 (b6y hw) a1b ?_)))
   rcases ifs h with ⟨hc61, h⟩ | ⟨hc61, h⟩
   ·refine a0p (pc' := 71) K.1 a4N.2.2.1 (by decide) ((tlt hc61).1) ?_
    refine a0a K.1 a4N.2.2.2 rfl (a0k K a5C.1.1.1 (w36 hw) a56 rfl (a0b K.1 a5C.1.1.2 rfl ?_))
    obtain ⟨hc76, h⟩ := ifn h
    refine a0j K a5C.1.2.1 a5t rfl hc76 (a0q (L' := [some (.ref 0), vvI i1, vvI i2, some (.int (gA σ 17 ((i1 - 1)).toInt)), some (.int (gA σ 12 ((gA σ 17 ((i1 - 1)).toInt)).toInt)), none, none]) K.1 a5C.1.2.2 (blt rfl) rfl (a0f K.1 a5C.2.1.1 rfl ?_))
    refine a0d (v := 110) K.1 a5C.2.1.2 (by decide) ?_
    rcases ifs h with ⟨hc83, h⟩ | ⟨hc83, h⟩
    ·refine a0p (pc' := 93) K.1 a5C.2.2.1 (by decide) ((teq hc83).1) ?_
     exact a0n (a4Z K hw hk26 h) (ls (ls (ls (ls (ln (ls (ls l0)))))))
    refine a0o K.1 a5C.2.2.1 ((feq hc83).1) (a0f K.1 a5C.2.2.2 rfl ?_)
    refine a0d (v := 118) K.1 a4s.1.1.1 (by decide) ?_
    rcases ifs h with ⟨hc90, h⟩ | ⟨hc90, h⟩
    ·refine a0o K.1 a4s.1.1.2 ((teq hc90).2) ?_
     exact a0n (a4Z K hw hk26 h) (ls (ls (ls (ls (ln (ls (ls l0)))))))
    refine a0p (pc' := 97) K.1 a4s.1.1.2 (by decide) ((feq hc90).2) ?_
    refine a0c (v := 0) K.1 a4s.1.2.1 (by decide) ?_
    exact a0n (a41 K hw hk26 h) (ls (ls (ls (ls (ln (ls (ls l0)))))))
   refine a0o K.1 a4N.2.2.1 ((flt hc61).1) ?_
   exact a0n (a42 K hw  h) (ls (ln (ln (ln (ls (ls (ls l0)))))))
  refine a0u (pc' := 200) K.1 a4I.2.2.1 (by decide) ((if0 _ _).trans (flt hc34).2.2.2) ?_
  exact a0n (a2f K hw  h) (ls (ls (ln (ls (ls (ls (ls l0)))))))
 refine a0p (pc' := 200) K.1 a4I.2.1.1 (by decide) ((flt hc30).2.1) ?_
 exact a0n (a2f K hw  h) (ls (ls (ln (ls (ls (ls (ls l0)))))))
def a4K (NF : Nat)  : Nat → b4v
 | 0 => fun _ _ _ => none
 | n + 1 => fun i1 i2 σ => a4P NF  (a4K NF  n) i1 i2 σ
theorem b0O {NF : Nat} (K : a0P X Z a0 l n1 a h0) (hw : HW a0 Z) (n : Nat)  {r : Int32 × St}  : ∀ (i1 i2 : Int32) (σ : St) (h : a4K NF  n i1 i2 σ = some r), Go X (vvI r.1, (r.2, 24)) 26 [some (.ref 0), vvI i1, vvI i2, none, none, none, none] [] (σ, 24) := by
 induction n with
 | zero => intro i1 i2 σ h; cases h
 | succ n ih => intro i1 i2 σ h; exact b0K (NF := NF) K hw  ih h
def a8C (NF : Nat) (σ : St) : Option (Int32 × St) :=
 a4K NF NF (1 : Int32) (0 : Int32) (sA (sA (sI σ 144 (0 : Int32)) 17 ((0 : Int32)).toInt (gI (sI σ 144 (0 : Int32)) 139)) 18 ((0 : Int32)).toInt (0 : Int32))
theorem b3W {NF : Nat} (K : a0P X Z a0 l n1 a h0) (hw : HW a0 Z) {σ : St} {r : Int32 × St} (h : a8C NF σ = some r) : Go X (vvI r.1, (r.2, 24)) 0 [some (.ref 0), none, none, none, none, none, none] [] (σ, 24) := by
 unfold a8C at h
 refine a0a K.1 b1w.1.1.1 rfl ?_
 refine a0c (v := 0) K.1 b1w.1.1.2 (by decide) ?_
 refine a0R (t := .int) (v' := (0 : Int32)) K b1w.1.2.1 (b3G hw) a1e (Or.inl (b69 hw)) a1o rfl rfl (a0a K.1 b1w.1.2.2 rfl (a0k K b1w.2.1.1 (w46 hw) a8w rfl ?_))
 refine a0c (v := 0) K.1 b1w.2.1.2 (by decide) ?_
 refine a0a K.1 b1w.2.2.1 rfl (a0s K b1w.2.2.2 (b76 hw) b3C ?_)
 refine a0r K b1o.1.1.1 a8r rfl (by decide) ?_
 refine a0a K.1 b1o.1.1.2 rfl (a0k K b1o.1.2.1 (w48 hw) a3t rfl ?_)
 refine a0c (v := 0) K.1 b1o.1.2.2 (by decide) ?_
 refine a0c (v := 0) K.1 b1o.2.1.1 (by decide) ?_
 refine a0r K b1o.2.1.2 a3i rfl (by decide) ?_
 refine a0c (v := 1) K.1 b1o.2.2.1 (by decide) ?_
 refine a0m (L' := [some (.ref 0), some (.int (1 : Int32)), none, none, none, none, none]) K.1 b1o.2.2.2 (blt rfl) rfl ?_
 refine a0c (v := 0) K.1 a4I.1.1.1 (by decide) ?_
 refine a0m (L' := [some (.ref 0), some (.int (1 : Int32)), some (.int (0 : Int32)), none, none, none, none]) K.1 a4I.1.1.2 (blt rfl) rfl ?_
 exact b0O K hw NF  _ _ _ h
theorem b2Y (l : Launch) (Z : State) (a0 : Array Value) (hw : HW a0 Z) (n1 : Nat) (a : Addr) (ha : n1 ≤ a) {NF : Nat} {σ : St} {r : Int32 × St} (h : a8C NF σ = some r) : Con l Z cC cFS cFA 24 n1 a ⟨cC, "evaluate", "()I"⟩ c35 7 (some .int) ⟨8, 0, 0, 132⟩ [.ref 0] σ (some (.int r.1)) r.2 :=
 a0l pnC rfl (a1m hw) a0E ha (fun X h1 K => b3W K hw h)
abbrev b2d := KKQ ⟨3, 0, 0, 48⟩ "commit" c64 3 none
def a2I (NF : Nat)  (i1 : Int32) (σ : St) : Option (St) :=
 ((a03 NF (sA σ 9 ((4 : Int32)).toInt i1) (gA σ 9 ((4 : Int32)).toInt)).bind fun q61 => (some (sI q61 150 (-1 : Int32))))
theorem a3A {NF : Nat} (K : b2d X Z a0 l n1 a h0) (hw : HW a0 Z)  {i1 : Int32} {σ : St} {r : St}  (h : a2I NF  i1 σ = some r) : Go X (none, (r, 24)) 45 [some (.ref 0), vvI i1, none] [] (σ, 24) := by
 unfold a2I at h
 refine a0a K.1 a7n.1.1.2 rfl (a0k K a7n.1.2.1 (w30 hw) a2R rfl ?_)
 refine a0c (v := 4) K.1 a7n.1.2.2 (by decide) ?_
 refine a0j K a7n.2.1.1 a2T rfl (by decide) ?_
 refine a0m (L' := [some (.ref 0), vvI i1, some (.int (gA σ 9 ((4 : Int32)).toInt))]) K.1 a7n.2.1.2 (blt rfl) rfl (a0a K.1 a7n.2.2.1 rfl (a0k K a7n.2.2.2 (w30 hw) a2R rfl ?_))
 refine a0c (v := 4) K.1 a7u.1.1.1 (by decide) ?_
 refine a0b K.1 a7u.1.1.2 rfl ?_
 refine a0r K a7u.1.2.1 a2T rfl (by decide) ?_
 refine a0a K.1 a7u.1.2.2 rfl (a0b K.1 a7u.2.1.1 rfl ?_)
 obtain ⟨q61, hq61, h⟩ := bsq h
 refine a0g (vs := [.int (gA σ 9 ((4 : Int32)).toInt)]) K a7u.2.1.2 (b59 hw) (b58 hw) (b5V hw) (b5Y hw) hyC a9E rfl rfl (a0Q l Z a0 hw n1 a (a0i K) hq61) rfl (nbq rfl) (nbq rfl) rfl rfl (a0a K.1 a7u.2.2.1 rfl ?_)
 refine a0c (v := -1) K.1 a7u.2.2.2 (by decide) ?_
 refine a0R (t := .int) (v' := (-1 : Int32)) K b5D.1 (w75 hw) a8y (Or.inl (w76 hw)) a1o rfl rfl ?_
 cases h; exact a0F K.1 b5D.2 (a0w K)
def b16 (NF : Nat) (σ : St) (v1 : Int32) : Option (St) :=
 (if (gI σ 140) < 0 then a2I NF v1 σ else (if 3 < (gI σ 140) then a2I NF v1 σ else ((a3S σ v1).bind fun q17 => (if 0 ≤ ((gI q17 140)).toInt ∧ ((gI q17 140)).toInt < 5 then (if 0 ≤ ((gI q17 140)).toInt ∧ ((gI q17 140)).toInt < 5 then ((a03 NF (sA q17 9 ((gI q17 140)).toInt v1) (gA q17 9 ((gI q17 140)).toInt)).bind fun q42 => a2I NF v1 q42) else none) else none))))
theorem b4E {NF : Nat} (K : b2d X Z a0 l n1 a h0) (hw : HW a0 Z) {σ : St} {v1 : Int32} {r : St} (h : b16 NF σ v1 = some r) : Go X (none, (r, 24)) 0 [some (.ref 0), vvI v1, none] [] (σ, 24) := by
 unfold b16 at h
 refine a0a K.1 a9k.1.1.1 rfl (a0s K a9k.1.1.2 (b67 hw) a4Y ?_)
 rcases ifs h with ⟨hc4, h⟩ | ⟨hc4, h⟩
 ·refine a0u (pc' := 45) K.1 a9k.1.2.1 (by decide) ((if0 _ _).trans (tlt hc4).1) ?_
  exact a3A K hw  h
 refine a0t K.1 a9k.1.2.1 ((if0 _ _).trans (flt hc4).1) (a0a K.1 a9k.1.2.2 rfl (a0s K a9k.2.1.1 (b67 hw) a4Y ?_))
 refine a0c (v := 3) K.1 a9k.2.1.2 (by decide) ?_
 rcases ifs h with ⟨hc12, h⟩ | ⟨hc12, h⟩
 ·refine a0p (pc' := 45) K.1 a9k.2.2.1 (by decide) ((tlt hc12).2.2.1) ?_
  exact a3A K hw  h
 refine a0o K.1 a9k.2.2.1 ((flt hc12).2.2.1) (a0a K.1 a9k.2.2.2 rfl (a0b K.1 b1A.1.1.1 rfl ?_))
 obtain ⟨q17, hq17, h⟩ := bsq h
 refine a0g (vs := [.int v1]) K b1A.1.1.2 (b7H hw) (b7p hw) (b7D hw) (b7q hw) hyC a9E rfl rfl (a2H l Z a0 hw n1 a (a0i K) hq17) rfl (nbq rfl) (nbq rfl) rfl rfl (a0a K.1 b1A.1.2.1 rfl (a0k K b1A.1.2.2 (w30 hw) a2R rfl (a0a K.1 b1A.2.1.1 rfl (a0s K b1A.2.1.2 (b67 hw) a4Y ?_))))
 obtain ⟨hc28, h⟩ := ifn h
 refine a0j K b1A.2.2.1 a2T rfl hc28 (a0m (L' := [some (.ref 0), vvI v1, some (.int (gA q17 9 ((gI q17 140)).toInt))]) K.1 b1A.2.2.2 (blt rfl) rfl (a0a K.1 a6R.1.1.1 rfl (a0k K a6R.1.1.2 (w30 hw) a2R rfl (a0a K.1 a6R.1.2.1 rfl (a0s K a6R.1.2.2 (b67 hw) a4Y ?_)))))
 refine a0b K.1 a6R.2.1.1 rfl ?_
 obtain ⟨hc39, h⟩ := ifn h
 refine a0r K a6R.2.1.2 a2T rfl hc39 (a0a K.1 a6R.2.2.1 rfl (a0b K.1 a6R.2.2.2 rfl ?_))
 obtain ⟨q42, hq42, h⟩ := bsq h
 refine a0g (vs := [.int (gA q17 9 ((gI q17 140)).toInt)]) K a7n.1.1.1 (b59 hw) (b58 hw) (b5V hw) (b5Y hw) hyC a9E rfl rfl (a0Q l Z a0 hw n1 a (a0i K) hq42) rfl (nbq rfl) (nbq rfl) rfl rfl ?_
 exact a0n (a3A K hw  h) (ls (ls (ln l0)))
theorem b4i (l : Launch) (Z : State) (a0 : Array Value) (hw : HW a0 Z) (n1 : Nat) (a : Addr) (ha : n1 ≤ a) {NF : Nat} {σ : St} {v1 : Int32} {r : St} (h : b16 NF σ v1 = some r) : Con l Z cC cFS cFA 24 n1 a ⟨cC, "commit", "(I)V"⟩ c64 3 none ⟨3, 0, 0, 48⟩ [.ref 0, .int v1] σ none r :=
 a0l pnC rfl (a1m hw) a0E ha (fun X h1 K => b4E K hw h)
abbrev b39 := KKQ ⟨9, 0, 0, 150⟩ "runLine" c21 2 (some .int)
def b0b (NF : Nat) (σ : St) : Option (Int32 × St) :=
 ((a8z NF σ).bind fun q1 => (if q1.1 = 0 then (some ((1 : Int32), q1.2)) else ((b3r NF q1.2).bind fun q10 => (if q10.1 = 0 then (some ((1 : Int32), q10.2)) else ((a8C NF q10.2).bind fun q19 => (if q19.1 < 0 then (some ((-q19.1), q19.2)) else ((b16 NF q19.2 q19.1).bind fun q32 => (some ((0 : Int32), q32)))))))))
theorem b37 {NF : Nat} (K : b39 X Z a0 l n1 a h0) (hw : HW a0 Z) {σ : St} {r : Int32 × St} (h : b0b NF σ = some r) : Go X (vvI r.1, (r.2, 24)) 0 [some (.ref 0), none] [] (σ, 24) := by
 unfold b0b at h
 refine a0a K.1 a8V.1.1.1 rfl ?_
 obtain ⟨q1, hq1, h⟩ := bsq h
 refine a0g (vs := []) K a8V.1.1.2 (c0M hw) (b9P hw) (c0N hw) (c0V hw) hyC b7x rfl rfl (b21 l Z a0 hw n1 a (a0i K) hq1) rfl (nbq rfl) (nbq rfl) rfl rfl ?_
 rcases ifs h with ⟨hc4, h⟩ | ⟨hc4, h⟩
 ·refine a0t K.1 a8V.1.2.1 ((if0 _ _).trans (teq hc4).2) ?_
  refine a0c (v := 1) K.1 a9p.2.1.2 (by decide) ?_
  cases h; exact a0e K.1 a9p.2.2 (a0w K)
 refine a0u (pc' := 9) K.1 a8V.1.2.1 (by decide) ((if0 _ _).trans (feq hc4).2) ?_
 refine a0a K.1 a8V.1.2.2 rfl ?_
 obtain ⟨q10, hq10, h⟩ := bsq h
 refine a0g (vs := []) K a8V.2.1.1 (c0f hw) (c1U hw) (c0q hw) (c1B hw) hyC b7x rfl rfl (b4W l Z a0 hw n1 a (a0i K) hq10) rfl (nbq rfl) (nbq rfl) rfl rfl ?_
 rcases ifs h with ⟨hc13, h⟩ | ⟨hc13, h⟩
 ·refine a0t K.1 a8V.2.1.2 ((if0 _ _).trans (teq hc13).2) ?_
  refine a0c (v := 1) K.1 a9p.1.2.2 (by decide) ?_
  cases h; exact a0e K.1 a9p.2.1.1 (a0w K)
 refine a0u (pc' := 18) K.1 a8V.2.1.2 (by decide) ((if0 _ _).trans (feq hc13).2) ?_
 refine a0a K.1 a8V.2.2.1 rfl ?_
 obtain ⟨q19, hq19, h⟩ := bsq h
 refine a0g (vs := []) K a8V.2.2.2 (b9X hw) (c0U hw) (c0m hw) (c0c hw) hyC b6b rfl rfl (b2Y l Z a0 hw n1 a (a0i K) hq19) rfl (nbq rfl) (nbq rfl) rfl rfl (a0m (L' := [some (.ref 0), vvI q19.1]) K.1 b0n.1.1.1 (blt rfl) rfl (a0b K.1 b0n.1.1.2 rfl ?_))
 rcases ifs h with ⟨hc24, h⟩ | ⟨hc24, h⟩
 ·refine a0t K.1 b0n.1.2.1 ((if0 _ _).trans (tlt hc24).2.1) (a0b K.1 a9p.1.1.1 rfl (b42 K.1 a9p.1.1.2 ?_))
  cases h; exact a0e K.1 a9p.1.2.1 (a0w K)
 refine a0u (pc' := 30) K.1 b0n.1.2.1 (by decide) ((if0 _ _).trans (flt hc24).2.1) ?_
 refine a0a K.1 b0n.1.2.2 rfl (a0b K.1 b0n.2.1.1 rfl ?_)
 obtain ⟨q32, hq32, h⟩ := bsq h
 refine a0g (vs := [.int q19.1]) K b0n.2.1.2 (c1u hw) (b95 hw) (c0F hw) (c1o hw) hyC a9E rfl rfl (b4i l Z a0 hw n1 a (a0i K) hq32) rfl (nbq rfl) (nbq rfl) rfl rfl ?_
 refine a0c (v := 0) K.1 b0n.2.2.1 (by decide) ?_
 cases h; exact a0e K.1 b0n.2.2.2 (a0w K)
theorem b3X (l : Launch) (Z : State) (a0 : Array Value) (hw : HW a0 Z) (n1 : Nat) (a : Addr) (ha : n1 ≤ a) {NF : Nat} {σ : St} {r : Int32 × St} (h : b0b NF σ = some r) : Con l Z cC cFS cFA 24 n1 a ⟨cC, "runLine", "()I"⟩ c21 2 (some .int) ⟨9, 0, 0, 150⟩ [.ref 0] σ (some (.int r.1)) r.2 :=
 a0l pnC rfl (a1m hw) a0E ha (fun X h1 K => b37 K hw h)
abbrev b6p := KKQ ⟨10, 0, 0, 163⟩ "run" c20 2 (some .int)
def b5m (NF : Nat) (σ : St) : Option (Int32 × St) :=
 ((b0b NF σ).bind fun q1 => (some (q1.1, (sI q1.2 117 (0 : Int32)))))
theorem b6v {NF : Nat} (K : b6p X Z a0 l n1 a h0) (hw : HW a0 Z) {σ : St} {r : Int32 × St} (h : b5m NF σ = some r) : Go X (vvI r.1, (r.2, 24)) 0 [some (.ref 0), none] [] (σ, 24) := by
 unfold b5m at h
 refine a0a K.1 b1v.1.1.1 rfl ?_
 obtain ⟨q1, hq1, h⟩ := bsq h
 refine a0g (vs := []) K b1v.1.1.2 (b9W hw) (b9U hw) (c1Q hw) (c0Z hw) hyC b6b rfl rfl (b3X l Z a0 hw n1 a (a0i K) hq1) rfl (nbq rfl) (nbq rfl) rfl rfl (a0m (L' := [some (.ref 0), vvI q1.1]) K.1 b1v.1.2.1 (blt rfl) rfl (a0a K.1 b1v.1.2.2 rfl ?_))
 refine a0c (v := 0) K.1 b1v.2.1.1 (by decide) ?_
 refine a0R (t := .int) (v' := (0 : Int32)) K b1v.2.1.2 (w73 hw) a1i (Or.inl (w74 hw)) a1o rfl rfl (a0b K.1 b1v.2.2.1 rfl ?_)
 cases h; exact a0e K.1 b1v.2.2.2 (a0w K)
theorem b4s (l : Launch) (Z : State) (a0 : Array Value) (hw : HW a0 Z) (n1 : Nat) (a : Addr) (ha : n1 ≤ a) {NF : Nat} {σ : St} {r : Int32 × St} (h : b5m NF σ = some r) : Con l Z cC cFS cFA 24 n1 a ⟨cC, "run", "()I"⟩ c20 2 (some .int) ⟨10, 0, 0, 163⟩ [.ref 0] σ (some (.int r.1)) r.2 :=
 a0l pnC rfl (a1m hw) a0E ha (fun X h1 K => b6v K hw h)
abbrev b5a := KKQ ⟨2, 0, 0, 26⟩ "tally" c65 2 (some .int)
def b0U (σ : St) (v1 : Int32) : Option (Int32 × St) :=
 ((a16 σ v1).bind fun q2 => (if q2.1 = 0 then (some ((-1 : Int32), q2.2)) else (if 0 ≤ (v1).toInt ∧ (v1).toInt < 5 then (if 0 ≤ ((gA q2.2 9 (v1).toInt)).toInt ∧ ((gA q2.2 9 (v1).toInt)).toInt < 1024 then (some ((gA q2.2 2 ((gA q2.2 9 (v1).toInt)).toInt), q2.2)) else none) else none)))
theorem b5q (K : b5a X Z a0 l n1 a h0) (hw : HW a0 Z) {σ : St} {v1 : Int32} {r : Int32 × St} (h : b0U σ v1 = some r) : Go X (vvI r.1, (r.2, 24)) 0 [some (.ref 0), vvI v1] [] (σ, 24) := by
 unfold b0U at h
 refine a0a K.1 a9M.1.1.1 rfl (a0b K.1 a9M.1.1.2 rfl ?_)
 obtain ⟨q2, hq2, h⟩ := bsq h
 refine b0S (vs := [.int v1]) K a9M.1.2.1 (b7d hw) (b7b hw) (b61 hw) (b7i hw) (b65 hw) hyC a1D rfl rfl (a1A l Z a0 hw n1 a (a0i K) hq2) rfl (nbq rfl) (nbq rfl) rfl rfl ?_
 rcases ifs h with ⟨hc5, h⟩ | ⟨hc5, h⟩
 ·refine a0t K.1 a9M.1.2.2 ((if0 _ _).trans (teq hc5).2) ?_
  refine a0c (v := -1) K.1 b3j.2.1.2 (by decide) ?_
  cases h; exact a0e K.1 b3j.2.2 (a0w K)
 refine a0u (pc' := 10) K.1 a9M.1.2.2 (by decide) ((if0 _ _).trans (feq hc5).2) ?_
 refine a0a K.1 a9M.2.1.1 rfl (a0k K a9M.2.1.2 (w16 hw) a0L rfl (a0a K.1 a9M.2.2.1 rfl (a0k K a9M.2.2.2 (w30 hw) a2R rfl (a0b K.1 b3j.1.1.1 rfl ?_))))
 obtain ⟨hc19, h⟩ := ifn h
 refine a0j K b3j.1.1.2 a2T rfl hc19 ?_
 obtain ⟨hc20, h⟩ := ifn h
 refine a0j K b3j.1.2 a0K rfl hc20 ?_
 cases h; exact a0e K.1 b3j.2.1.1 (a0w K)
theorem b2w (l : Launch) (Z : State) (a0 : Array Value) (hw : HW a0 Z) (n1 : Nat) (a : Addr) (ha : n1 ≤ a) {σ : St} {v1 : Int32} {r : Int32 × St} (h : b0U σ v1 = some r) : Con l Z cC cFS cFA 24 n1 a ⟨cC, "tally", "(I)I"⟩ c65 2 (some .int) ⟨2, 0, 0, 26⟩ [.ref 0, .int v1] σ (some (.int r.1)) r.2 :=
 a0l pnC rfl (a1m hw) a0E ha (fun X h1 K => b5q K hw h)
abbrev b5T := KKQ ⟨2, 0, 0, 26⟩ "size" c66 2 (some .int)
def b2I (σ : St) (v1 : Int32) : Option (Int32 × St) :=
 ((a16 σ v1).bind fun q2 => (if q2.1 = 0 then (some ((-1 : Int32), q2.2)) else (if 0 ≤ (v1).toInt ∧ (v1).toInt < 5 then (if 0 ≤ ((gA q2.2 9 (v1).toInt)).toInt ∧ ((gA q2.2 9 (v1).toInt)).toInt < 1024 then (some ((gA q2.2 4 ((gA q2.2 9 (v1).toInt)).toInt), q2.2)) else none) else none)))
theorem b5I (K : b5T X Z a0 l n1 a h0) (hw : HW a0 Z) {σ : St} {v1 : Int32} {r : Int32 × St} (h : b2I σ v1 = some r) : Go X (vvI r.1, (r.2, 24)) 0 [some (.ref 0), vvI v1] [] (σ, 24) := by
 unfold b2I at h
 refine a0a K.1 b0j.1.1.1 rfl (a0b K.1 b0j.1.1.2 rfl ?_)
 obtain ⟨q2, hq2, h⟩ := bsq h
 refine b0S (vs := [.int v1]) K b0j.1.2.1 (b7d hw) (b7b hw) (b61 hw) (b7i hw) (b65 hw) hyC a1D rfl rfl (a1A l Z a0 hw n1 a (a0i K) hq2) rfl (nbq rfl) (nbq rfl) rfl rfl ?_
 rcases ifs h with ⟨hc5, h⟩ | ⟨hc5, h⟩
 ·refine a0t K.1 b0j.1.2.2 ((if0 _ _).trans (teq hc5).2) ?_
  refine a0c (v := -1) K.1 b3l.2.1.2 (by decide) ?_
  cases h; exact a0e K.1 b3l.2.2 (a0w K)
 refine a0u (pc' := 10) K.1 b0j.1.2.2 (by decide) ((if0 _ _).trans (feq hc5).2) ?_
 refine a0a K.1 b0j.2.1.1 rfl (a0k K b0j.2.1.2 (w20 hw) a1N rfl (a0a K.1 b0j.2.2.1 rfl (a0k K b0j.2.2.2 (w30 hw) a2R rfl (a0b K.1 b3l.1.1.1 rfl ?_))))
 obtain ⟨hc19, h⟩ := ifn h
 refine a0j K b3l.1.1.2 a2T rfl hc19 ?_
 obtain ⟨hc20, h⟩ := ifn h
 refine a0j K b3l.1.2 a1B rfl hc20 ?_
 cases h; exact a0e K.1 b3l.2.1.1 (a0w K)
theorem b0W (l : Launch) (Z : State) (a0 : Array Value) (hw : HW a0 Z) (n1 : Nat) (a : Addr) (ha : n1 ≤ a) {σ : St} {v1 : Int32} {r : Int32 × St} (h : b2I σ v1 = some r) : Con l Z cC cFS cFA 24 n1 a ⟨cC, "size", "(I)I"⟩ c66 2 (some .int) ⟨2, 0, 0, 26⟩ [.ref 0, .int v1] σ (some (.int r.1)) r.2 :=
 a0l pnC rfl (a1m hw) a0E ha (fun X h1 K => b5I K hw h)
abbrev b5o := KKQ ⟨2, 0, 0, 26⟩ "depth" c67 2 (some .int)
def b0Y (σ : St) (v1 : Int32) : Option (Int32 × St) :=
 ((a16 σ v1).bind fun q2 => (if q2.1 = 0 then (some ((-1 : Int32), q2.2)) else (if 0 ≤ (v1).toInt ∧ (v1).toInt < 5 then (if 0 ≤ ((gA q2.2 9 (v1).toInt)).toInt ∧ ((gA q2.2 9 (v1).toInt)).toInt < 1024 then (some ((gA q2.2 5 ((gA q2.2 9 (v1).toInt)).toInt), q2.2)) else none) else none)))
theorem b5g (K : b5o X Z a0 l n1 a h0) (hw : HW a0 Z) {σ : St} {v1 : Int32} {r : Int32 × St} (h : b0Y σ v1 = some r) : Go X (vvI r.1, (r.2, 24)) 0 [some (.ref 0), vvI v1] [] (σ, 24) := by
 unfold b0Y at h
 refine a0a K.1 a9F.1.1.1 rfl (a0b K.1 a9F.1.1.2 rfl ?_)
 obtain ⟨q2, hq2, h⟩ := bsq h
 refine b0S (vs := [.int v1]) K a9F.1.2.1 (b7d hw) (b7b hw) (b61 hw) (b7i hw) (b65 hw) hyC a1D rfl rfl (a1A l Z a0 hw n1 a (a0i K) hq2) rfl (nbq rfl) (nbq rfl) rfl rfl ?_
 rcases ifs h with ⟨hc5, h⟩ | ⟨hc5, h⟩
 ·refine a0t K.1 a9F.1.2.2 ((if0 _ _).trans (teq hc5).2) ?_
  refine a0c (v := -1) K.1 b3o.2.1.2 (by decide) ?_
  cases h; exact a0e K.1 b3o.2.2 (a0w K)
 refine a0u (pc' := 10) K.1 a9F.1.2.2 (by decide) ((if0 _ _).trans (feq hc5).2) ?_
 refine a0a K.1 a9F.2.1.1 rfl (a0k K a9F.2.1.2 (w22 hw) a1r rfl (a0a K.1 a9F.2.2.1 rfl (a0k K a9F.2.2.2 (w30 hw) a2R rfl (a0b K.1 b3o.1.1.1 rfl ?_))))
 obtain ⟨hc19, h⟩ := ifn h
 refine a0j K b3o.1.1.2 a2T rfl hc19 ?_
 obtain ⟨hc20, h⟩ := ifn h
 refine a0j K b3o.1.2 a1n rfl hc20 ?_
 cases h; exact a0e K.1 b3o.2.1.1 (a0w K)
theorem b2u (l : Launch) (Z : State) (a0 : Array Value) (hw : HW a0 Z) (n1 : Nat) (a : Addr) (ha : n1 ≤ a) {σ : St} {v1 : Int32} {r : Int32 × St} (h : b0Y σ v1 = some r) : Con l Z cC cFS cFA 24 n1 a ⟨cC, "depth", "(I)I"⟩ c67 2 (some .int) ⟨2, 0, 0, 26⟩ [.ref 0, .int v1] σ (some (.int r.1)) r.2 :=
 a0l pnC rfl (a1m hw) a0E ha (fun X h1 K => b5g K hw h)
abbrev b2e := KKQ ⟨5, 0, 0, 72⟩ "textLength" c68 2 (some .int)
def a1Z (NF : Nat) (σ : St) (v1 : Int32) : Option (Int32 × St) :=
 ((a2e NF σ v1).bind fun q2 => (if q2.1 = 0 then (some ((-1 : Int32), q2.2)) else (some ((gI q2.2 149), q2.2))))
theorem b2j {NF : Nat} (K : b2e X Z a0 l n1 a h0) (hw : HW a0 Z) {σ : St} {v1 : Int32} {r : Int32 × St} (h : a1Z NF σ v1 = some r) : Go X (vvI r.1, (r.2, 24)) 0 [some (.ref 0), vvI v1] [] (σ, 24) := by
 unfold a1Z at h
 refine a0a K.1 a92.1.1.1 rfl (a0b K.1 a92.1.1.2 rfl ?_)
 obtain ⟨q2, hq2, h⟩ := bsq h
 refine a0g (vs := [.int v1]) K a92.1.2.1 (b86 hw) (b9h hw) (b9G hw) (b84 hw) hyC a1D rfl rfl (a44 l Z a0 hw n1 a (a0i K) hq2) rfl (nbq rfl) (nbq rfl) rfl rfl ?_
 rcases ifs h with ⟨hc5, h⟩ | ⟨hc5, h⟩
 ·refine a0t K.1 a92.1.2.2 ((if0 _ _).trans (teq hc5).2) ?_
  refine a0c (v := -1) K.1 a92.2.2.2 (by decide) ?_
  cases h; exact a0e K.1 b7X (a0w K)
 refine a0u (pc' := 10) K.1 a92.1.2.2 (by decide) ((if0 _ _).trans (feq hc5).2) ?_
 refine a0a K.1 a92.2.1.1 rfl (a0s K a92.2.1.2 (w77 hw) a1y ?_)
 cases h; exact a0e K.1 a92.2.2.1 (a0w K)
theorem a6v (l : Launch) (Z : State) (a0 : Array Value) (hw : HW a0 Z) (n1 : Nat) (a : Addr) (ha : n1 ≤ a) {NF : Nat} {σ : St} {v1 : Int32} {r : Int32 × St} (h : a1Z NF σ v1 = some r) : Con l Z cC cFS cFA 24 n1 a ⟨cC, "textLength", "(I)I"⟩ c68 2 (some .int) ⟨5, 0, 0, 72⟩ [.ref 0, .int v1] σ (some (.int r.1)) r.2 :=
 a0l pnC rfl (a1m hw) a0E ha (fun X h1 K => b2j K hw h)
abbrev b6x (X : Cx (List (St × Nat))) (Z : State) (a0 : Array Value) (l : Launch) (n1 : Nat) (sc : Addr) (H0 : Heap) : Prop := b5Z X Z a0 cC cFS cFA 24 39 l n1 sc H0 ceS ⟨0, 0, 0, 0⟩ 0 0 "BoxedArrayLangL3" "len" c69 1 (some .int)
def b5e (v0 : Int32) : Option (Int32) :=
 (if v0 < 0 then (some (2 : Int32)) else (some (1 : Int32)))
theorem b6g {X : Cx (List (St × Nat))} {y0 : St} (K : b6x X Z a0 l n1 sc H0) (hw : HW a0 Z) {v0 r : Int32} (h : b5e v0 = some r) : Go X (vvI r, [(y0, 24)]) 0 [vvI v0] [] [(y0, 24)] := by
 unfold b5e at h
 refine a0b K.1 b1s.1.1.1 rfl ?_
 rcases ifs h with ⟨hc1, h⟩ | ⟨hc1, h⟩
 ·refine a0t K.1 b1s.1.1.2 ((if0 _ _).trans (tlt hc1).2.1) ?_
  refine a0c (v := 2) K.1 b1s.2.1.1 (by decide) ?_
  refine a0y (pc' := 9) K.1 b1s.2.1.2 (by decide) ?_
  cases h; exact a0e K.1 b1s.2.2 (b2A K (ble rfl) (ble rfl))
 refine a0u (pc' := 8) K.1 b1s.1.1.2 (by decide) ((if0 _ _).trans (flt hc1).2.1) ?_
 refine a0c (v := 1) K.1 b1s.1.2 (by decide) ?_
 cases h; exact a0e K.1 b1s.2.2 (b2A K (ble rfl) (ble rfl))
theorem b2p (l : Launch) (Z : State) (a0 : Array Value) (hw : HW a0 Z) (n1 : Nat) (sc : Addr) (H0 : Heap) (hH : H0.size = n1) {y0 : St} {v0 r : Int32} (h : b5e v0 = some r) : b7E l Z cC cFS cFA 24 n1 sc H0 ⟨"BoxedArrayLangL3", "len", "(I)I"⟩ c69 1 (some .int) ⟨0, 0, 0, 0⟩ [.int v0] [(y0, 24)] (some (.int r)) [(y0, 24)] :=
 b0T pnL rfl (a1m hw) a0E hH (fun X K => b6g K hw h)
abbrev b5t := KKQ ⟨2, 0, 0, 31⟩ "match" c70 3 (some .boolean)
def b3q (NF : Nat) (σ : St) (v1 v2 : Int32) : Option (Int32 × St) :=
 ((a16 σ v1).bind fun q2 => (if q2.1 = 0 then (some ((0 : Int32), q2.2)) else ((a16 q2.2 v2).bind fun q10 => (if q10.1 = 0 then (some ((0 : Int32), q10.2)) else (if 0 ≤ (v1).toInt ∧ (v1).toInt < 5 then (if 0 ≤ (v2).toInt ∧ (v2).toInt < 5 then ((a1J NF q10.2 (gA q10.2 9 (v1).toInt) (gA q10.2 9 (v2).toInt)).bind fun q31 => (some ((nar .boolean q31.1), q31.2))) else none) else none)))))
theorem b49 {NF : Nat} (K : b5t X Z a0 l n1 a h0) (hw : HW a0 Z) {σ : St} {v1 v2 : Int32} {r : Int32 × St} (h : b3q NF σ v1 v2 = some r) : Go X (vvI r.1, (r.2, 24)) 0 [some (.ref 0), vvI v1, vvI v2] [] (σ, 24) := by
 unfold b3q at h
 refine a0a K.1 a8W.1.1.1 rfl (a0b K.1 a8W.1.1.2 rfl ?_)
 obtain ⟨q2, hq2, h⟩ := bsq h
 refine b0S (vs := [.int v1]) K a8W.1.2.1 (b7d hw) (b7b hw) (b61 hw) (b7i hw) (b65 hw) hyC a1D rfl rfl (a1A l Z a0 hw n1 a (a0i K) hq2) rfl (nbq rfl) (nbq rfl) rfl rfl ?_
 rcases ifs h with ⟨hc5, h⟩ | ⟨hc5, h⟩
 ·refine a0u (pc' := 16) K.1 a8W.1.2.2 (by decide) ((if0 _ _).trans (teq hc5).1) ?_
  refine a0c (v := 0) K.1 a9D.2.1 (by decide) ?_
  cases h; exact a0h (t := .boolean) K.1 rfl (Or.inl rfl) a9D.2.2 rfl (a0w K)
 refine a0t K.1 a8W.1.2.2 ((if0 _ _).trans (feq hc5).1) (a0a K.1 a8W.2.1.1 rfl (a0b K.1 a8W.2.1.2 rfl ?_))
 obtain ⟨q10, hq10, h⟩ := bsq h
 refine b0S (vs := [.int v2]) K a8W.2.2.1 (b7d hw) (b7b hw) (b61 hw) (b7i hw) (b65 hw) hyC a1D rfl rfl (a1A l Z a0 hw n1 a (a0i K) hq10) rfl (nbq rfl) (nbq rfl) rfl rfl ?_
 rcases ifs h with ⟨hc13, h⟩ | ⟨hc13, h⟩
 ·refine a0t K.1 a8W.2.2.2 ((if0 _ _).trans (teq hc13).2) ?_
  refine a0c (v := 0) K.1 a9D.2.1 (by decide) ?_
  cases h; exact a0h (t := .boolean) K.1 rfl (Or.inl rfl) a9D.2.2 rfl (a0w K)
 refine a0u (pc' := 18) K.1 a8W.2.2.2 (by decide) ((if0 _ _).trans (feq hc13).2) ?_
 refine a0a K.1 b1g.1.1.1 rfl (a0a K.1 b1g.1.1.2 rfl (a0k K b1g.1.2.1 (w30 hw) a2R rfl (a0b K.1 b1g.1.2.2 rfl ?_)))
 obtain ⟨hc24, h⟩ := ifn h
 refine a0j K b1g.2.1.1 a2T rfl hc24 (a0a K.1 b1g.2.1.2 rfl (a0k K b1g.2.2.1 (w30 hw) a2R rfl (a0b K.1 b1g.2.2.2 rfl ?_)))
 obtain ⟨hc30, h⟩ := ifn h
 refine a0j K a9D.1.1.1 a2T rfl hc30 ?_
 obtain ⟨q31, hq31, h⟩ := bsq h
 refine a0g (vs := [.int (gA q10.2 9 (v1).toInt), .int (gA q10.2 9 (v2).toInt)]) K a9D.1.1.2 (b9B hw) (b9l hw) (b9e hw) (b83 hw) hyC b8t rfl rfl (a3V l Z a0 hw n1 a (a0i K) hq31) rfl (nbq rfl) (nbq rfl) rfl rfl ?_
 cases h; exact a0h (t := .boolean) K.1 rfl (Or.inl rfl) a9D.1.2 rfl (a0w K)
theorem b4M (l : Launch) (Z : State) (a0 : Array Value) (hw : HW a0 Z) (n1 : Nat) (a : Addr) (ha : n1 ≤ a) {NF : Nat} {σ : St} {v1 v2 : Int32} {r : Int32 × St} (h : b3q NF σ v1 v2 = some r) : Con l Z cC cFS cFA 24 n1 a ⟨cC, "match", "(II)Z"⟩ c70 3 (some .boolean) ⟨2, 0, 0, 31⟩ [.ref 0, .int v1, .int v2] σ (some (.int r.1)) r.2 :=
 a0l pnC rfl (a1m hw) a0E ha (fun X h1 K => b49 K hw h)
abbrev b6l (X : Cx (List (St × Nat))) (Z : State) (a0 : Array Value) (l : Launch) (n1 : Nat) (sc : Addr) (H0 : Heap) : Prop := b5Z X Z a0 cC cFS cFA 24 39 l n1 sc H0 ceS ⟨0, 0, 0, 0⟩ 0 0 "BoxedArrayLangL3" "dig" c71 1 (some .int)
def b4j (v0 : Int32) : Option (Int32) :=
 (some (((v0 % 10) + 10) % 10))
theorem b6u {X : Cx (List (St × Nat))} (K : b6l X Z a0 l n1 sc H0) (hw : HW a0 Z) {v0 r : Int32} (h : b4j v0 = some r) : Go X (vvI r, []) 0 [vvI v0] [] [] := by
 unfold b4j at h
 refine a0b K.1 b1f.1.1.1 rfl ?_
 refine a0d (v := 10) K.1 b1f.1.1.2 (by decide) ?_
 refine b3m K.1 b1f.1.2.1 (by decide) ?_
 refine a0d (v := 10) K.1 b1f.1.2.2 (by decide) ?_
 refine a0z K.1 b1f.2.1.1 ?_
 refine a0d (v := 10) K.1 b1f.2.1.2 (by decide) ?_
 refine b3m K.1 b1f.2.2.1 (by decide) ?_
 cases h; exact a0e K.1 b1f.2.2.2 (b2A K (ble rfl) (ble rfl))
theorem b18 (l : Launch) (Z : State) (a0 : Array Value) (hw : HW a0 Z) (n1 : Nat) (sc : Addr) (H0 : Heap) (hH : H0.size = n1) {v0 r : Int32} (h : b4j v0 = some r) : b7E l Z cC cFS cFA 24 n1 sc H0 ⟨"BoxedArrayLangL3", "dig", "(I)I"⟩ c71 1 (some .int) ⟨0, 0, 0, 0⟩ [.int v0] [] (some (.int r)) [] :=
 b0T pnL rfl (a1m hw) a0E hH (fun X K => b6u K hw h)
abbrev b5p := KKQ ⟨0, 0, 0, 0⟩ "clamp" c73 4 (some .int)
def a9u (σ : St) (v1 v2 v3 : Int32) : Option (Int32 × St) :=
 (if v1 < v2 then (some (v2, σ)) else (if v3 < v1 then (some (v3, σ)) else (some (v1, σ))))
theorem b5n (K : b5p X Z a0 l n1 a h0) (hw : HW a0 Z) {σ : St} {v1 v2 v3 : Int32} {r : Int32 × St} (h : a9u σ v1 v2 v3 = some r) : Go X (vvI r.1, (r.2, 24)) 0 [some (.ref 0), vvI v1, vvI v2, vvI v3] [] (σ, 24) := by
 unfold a9u at h
 refine a0b K.1 a85.1.1.1 rfl (a0b K.1 a85.1.1.2 rfl ?_)
 rcases ifs h with ⟨hc2, h⟩ | ⟨hc2, h⟩
 ·refine a0o K.1 a85.1.2.1 ((tlt hc2).2.1) (a0b K.1 b4X.2.1 rfl ?_)
  cases h; exact a0e K.1 b4X.2.2 (a0w K)
 refine a0p (pc' := 7) K.1 a85.1.2.1 (by decide) ((flt hc2).2.1) ?_
 refine a0b K.1 a85.1.2.2 rfl (a0b K.1 a85.2.1.1 rfl ?_)
 rcases ifs h with ⟨hc9, h⟩ | ⟨hc9, h⟩
 ·refine a0o K.1 a85.2.1.2 ((tlt hc9).2.2.2) (a0b K.1 b4X.1.1 rfl ?_)
  cases h; exact a0e K.1 b4X.1.2 (a0w K)
 refine a0p (pc' := 14) K.1 a85.2.1.2 (by decide) ((flt hc9).2.2.2) ?_
 refine a0b K.1 a85.2.2.1 rfl ?_
 cases h; exact a0e K.1 a85.2.2.2 (a0w K)
theorem b19 (l : Launch) (Z : State) (a0 : Array Value) (hw : HW a0 Z) (n1 : Nat) (a : Addr) (ha : n1 ≤ a) {σ : St} {v1 v2 v3 : Int32} {r : Int32 × St} (h : a9u σ v1 v2 v3 = some r) : Con l Z cC cFS cFA 24 n1 a ⟨cC, "clamp", "(III)I"⟩ c73 4 (some .int) ⟨0, 0, 0, 0⟩ [.ref 0, .int v1, .int v2, .int v3] σ (some (.int r.1)) r.2 :=
 a0l pnC rfl (a1m hw) a0E ha (fun X h1 K => b5n K hw h)
abbrev a6X (X : Cx (St × Nat)) (Z : State) (a0 : Array Value) (l : Launch) (n1 : Nat) (a : Addr) (h0 : Heap) : Prop := b3Y X Z a0 cC cFS cFA 24 39 l n1 a h0 (ceI cFA) ⟨1, 24, 14548, 16⟩ "<init>" c72 4 none
def a2q (NF : Nat) (k263 : b6H) (i3 : Int32) (σ : St) : Option (St) :=
 (if i3 < 5 then (if 0 ≤ (i3).toInt ∧ (i3).toInt < 5 then k263 (i3 + 1) (sA σ 9 (i3).toInt (-1 : Int32)) else none) else (some (sI (sI (sI σ 117 (0 : Int32)) 150 (-1 : Int32)) 149 (0 : Int32))))
theorem b23 {NF : Nat} (K : a6X X Z a0 l n1 a h0) (hw : HW a0 Z) (hh : h0.size = a + 1) {k263 : Int32 → St → Option (St)} {i3 : Int32} {σ : St} {r : St} (hk263 : ∀ (i3 : Int32) (σ : St) (h : k263 i3 σ = some r), Go X (none, (r, 24)) 263 [some (.ref 0), none, none, vvI i3] [] (σ, 24)) (h : a2q NF k263 i3 σ = some r) : Go X (none, (r, 24)) 263 [some (.ref 0), none, none, vvI i3] [] (σ, 24) := by
 unfold a2q at h
 refine a0b K.1 a24.1.2.1 rfl ?_
 refine a0c (v := 5) K.1 a24.1.2.2 (by decide) ?_
 rcases ifs h with ⟨hc265, h⟩ | ⟨hc265, h⟩
 ·refine a0o K.1 a24.2.1.1 ((tlt hc265).2.1) (a0a K.1 a3X.2.2.2 rfl (a0k K a3J.1.1.1 (w30 hw) a2R rfl (a0b K.1 a3J.1.1.2 rfl ?_)))
  refine a0c (v := -1) K.1 a3J.1.2.1 (by decide) ?_
  obtain ⟨hc274, h⟩ := ifn h
  refine a0r K a3J.1.2.2 a2T rfl hc274 ?_
  refine a09 (w := 1) (L' := [some (.ref 0), none, none, some (.int (i3 + 1))]) K.1 a3J.2.1.1 rfl (by decide) rfl ?_
  refine a0y (pc' := 263) K.1 a3J.2.1.2 (by decide) ?_
  exact hk263 _ _ h
 refine a0p (pc' := 281) K.1 a24.2.1.1 (by decide) ((flt hc265).2.1) ?_
 refine a0a K.1 a24.2.1.2 rfl ?_
 refine a0c (v := 0) K.1 a24.2.2.1 (by decide) ?_
 refine a0R (t := .int) (v' := (0 : Int32)) K a24.2.2.2 (w73 hw) a1i (Or.inl (w74 hw)) a1o rfl rfl (a0a K.1 a3X.1.1.1 rfl ?_)
 refine a0c (v := -1) K.1 a3X.1.1.2 (by decide) ?_
 refine a0R (t := .int) (v' := (-1 : Int32)) K a3X.1.2.1 (w75 hw) a8y (Or.inl (w76 hw)) a1o rfl rfl (a0a K.1 a3X.1.2.2 rfl ?_)
 refine a0c (v := 0) K.1 a3X.2.1.1 (by decide) ?_
 refine a0R (t := .int) (v' := (0 : Int32)) K a3X.2.1.2 (w77 hw) a1y (Or.inl (w78 hw)) a1o rfl rfl ?_
 cases h; exact a0F K.1 a3X.2.2.1 (a0w K)
def a2p (NF : Nat)  : Nat → b6H
 | 0 => fun _ _ => none
 | n + 1 => fun i3 σ => a2q NF  (a2p NF  n) i3 σ
theorem b3e {NF : Nat} (K : a6X X Z a0 l n1 a h0) (hw : HW a0 Z) (hh : h0.size = a + 1) (n : Nat)  {r : St}  : ∀ (i3 : Int32) (σ : St) (h : a2p NF  n i3 σ = some r), Go X (none, (r, 24)) 263 [some (.ref 0), none, none, vvI i3] [] (σ, 24) := by
 induction n with
 | zero => intro i3 σ h; cases h
 | succ n ih => intro i3 σ h; exact b23 (NF := NF) K hw hh  ih h
def a2n (NF : Nat) (k230 : b6H) (i3 : Int32) (σ : St) : Option (St) :=
 (if i3 < 1024 then (if 0 ≤ (i3).toInt ∧ (i3).toInt < 1024 then k230 (i3 + 1) (sA σ 7 (i3).toInt ((1023 : Int32) - i3)) else none) else a2p NF NF (0 : Int32) (sI σ 124 (1024 : Int32)))
theorem b2Z {NF : Nat} (K : a6X X Z a0 l n1 a h0) (hw : HW a0 Z) (hh : h0.size = a + 1) {k230 : Int32 → St → Option (St)} {i3 : Int32} {σ : St} {r : St} (hk230 : ∀ (i3 : Int32) (σ : St) (h : k230 i3 σ = some r), Go X (none, (r, 24)) 230 [some (.ref 0), none, none, vvI i3] [] (σ, 24)) (h : a2n NF k230 i3 σ = some r) : Go X (none, (r, 24)) 230 [some (.ref 0), none, none, vvI i3] [] (σ, 24) := by
 unfold a2n at h
 refine a0b K.1 a22.1.2.1 rfl ?_
 refine a0I (v := 1024) K.1 a22.1.2.2 (by decide) ?_
 rcases ifs h with ⟨hc234, h⟩ | ⟨hc234, h⟩
 ·refine a0o K.1 a22.2.1.1 ((tlt hc234).2.1) (a0a K.1 a3J.2.2.1 rfl (a0k K a3J.2.2.2 (w26 hw) a5K rfl (a0b K.1 a5c.1.1.1 rfl ?_)))
  refine a0I (v := 1023) K.1 a5c.1.1.2 (by decide) ?_
  refine a0b K.1 a5c.1.2.1 rfl (a1l K.1 a5c.1.2.2 ?_)
  obtain ⟨hc247, h⟩ := ifn h
  refine a0r K a5c.2.1.1 a46 rfl hc247 ?_
  refine a09 (w := 1) (L' := [some (.ref 0), none, none, some (.int (i3 + 1))]) K.1 a5c.2.1.2 rfl (by decide) rfl ?_
  refine a0y (pc' := 230) K.1 a5c.2.2 (by decide) ?_
  exact hk230 _ _ h
 refine a0p (pc' := 254) K.1 a22.2.1.1 (by decide) ((flt hc234).2.1) ?_
 refine a0a K.1 a22.2.1.2 rfl ?_
 refine a0I (v := 1024) K.1 a22.2.2.1 (by decide) ?_
 refine a0R (t := .int) (v' := (1024 : Int32)) K a22.2.2.2 (w71 hw) a1a (Or.inl (w72 hw)) a1o rfl rfl ?_
 refine a0c (v := 0) K.1 a24.1.1.1 (by decide) ?_
 refine a0m (L' := [some (.ref 0), none, none, some (.int (0 : Int32))]) K.1 a24.1.1.2 (blt rfl) rfl ?_
 exact b3e K hw hh NF  _ _ h
def a3v (NF : Nat)  : Nat → b6H
 | 0 => fun _ _ => none
 | n + 1 => fun i3 σ => a2n NF  (a3v NF  n) i3 σ
theorem b3h {NF : Nat} (K : a6X X Z a0 l n1 a h0) (hw : HW a0 Z) (hh : h0.size = a + 1) (n : Nat)  {r : St}  : ∀ (i3 : Int32) (σ : St) (h : a3v NF  n i3 σ = some r), Go X (none, (r, 24)) 230 [some (.ref 0), none, none, vvI i3] [] (σ, 24) := by
 induction n with
 | zero => intro i3 σ h; cases h
 | succ n ih => intro i3 σ h; exact b2Z (NF := NF) K hw hh  ih h
def b3i (NF : Nat) (v1 v2 : Int32) : Option (St) :=
 ((a9u z0 v1 (2 : Int32) (8 : Int32)).bind fun q209 => ((a9u (sI q209.2 114 q209.1) v2 (8 : Int32) (24 : Int32)).bind fun q222 => a3v NF NF (0 : Int32) (sI q222.2 115 q222.1)))
theorem b51 {NF : Nat} (K : a6X X Z a0 l n1 a h0) (hw : HW a0 Z) (hh : h0.size = a + 1) {v1 v2 : Int32} {r : St} (h : b3i NF v1 v2 = some r) : Go X (none, (r, 24)) 0 [some (.ref 0), vvI v1, vvI v2, none] [] (z0, 0) := by
 unfold b3i at h
 refine a0a K.1 b1r.1.1.1 rfl ?_
 refine b5B K b1r.1.1.2 (w10 hw) (w11 hw) (w12 hw) rfl (by decide) (by decide) ?_
 refine a0a K.1 b1r.1.2.1 rfl ?_
 refine a0d (v := 32) K.1 b1r.1.2.2 (by decide) ?_
 refine a0M (j := 0) K b1r.2.1.1 b1r.2.1.2 (w13 hw) (w14 hw) b3N (Or.inl (w15 hw)) a1p (fun _ => rfl) (fun _ => rfl) (Or.inl rfl) b3B rfl rfl (by decide) (by decide) (by decide) hh rfl (by decide) (by decide) (by decide) (fun _ => rfl) ?_
 refine a0a K.1 b1r.2.2.1 rfl ?_
 refine a0I (v := 1024) K.1 b1r.2.2.2 (by decide) ?_
 refine a0M (j := 1) K b1p.1.1.1 b1p.1.1.2 (w13 hw) (w16 hw) a0L (Or.inl (w17 hw)) a1p (fun _ => rfl) (fun _ => rfl) (Or.inl rfl) a0K rfl rfl (by decide) (by decide) (by decide) hh rfl (by decide) (by decide) (by decide) (fun _ => rfl) ?_
 refine a0a K.1 b1p.1.2.1 rfl ?_
 refine a0I (v := 1024) K.1 b1p.1.2.2 (by decide) ?_
 refine a0M (j := 2) K b1p.2.1.1 b1p.2.1.2 (w13 hw) (w18 hw) b0Q (Or.inl (w19 hw)) a1p (fun _ => rfl) (fun _ => rfl) (Or.inl rfl) a7Q rfl rfl (by decide) (by decide) (by decide) hh rfl (by decide) (by decide) (by decide) (fun _ => rfl) ?_
 refine a0a K.1 b1p.2.2.1 rfl ?_
 refine a0I (v := 1024) K.1 b1p.2.2.2 (by decide) ?_
 refine a0M (j := 3) K a8p.1.1.1 a8p.1.1.2 (w13 hw) (w20 hw) a1N (Or.inl (w21 hw)) a1p (fun _ => rfl) (fun _ => rfl) (Or.inl rfl) a1B rfl rfl (by decide) (by decide) (by decide) hh rfl (by decide) (by decide) (by decide) (fun _ => rfl) ?_
 refine a0a K.1 a8p.1.2.1 rfl ?_
 refine a0I (v := 1024) K.1 a8p.1.2.2 (by decide) ?_
 refine a0M (j := 4) K a8p.2.1.1 a8p.2.1.2 (w13 hw) (w22 hw) a1r (Or.inl (w23 hw)) a1p (fun _ => rfl) (fun _ => rfl) (Or.inl rfl) a1n rfl rfl (by decide) (by decide) (by decide) hh rfl (by decide) (by decide) (by decide) (fun _ => rfl) ?_
 refine a0a K.1 a8p.2.2.1 rfl ?_
 refine a0I (v := 8192) K.1 a8p.2.2.2 (by decide) ?_
 refine a0M (j := 5) K a6D.1.1.1 a6D.1.1.2 (w13 hw) (w24 hw) a4a (Or.inl (w25 hw)) a1p (fun _ => rfl) (fun _ => rfl) (Or.inl rfl) a3N rfl rfl (by decide) (by decide) (by decide) hh rfl (by decide) (by decide) (by decide) (fun _ => rfl) ?_
 refine a0a K.1 a6D.1.2.1 rfl ?_
 refine a0I (v := 1024) K.1 a6D.1.2.2 (by decide) ?_
 refine a0M (j := 6) K a6D.2.1.1 a6D.2.1.2 (w13 hw) (w26 hw) a5K (Or.inl (w27 hw)) a1p (fun _ => rfl) (fun _ => rfl) (Or.inl rfl) a46 rfl rfl (by decide) (by decide) (by decide) hh rfl (by decide) (by decide) (by decide) (fun _ => rfl) ?_
 refine a0a K.1 a6D.2.2.1 rfl ?_
 refine a0I (v := 256) K.1 a6D.2.2.2 (by decide) ?_
 refine a0M (j := 7) K a71.1.1.1 a71.1.1.2 (w13 hw) (w28 hw) a5Y (Or.inl (w29 hw)) a1p (fun _ => rfl) (fun _ => rfl) (Or.inl rfl) a5a rfl rfl (by decide) (by decide) (by decide) hh rfl (by decide) (by decide) (by decide) (fun _ => rfl) ?_
 refine a0a K.1 a71.1.2.1 rfl ?_
 refine a0c (v := 5) K.1 a71.1.2.2 (by decide) ?_
 refine a0M (j := 8) K a71.2.1.1 a71.2.1.2 (w13 hw) (w30 hw) a2R (Or.inl (w31 hw)) a1p (fun _ => rfl) (fun _ => rfl) (Or.inl rfl) a2T rfl rfl (by decide) (by decide) (by decide) hh rfl (by decide) (by decide) (by decide) (fun _ => rfl) ?_
 refine a0a K.1 a71.2.2.1 rfl ?_
 refine a0d (v := 33) K.1 a71.2.2.2 (by decide) ?_
 refine a0M (j := 9) K a6E.1.1.1 a6E.1.1.2 (w13 hw) (w32 hw) a1V (Or.inl (w33 hw)) a1p (fun _ => rfl) (fun _ => rfl) (Or.inl rfl) a1W rfl rfl (by decide) (by decide) (by decide) hh rfl (by decide) (by decide) (by decide) (fun _ => rfl) ?_
 refine a0a K.1 a6E.1.2.1 rfl ?_
 refine a0d (v := 33) K.1 a6E.1.2.2 (by decide) ?_
 refine a0M (j := 10) K a6E.2.1.1 a6E.2.1.2 (w13 hw) (w34 hw) a3B (Or.inl (w35 hw)) a1p (fun _ => rfl) (fun _ => rfl) (Or.inl rfl) a3c rfl rfl (by decide) (by decide) (by decide) hh rfl (by decide) (by decide) (by decide) (fun _ => rfl) ?_
 refine a0a K.1 a6E.2.2.1 rfl ?_
 refine a0d (v := 33) K.1 a6E.2.2.2 (by decide) ?_
 refine a0M (j := 11) K a8o.1.1.1 a8o.1.1.2 (w13 hw) (w36 hw) a56 (Or.inl (w37 hw)) a1p (fun _ => rfl) (fun _ => rfl) (Or.inl rfl) a5t rfl rfl (by decide) (by decide) (by decide) hh rfl (by decide) (by decide) (by decide) (fun _ => rfl) ?_
 refine a0a K.1 a8o.1.2.1 rfl ?_
 refine a0d (v := 33) K.1 a8o.1.2.2 (by decide) ?_
 refine a0M (j := 12) K a8o.2.1.1 a8o.2.1.2 (w13 hw) (w38 hw) b2D (Or.inl (w39 hw)) a1p (fun _ => rfl) (fun _ => rfl) (Or.inl rfl) b2v rfl rfl (by decide) (by decide) (by decide) hh rfl (by decide) (by decide) (by decide) (fun _ => rfl) ?_
 refine a0a K.1 a8o.2.2.1 rfl ?_
 refine a0d (v := 33) K.1 a8o.2.2.2 (by decide) ?_
 refine a0M (j := 13) K a7f.1.1.1 a7f.1.1.2 (w13 hw) (w40 hw) b4x (Or.inl (w41 hw)) a1p (fun _ => rfl) (fun _ => rfl) (Or.inl rfl) b4T rfl rfl (by decide) (by decide) (by decide) hh rfl (by decide) (by decide) (by decide) (fun _ => rfl) ?_
 refine a0a K.1 a7f.1.2.1 rfl ?_
 refine a0d (v := 33) K.1 a7f.1.2.2 (by decide) ?_
 refine a0M (j := 14) K a7f.2.1.1 a7f.2.1.2 (w13 hw) (w42 hw) b50 (Or.inl (w43 hw)) a1p (fun _ => rfl) (fun _ => rfl) (Or.inl rfl) b5M rfl rfl (by decide) (by decide) (by decide) hh rfl (by decide) (by decide) (by decide) (fun _ => rfl) ?_
 refine a0a K.1 a7f.2.2.1 rfl ?_
 refine a0d (v := 33) K.1 a7f.2.2.2 (by decide) ?_
 refine a0M (j := 15) K a6H.1.1.1 a6H.1.1.2 (w13 hw) (w44 hw) b2J (Or.inl (w45 hw)) a1p (fun _ => rfl) (fun _ => rfl) (Or.inl rfl) b2k rfl rfl (by decide) (by decide) (by decide) hh rfl (by decide) (by decide) (by decide) (fun _ => rfl) ?_
 refine a0a K.1 a6H.1.2.1 rfl ?_
 refine a0d (v := 80) K.1 a6H.1.2.2 (by decide) ?_
 refine a0M (j := 16) K a6H.2.1.1 a6H.2.1.2 (w13 hw) (w46 hw) a8w (Or.inl (w47 hw)) a1p (fun _ => rfl) (fun _ => rfl) (Or.inl rfl) a8r rfl rfl (by decide) (by decide) (by decide) hh rfl (by decide) (by decide) (by decide) (fun _ => rfl) ?_
 refine a0a K.1 a6H.2.2.1 rfl ?_
 refine a0d (v := 80) K.1 a6H.2.2.2 (by decide) ?_
 refine a0M (j := 17) K a7B.1.1.1 a7B.1.1.2 (w13 hw) (w48 hw) a3t (Or.inl (w49 hw)) a1p (fun _ => rfl) (fun _ => rfl) (Or.inl rfl) a3i rfl rfl (by decide) (by decide) (by decide) hh rfl (by decide) (by decide) (by decide) (fun _ => rfl) ?_
 refine a0a K.1 a7B.1.2.1 rfl ?_
 refine a0d (v := 40) K.1 a7B.1.2.2 (by decide) ?_
 refine a0M (j := 18) K a7B.2.1.1 a7B.2.1.2 (w13 hw) (w50 hw) a4T (Or.inl (w51 hw)) a1p (fun _ => rfl) (fun _ => rfl) (Or.inl rfl) a4X rfl rfl (by decide) (by decide) (by decide) hh rfl (by decide) (by decide) (by decide) (fun _ => rfl) ?_
 refine a0a K.1 a7B.2.2.1 rfl ?_
 refine a0d (v := 64) K.1 a7B.2.2.2 (by decide) ?_
 refine a0M (j := 19) K a7x.1.1.1 a7x.1.1.2 (w13 hw) (w52 hw) b6S (Or.inl (w53 hw)) a1p (fun _ => rfl) (fun _ => rfl) (Or.inl rfl) b6G rfl rfl (by decide) (by decide) (by decide) hh rfl (by decide) (by decide) (by decide) (fun _ => rfl) ?_
 refine a0a K.1 a7x.1.2.1 rfl ?_
 refine a0d (v := 64) K.1 a7x.1.2.2 (by decide) ?_
 refine a0M (j := 20) K a7x.2.1.1 a7x.2.1.2 (w13 hw) (w54 hw) b6Z (Or.inl (w55 hw)) a1p (fun _ => rfl) (fun _ => rfl) (Or.inl rfl) b6Q rfl rfl (by decide) (by decide) (by decide) hh rfl (by decide) (by decide) (by decide) (fun _ => rfl) ?_
 refine a0a K.1 a7x.2.2.1 rfl ?_
 refine a0I (v := 256) K.1 a7x.2.2.2 (by decide) ?_
 refine a0M (j := 21) K a8a.1.1.1 a8a.1.1.2 (w56 hw) (w57 hw) b4B (Or.inl (w58 hw)) b7G (fun _ => rfl) (fun _ => rfl) (Or.inr (Or.inr rfl)) b4R rfl rfl (by decide) (by decide) (by decide) hh rfl (by decide) (by decide) (by decide) (fun _ => rfl) ?_
 refine a0a K.1 a8a.1.2.1 rfl ?_
 refine a0d (v := 64) K.1 a8a.1.2.2 (by decide) ?_
 refine a0M (j := 22) K a8a.2.1.1 a8a.2.1.2 (w13 hw) (w59 hw) b6k (Or.inl (w60 hw)) a1p (fun _ => rfl) (fun _ => rfl) (Or.inl rfl) b6q rfl rfl (by decide) (by decide) (by decide) hh rfl (by decide) (by decide) (by decide) (fun _ => rfl) ?_
 refine a0a K.1 a8a.2.2.1 rfl ?_
 refine a0d (v := 64) K.1 a8a.2.2.2 (by decide) ?_
 refine a0M (j := 23) K a7O.1.1.1 a7O.1.1.2 (w13 hw) (w61 hw) b5L (Or.inl (w62 hw)) a1p (fun _ => rfl) (fun _ => rfl) (Or.inl rfl) b5K rfl rfl (by decide) (by decide) (by decide) hh rfl (by decide) (by decide) (by decide) (fun _ => rfl) ?_
 refine a0a K.1 a7O.1.2.1 rfl (a0a K.1 a7O.1.2.2 rfl (a0b K.1 a7O.2.1.1 rfl ?_))
 refine a0c (v := 2) K.1 a7O.2.1.2 (by decide) ?_
 refine a0d (v := 8) K.1 a7O.2.2.1 (by decide) ?_
 obtain ⟨q209, hq209, h⟩ := bsq h
 refine a0g (vs := [.int v1, .int (2 : Int32), .int (8 : Int32)]) K a7O.2.2.2 (w63 hw) (w64 hw) (w65 hw) (w66 hw) hyC b7n rfl rfl (b19 l Z a0 hw n1 a (a0i K) hq209) rfl (nbq rfl) (nbq rfl) rfl rfl (a0R (t := .int) (v' := q209.1) K a3Z.1.1.1 (w67 hw) a8x (Or.inl (w68 hw)) a1o rfl rfl (a0a K.1 a3Z.1.1.2 rfl (a0a K.1 a3Z.1.2.1 rfl (a0b K.1 a3Z.1.2.2 rfl ?_))))
 refine a0d (v := 8) K.1 a3Z.2.1.1 (by decide) ?_
 refine a0d (v := 24) K.1 a3Z.2.1.2 (by decide) ?_
 obtain ⟨q222, hq222, h⟩ := bsq h
 refine a0g (vs := [.int v2, .int (8 : Int32), .int (24 : Int32)]) K a3Z.2.2.1 (w63 hw) (w64 hw) (w65 hw) (w66 hw) hyC b7n rfl rfl (b19 l Z a0 hw n1 a (a0i K) hq222) rfl (nbq rfl) (nbq rfl) rfl rfl (a0R (t := .int) (v' := q222.1) K a3Z.2.2.2 (w69 hw) a8D (Or.inl (w70 hw)) a1o rfl rfl ?_)
 refine a0c (v := 0) K.1 a22.1.1.1 (by decide) ?_
 refine a0m (L' := [some (.ref 0), vvI v1, vvI v2, some (.int (0 : Int32))]) K.1 a22.1.1.2 (blt rfl) rfl ?_
 exact a0n (b3h K hw hh NF  _ _ h) (ls (ln (ln (ls l0))))
theorem b5z (l : Launch) (Z : State) (a0 : Array Value) (hw : HW a0 Z) (n1 : Nat) (a : Addr) (ha : n1 ≤ a) {NF : Nat} {v1 v2 : Int32} {r : St} (h : b3i NF v1 v2 = some r) : b8A l Z cC cFS cFA 24 n1 a ⟨cC, "<init>", "(II)V"⟩ c72 4 ⟨1, 24, 14548, 16⟩ [.ref 0, .int v1, .int v2] r :=
 b5d pnC rfl (a1m hw) a0E ha (by decide) (by decide) (fun X h1 hh K => b51 K hw hh h)
abbrev b6E (X : Cx (List (St × Nat))) (Z : State) (a0 : Array Value) (l : Launch) (n1 : Nat) (sc : Addr) (H0 : Heap) : Prop := b5Z X Z a0 cC cFS cFA 24 39 l n1 sc H0 (ceL 39 cFA) ⟨13, 64, 29248, 288⟩ 64 29248 "BoxedArrayLangL3" "law" code 11 (some .boolean)
def a8E (NF : Nat)  (i3 i4 : Int32) (i5 i7 : Int32) (i8 t0 t1 : Int32) (x0 : St) : Option (Int32 × List (St × Nat)) :=
 (if t0 = t1 then ((a1X NF x0 i7 (0 : Int32)).bind fun q210 => (if q210.1 = 40 then ((a1X NF q210.2 i7 (1 : Int32)).bind fun q225 => (if q225.1 = (48 + i3) then ((a1X NF q225.2 i7 (6 : Int32)).bind fun q243 => ((b0V (-i5)).bind fun q249 => (if q243.1 = q249 then ((a10 q243.2 (98 : Int32)).bind fun q261 => ((a10 q261.2 (58 : Int32)).bind fun q269 => ((a10 q269.2 (43 : Int32)).bind fun q277 => ((a10 q277.2 (47 : Int32)).bind fun q285 => ((a10 q285.2 (97 : Int32)).bind fun q293 => ((b5m NF q293.2).bind fun q299 => (if q299.1 = 0 then ((b0U q299.2 i8).bind fun q324 => (if q324.1 = 2 then ((b2I q324.2 i8).bind fun q337 => (if q337.1 = 2 then ((b0Y q337.2 i8).bind fun q350 => (if q350.1 = 1 then ((a1Z NF q350.2 i8).bind fun q363 => ((b5e (i3 - i5)).bind fun q368 => ((b5e (i4 - i5)).bind fun q375 => (if q363.1 = ((q368 + 1) + q375) then ((a1X NF q363.2 i8 (0 : Int32)).bind fun q389 => ((b0V (i3 - i5)).bind fun q394 => (if q389.1 = q394 then ((b5e (i3 - i5)).bind fun q408 => ((a1X NF q389.2 i8 (q408 + 1)).bind fun q413 => ((b0V (i4 - i5)).bind fun q418 => (if q413.1 = q418 then ((b3q NF q413.2 (4 : Int32) i8).bind fun q431 => (if q431.1 = 0 then (some ((0 : Int32), [(q431.2, 24)])) else ((b2I q431.2 i7).bind fun q443 => (if q443.1 = 4 then (some ((1 : Int32), [(q443.2, 24)])) else (some ((0 : Int32), [(q443.2, 24)])))))) else (some ((0 : Int32), [(q413.2, 24)])))))) else (some ((0 : Int32), [(q389.2, 24)]))))) else (some ((0 : Int32), [(q363.2, 24)])))))) else (some ((0 : Int32), [(q350.2, 24)])))) else (some ((0 : Int32), [(q337.2, 24)])))) else (some ((0 : Int32), [(q324.2, 24)])))) else (some ((0 : Int32), [(q299.2, 24)]))))))))) else (some ((0 : Int32), [(q243.2, 24)]))))) else (some ((0 : Int32), [(q225.2, 24)])))) else (some ((0 : Int32), [(q210.2, 24)])))) else (some ((0 : Int32), [(x0, 24)])))
theorem b2M {X : Cx (List (St × Nat))} {NF : Nat} (K : b6E X Z a0 l n1 sc H0) (hw : HW a0 Z) (hs0 : hsz X = n1)  {i3 i4 : Int32} {i5 i7 : Int32} {i8 t0 t1 : Int32} {x0 : St} {r : Int32 × List (St × Nat)}  (h : a8E NF  i3 i4 i5 i7 i8 t0 t1 x0 = some r) : Go X (vvI r.1, r.2) 200 [none, none, none, vvI i3, vvI i4, vvI i5, some (.ref 0), vvI i7, vvI i8, none, none] [.int t1, .int t0] [(x0, 24)] := by
 unfold a8E at h
 rcases ifs h with ⟨hc200, h⟩ | ⟨hc200, h⟩
 ·refine a0p (pc' := 205) K.1 at_200 (by decide) ((teq hc200).1) ?_
  refine a0H K.1 at_205 rfl (a0f K.1 at_207 rfl ?_)
  refine a0c (v := 0) K.1 at_209 (by decide) ?_
  obtain ⟨q210, hq210, h⟩ := bsq h
  refine a0W (pc := 210) (vs := [.int i7, .int (0 : Int32)]) (i := 0) (W' := [(q210.2, 24)]) K at_210 (b7I hw) (b7M hw) (b7o hw) (b7B hw) (b7W hw) hyC b54 (by intro v q; simp only [List.mem_cons, List.not_mem_nil, or_false] at q; rcases q with rfl | rfl <;> rfl) (by decide) rfl rfl (fun _ q => by cases q; rfl) rfl rfl (a1G l Z a0 hw n1 _ (Nat.le_add_right _ _) hq210) rfl (ble rfl) (ble rfl) rfl rfl (a0J rfl) (a0N a0v rfl) (a0O a0v rfl) ?_
  refine a0d (v := 40) K.1 at_213 (by decide) ?_
  rcases ifs h with ⟨hc215, h⟩ | ⟨hc215, h⟩
  ·refine a0p (pc' := 220) K.1 at_215 (by decide) ((teq hc215).1) ?_
   refine a0H K.1 at_220 rfl (a0f K.1 at_222 rfl ?_)
   refine a0c (v := 1) K.1 at_224 (by decide) ?_
   obtain ⟨q225, hq225, h⟩ := bsq h
   refine a0W (pc := 225) (vs := [.int i7, .int (1 : Int32)]) (i := 0) (W' := [(q225.2, 24)]) K at_225 (b7I hw) (b7M hw) (b7o hw) (b7B hw) (b7W hw) hyC b54 (by intro v q; simp only [List.mem_cons, List.not_mem_nil, or_false] at q; rcases q with rfl | rfl <;> rfl) (by decide) rfl rfl (fun _ q => by cases q; rfl) rfl rfl (a1G l Z a0 hw n1 _ (Nat.le_add_right _ _) hq225) rfl (ble rfl) (ble rfl) rfl rfl (a0J rfl) (a0N a0v rfl) (a0O a0v rfl) ?_
   refine a0d (v := 48) K.1 at_228 (by decide) ?_
   refine a0b K.1 at_230 rfl (a0z K.1 at_231 ?_)
   rcases ifs h with ⟨hc232, h⟩ | ⟨hc232, h⟩
   ·refine a0p (pc' := 237) K.1 at_232 (by decide) ((teq hc232).1) ?_
    refine a0H K.1 at_237 rfl (a0f K.1 at_239 rfl ?_)
    refine a0d (v := 6) K.1 at_241 (by decide) ?_
    obtain ⟨q243, hq243, h⟩ := bsq h
    refine a0W (pc := 243) (vs := [.int i7, .int (6 : Int32)]) (i := 0) (W' := [(q243.2, 24)]) K at_243 (b7I hw) (b7M hw) (b7o hw) (b7B hw) (b7W hw) hyC b54 (by intro v q; simp only [List.mem_cons, List.not_mem_nil, or_false] at q; rcases q with rfl | rfl <;> rfl) (by decide) rfl rfl (fun _ q => by cases q; rfl) rfl rfl (a1G l Z a0 hw n1 _ (Nat.le_add_right _ _) hq243) rfl (ble rfl) (ble rfl) rfl rfl (a0J rfl) (a0N a0v rfl) (a0O a0v rfl) ?_
    refine a0f K.1 at_246 rfl (b42 K.1 at_248 ?_)
    obtain ⟨q249, hq249, h⟩ := bsq h
    refine a2U (pc := 249) (vs := [.int (-i5)]) (W' := [(q243.2, 24)]) K at_249 (b8M hw) (b8l hw) (w2 hw) (b8T hw) hyL a3e rfl rfl (a9v l Z a0 hw n1 sc H0 (a58 K) hq249) rfl (ble rfl) (ble rfl) rfl rfl (a0J rfl) (a0N a0v rfl) (a0O a0v rfl) ?_
    rcases ifs h with ⟨hc252, h⟩ | ⟨hc252, h⟩
    ·refine a0p (pc' := 257) K.1 at_252 (by decide) ((teq hc252).1) ?_
     refine a0H K.1 at_257 rfl ?_
     refine a0d (v := 98) K.1 at_259 (by decide) ?_
     obtain ⟨q261, hq261, h⟩ := bsq h
     refine a0W (pc := 261) (vs := [.int (98 : Int32)]) (i := 0) (W' := [(q261.2, 24)]) K at_261 (w79 hw) (w81 hw) (w80 hw) (w82 hw) (w83 hw) hyC a1D (by intro v q; simp only [List.mem_cons, List.not_mem_nil, or_false] at q; subst q <;> rfl) (by decide) rfl rfl (fun _ q => by cases q; rfl) rfl rfl (a0V l Z a0 hw n1 _ (Nat.le_add_right _ _) hq261) rfl (ble rfl) (ble rfl) rfl rfl (a0J rfl) (a0N a0v rfl) (a0O a0v rfl) ?_
     refine a8H K.1 at_264 rfl (a0H K.1 at_265 rfl ?_)
     refine a0d (v := 58) K.1 at_267 (by decide) ?_
     obtain ⟨q269, hq269, h⟩ := bsq h
     refine a0W (pc := 269) (vs := [.int (58 : Int32)]) (i := 0) (W' := [(q269.2, 24)]) K at_269 (w79 hw) (w81 hw) (w80 hw) (w82 hw) (w83 hw) hyC a1D (by intro v q; simp only [List.mem_cons, List.not_mem_nil, or_false] at q; subst q <;> rfl) (by decide) rfl rfl (fun _ q => by cases q; rfl) rfl rfl (a0V l Z a0 hw n1 _ (Nat.le_add_right _ _) hq269) rfl (ble rfl) (ble rfl) rfl rfl (a0J rfl) (a0N a0v rfl) (a0O a0v rfl) ?_
     refine a8H K.1 at_272 rfl (a0H K.1 at_273 rfl ?_)
     refine a0d (v := 43) K.1 at_275 (by decide) ?_
     obtain ⟨q277, hq277, h⟩ := bsq h
     refine a0W (pc := 277) (vs := [.int (43 : Int32)]) (i := 0) (W' := [(q277.2, 24)]) K at_277 (w79 hw) (w81 hw) (w80 hw) (w82 hw) (w83 hw) hyC a1D (by intro v q; simp only [List.mem_cons, List.not_mem_nil, or_false] at q; subst q <;> rfl) (by decide) rfl rfl (fun _ q => by cases q; rfl) rfl rfl (a0V l Z a0 hw n1 _ (Nat.le_add_right _ _) hq277) rfl (ble rfl) (ble rfl) rfl rfl (a0J rfl) (a0N a0v rfl) (a0O a0v rfl) ?_
     refine a8H K.1 at_280 rfl (a0H K.1 at_281 rfl ?_)
     refine a0d (v := 47) K.1 at_283 (by decide) ?_
     obtain ⟨q285, hq285, h⟩ := bsq h
     refine a0W (pc := 285) (vs := [.int (47 : Int32)]) (i := 0) (W' := [(q285.2, 24)]) K at_285 (w79 hw) (w81 hw) (w80 hw) (w82 hw) (w83 hw) hyC a1D (by intro v q; simp only [List.mem_cons, List.not_mem_nil, or_false] at q; subst q <;> rfl) (by decide) rfl rfl (fun _ q => by cases q; rfl) rfl rfl (a0V l Z a0 hw n1 _ (Nat.le_add_right _ _) hq285) rfl (ble rfl) (ble rfl) rfl rfl (a0J rfl) (a0N a0v rfl) (a0O a0v rfl) ?_
     refine a8H K.1 at_288 rfl (a0H K.1 at_289 rfl ?_)
     refine a0d (v := 97) K.1 at_291 (by decide) ?_
     obtain ⟨q293, hq293, h⟩ := bsq h
     refine a0W (pc := 293) (vs := [.int (97 : Int32)]) (i := 0) (W' := [(q293.2, 24)]) K at_293 (w79 hw) (w81 hw) (w80 hw) (w82 hw) (w83 hw) hyC a1D (by intro v q; simp only [List.mem_cons, List.not_mem_nil, or_false] at q; subst q <;> rfl) (by decide) rfl rfl (fun _ q => by cases q; rfl) rfl rfl (a0V l Z a0 hw n1 _ (Nat.le_add_right _ _) hq293) rfl (ble rfl) (ble rfl) rfl rfl (a0J rfl) (a0N a0v rfl) (a0O a0v rfl) ?_
     refine a8H K.1 at_296 rfl (a0H K.1 at_297 rfl ?_)
     obtain ⟨q299, hq299, h⟩ := bsq h
     refine a0W (pc := 299) (vs := []) (i := 0) (W' := [(q299.2, 24)]) K at_299 (b9K hw) (b9H hw) (b9z hw) (b9b hw) (b9g hw) hyC b6b (fun _ q => by cases q) (by decide) rfl rfl (fun _ q => by cases q; rfl) rfl rfl (b4s l Z a0 hw n1 _ (Nat.le_add_right _ _) hq299) rfl (ble rfl) (ble rfl) rfl rfl (a0J rfl) (a0N a0v rfl) (a0O a0v rfl) ?_
     rcases ifs h with ⟨hc302, h⟩ | ⟨hc302, h⟩
     ·refine a0u (pc' := 307) K.1 at_302 (by decide) ((if0 _ _).trans (teq hc302).1) ?_
      refine a0b K.1 at_307 rfl (a0f K.1 at_308 rfl (a1l K.1 at_310 (a0q (L' := [none, none, none, vvI i3, vvI i4, vvI i5, some (.ref 0), vvI i7, vvI i8, some (.int (i3 - i5)), none]) K.1 at_311 (blt rfl) rfl (a0f K.1 at_313 rfl (a0f K.1 at_315 rfl ?_)))))
      refine a1l K.1 at_317 (a0q (L' := [none, none, none, vvI i3, vvI i4, vvI i5, some (.ref 0), vvI i7, vvI i8, some (.int (i3 - i5)), some (.int (i4 - i5))]) K.1 at_318 (blt rfl) rfl (a0H K.1 at_320 rfl (a0f K.1 at_322 rfl ?_)))
      obtain ⟨q324, hq324, h⟩ := bsq h
      refine a0W (pc := 324) (vs := [.int i8]) (i := 0) (W' := [(q324.2, 24)]) K at_324 (b9p hw) (b9F hw) (b9x hw) (b9t hw) (b9k hw) hyC a3e (by intro v q; simp only [List.mem_cons, List.not_mem_nil, or_false] at q; subst q <;> rfl) (by decide) rfl rfl (fun _ q => by cases q; rfl) rfl rfl (b2w l Z a0 hw n1 _ (Nat.le_add_right _ _) hq324) rfl (ble rfl) (ble rfl) rfl rfl (a0J rfl) (a0N a0v rfl) (a0O a0v rfl) ?_
      refine a0c (v := 2) K.1 at_327 (by decide) ?_
      rcases ifs h with ⟨hc328, h⟩ | ⟨hc328, h⟩
      ·refine a0p (pc' := 333) K.1 at_328 (by decide) ((teq hc328).1) ?_
       refine a0H K.1 at_333 rfl (a0f K.1 at_335 rfl ?_)
       obtain ⟨q337, hq337, h⟩ := bsq h
       refine a0W (pc := 337) (vs := [.int i8]) (i := 0) (W' := [(q337.2, 24)]) K at_337 (b8Q hw) (b8X hw) (b8d hw) (b8h hw) (b8p hw) hyC a3e (by intro v q; simp only [List.mem_cons, List.not_mem_nil, or_false] at q; subst q <;> rfl) (by decide) rfl rfl (fun _ q => by cases q; rfl) rfl rfl (b0W l Z a0 hw n1 _ (Nat.le_add_right _ _) hq337) rfl (ble rfl) (ble rfl) rfl rfl (a0J rfl) (a0N a0v rfl) (a0O a0v rfl) ?_
       refine a0c (v := 2) K.1 at_340 (by decide) ?_
       rcases ifs h with ⟨hc341, h⟩ | ⟨hc341, h⟩
       ·refine a0p (pc' := 346) K.1 at_341 (by decide) ((teq hc341).1) ?_
        refine a0H K.1 at_346 rfl (a0f K.1 at_348 rfl ?_)
        obtain ⟨q350, hq350, h⟩ := bsq h
        refine a0W (pc := 350) (vs := [.int i8]) (i := 0) (W' := [(q350.2, 24)]) K at_350 (b9w hw) (b9s hw) (b87 hw) (b9f hw) (b82 hw) hyC a3e (by intro v q; simp only [List.mem_cons, List.not_mem_nil, or_false] at q; subst q <;> rfl) (by decide) rfl rfl (fun _ q => by cases q; rfl) rfl rfl (b2u l Z a0 hw n1 _ (Nat.le_add_right _ _) hq350) rfl (ble rfl) (ble rfl) rfl rfl (a0J rfl) (a0N a0v rfl) (a0O a0v rfl) ?_
        refine a0c (v := 1) K.1 at_353 (by decide) ?_
        rcases ifs h with ⟨hc354, h⟩ | ⟨hc354, h⟩
        ·refine a0p (pc' := 359) K.1 at_354 (by decide) ((teq hc354).1) ?_
         refine a0H K.1 at_359 rfl (a0f K.1 at_361 rfl ?_)
         obtain ⟨q363, hq363, h⟩ := bsq h
         refine a0W (pc := 363) (vs := [.int i8]) (i := 0) (W' := [(q363.2, 24)]) K at_363 (b9a hw) (b9D hw) (b9I hw) (b9J hw) (b9j hw) hyC a3e (by intro v q; simp only [List.mem_cons, List.not_mem_nil, or_false] at q; subst q <;> rfl) (by decide) rfl rfl (fun _ q => by cases q; rfl) rfl rfl (a6v l Z a0 hw n1 _ (Nat.le_add_right _ _) hq363) rfl (ble rfl) (ble rfl) rfl rfl (a0J rfl) (a0N a0v rfl) (a0O a0v rfl) ?_
         refine a0f K.1 at_366 rfl ?_
         obtain ⟨q368, hq368, h⟩ := bsq h
         refine a2U (pc := 368) (vs := [.int (i3 - i5)]) (W' := [(q363.2, 24)]) K at_368 (b8w hw) (b8O hw) (w2 hw) (b8I hw) hyL a3e rfl rfl (b2p l Z a0 hw n1 sc H0 (a58 K) hq368) rfl (ble rfl) (ble rfl) rfl rfl (a0J rfl) (a0N a0v rfl) (a0O a0v rfl) ?_
         refine a0c (v := 1) K.1 at_371 (by decide) ?_
         refine a0z K.1 at_372 (a0f K.1 at_373 rfl ?_)
         obtain ⟨q375, hq375, h⟩ := bsq h
         refine a2U (pc := 375) (vs := [.int (i4 - i5)]) (W' := [(q363.2, 24)]) K at_375 (b8w hw) (b8O hw) (w2 hw) (b8I hw) hyL a3e rfl rfl (b2p l Z a0 hw n1 sc H0 (a58 K) hq375) rfl (ble rfl) (ble rfl) rfl rfl (a0J rfl) (a0N a0v rfl) (a0O a0v rfl) ?_
         refine a0z K.1 at_378 ?_
         rcases ifs h with ⟨hc379, h⟩ | ⟨hc379, h⟩
         ·refine a0p (pc' := 384) K.1 at_379 (by decide) ((teq hc379).1) ?_
          refine a0H K.1 at_384 rfl (a0f K.1 at_386 rfl ?_)
          refine a0c (v := 0) K.1 at_388 (by decide) ?_
          obtain ⟨q389, hq389, h⟩ := bsq h
          refine a0W (pc := 389) (vs := [.int i8, .int (0 : Int32)]) (i := 0) (W' := [(q389.2, 24)]) K at_389 (b7I hw) (b7M hw) (b7o hw) (b7B hw) (b7W hw) hyC b54 (by intro v q; simp only [List.mem_cons, List.not_mem_nil, or_false] at q; rcases q with rfl | rfl <;> rfl) (by decide) rfl rfl (fun _ q => by cases q; rfl) rfl rfl (a1G l Z a0 hw n1 _ (Nat.le_add_right _ _) hq389) rfl (ble rfl) (ble rfl) rfl rfl (a0J rfl) (a0N a0v rfl) (a0O a0v rfl) ?_
          refine a0f K.1 at_392 rfl ?_
          obtain ⟨q394, hq394, h⟩ := bsq h
          refine a2U (pc := 394) (vs := [.int (i3 - i5)]) (W' := [(q389.2, 24)]) K at_394 (b8M hw) (b8l hw) (w2 hw) (b8T hw) hyL a3e rfl rfl (a9v l Z a0 hw n1 sc H0 (a58 K) hq394) rfl (ble rfl) (ble rfl) rfl rfl (a0J rfl) (a0N a0v rfl) (a0O a0v rfl) ?_
          rcases ifs h with ⟨hc397, h⟩ | ⟨hc397, h⟩
          ·refine a0p (pc' := 402) K.1 at_397 (by decide) ((teq hc397).1) ?_
           refine a0H K.1 at_402 rfl (a0f K.1 at_404 rfl (a0f K.1 at_406 rfl ?_))
           obtain ⟨q408, hq408, h⟩ := bsq h
           refine a2U (pc := 408) (vs := [.int (i3 - i5)]) (W' := [(q389.2, 24)]) K at_408 (b8w hw) (b8O hw) (w2 hw) (b8I hw) hyL a3e rfl rfl (b2p l Z a0 hw n1 sc H0 (a58 K) hq408) rfl (ble rfl) (ble rfl) rfl rfl (a0J rfl) (a0N a0v rfl) (a0O a0v rfl) ?_
           refine a0c (v := 1) K.1 at_411 (by decide) ?_
           refine a0z K.1 at_412 ?_
           obtain ⟨q413, hq413, h⟩ := bsq h
           refine a0W (pc := 413) (vs := [.int i8, .int (q408 + 1)]) (i := 0) (W' := [(q413.2, 24)]) K at_413 (b7I hw) (b7M hw) (b7o hw) (b7B hw) (b7W hw) hyC b54 (by intro v q; simp only [List.mem_cons, List.not_mem_nil, or_false] at q; rcases q with rfl | rfl <;> rfl) (by decide) rfl rfl (fun _ q => by cases q; rfl) rfl rfl (a1G l Z a0 hw n1 _ (Nat.le_add_right _ _) hq413) rfl (ble rfl) (ble rfl) rfl rfl (a0J rfl) (a0N a0v rfl) (a0O a0v rfl) ?_
           refine a0f K.1 at_416 rfl ?_
           obtain ⟨q418, hq418, h⟩ := bsq h
           refine a2U (pc := 418) (vs := [.int (i4 - i5)]) (W' := [(q413.2, 24)]) K at_418 (b8M hw) (b8l hw) (w2 hw) (b8T hw) hyL a3e rfl rfl (a9v l Z a0 hw n1 sc H0 (a58 K) hq418) rfl (ble rfl) (ble rfl) rfl rfl (a0J rfl) (a0N a0v rfl) (a0O a0v rfl) ?_
           rcases ifs h with ⟨hc421, h⟩ | ⟨hc421, h⟩
           ·refine a0p (pc' := 426) K.1 at_421 (by decide) ((teq hc421).1) ?_
            refine a0H K.1 at_426 rfl ?_
            refine a0c (v := 4) K.1 at_428 (by decide) ?_
            refine a0f K.1 at_429 rfl ?_
            obtain ⟨q431, hq431, h⟩ := bsq h
            refine a0W (pc := 431) (vs := [.int (4 : Int32), .int i8]) (i := 0) (W' := [(q431.2, 24)]) K at_431 (c1h hw) (c0y hw) (c0u hw) (c1r hw) (c0e hw) hyC b8t (by intro v q; simp only [List.mem_cons, List.not_mem_nil, or_false] at q; rcases q with rfl | rfl <;> rfl) (by decide) rfl rfl (fun _ q => by cases q; rfl) rfl rfl (b4M l Z a0 hw n1 _ (Nat.le_add_right _ _) hq431) rfl (ble rfl) (ble rfl) rfl rfl (a0J rfl) (a0N a0v rfl) (a0O a0v rfl) ?_
            rcases ifs h with ⟨hc434, h⟩ | ⟨hc434, h⟩
            ·refine a0t K.1 at_434 ((if0 _ _).trans (teq hc434).2) ?_
             refine a0c (v := 0) K.1 at_437 (by decide) ?_
             cases h; exact a0h (t := .boolean) K.1 rfl (Or.inl rfl) at_438 rfl (b2A K (a0N a0v rfl) (a0O a0v rfl))
            refine a0u (pc' := 439) K.1 at_434 (by decide) ((if0 _ _).trans (feq hc434).2) ?_
            refine a0H K.1 at_439 rfl (a0f K.1 at_441 rfl ?_)
            obtain ⟨q443, hq443, h⟩ := bsq h
            refine a0W (pc := 443) (vs := [.int i7]) (i := 0) (W' := [(q443.2, 24)]) K at_443 (b8Q hw) (b8X hw) (b8d hw) (b8h hw) (b8p hw) hyC a3e (by intro v q; simp only [List.mem_cons, List.not_mem_nil, or_false] at q; subst q <;> rfl) (by decide) rfl rfl (fun _ q => by cases q; rfl) rfl rfl (b0W l Z a0 hw n1 _ (Nat.le_add_right _ _) hq443) rfl (ble rfl) (ble rfl) rfl rfl (a0J rfl) (a0N a0v rfl) (a0O a0v rfl) ?_
            refine a0c (v := 4) K.1 at_446 (by decide) ?_
            rcases ifs h with ⟨hc447, h⟩ | ⟨hc447, h⟩
            ·refine a0p (pc' := 452) K.1 at_447 (by decide) ((teq hc447).1) ?_
             refine a0c (v := 1) K.1 at_452 (by decide) ?_
             cases h; exact a0h (t := .boolean) K.1 rfl (Or.inl rfl) at_453 rfl (b2A K (a0N a0v rfl) (a0O a0v rfl))
            refine a0o K.1 at_447 ((feq hc447).1) ?_
            refine a0c (v := 0) K.1 at_450 (by decide) ?_
            cases h; exact a0h (t := .boolean) K.1 rfl (Or.inl rfl) at_451 rfl (b2A K (a0N a0v rfl) (a0O a0v rfl))
           refine a0o K.1 at_421 ((feq hc421).1) ?_
           refine a0c (v := 0) K.1 at_424 (by decide) ?_
           cases h; exact a0h (t := .boolean) K.1 rfl (Or.inl rfl) at_425 rfl (b2A K (a0N a0v rfl) (a0O a0v rfl))
          refine a0o K.1 at_397 ((feq hc397).1) ?_
          refine a0c (v := 0) K.1 at_400 (by decide) ?_
          cases h; exact a0h (t := .boolean) K.1 rfl (Or.inl rfl) at_401 rfl (b2A K (a0N a0v rfl) (a0O a0v rfl))
         refine a0o K.1 at_379 ((feq hc379).1) ?_
         refine a0c (v := 0) K.1 at_382 (by decide) ?_
         cases h; exact a0h (t := .boolean) K.1 rfl (Or.inl rfl) at_383 rfl (b2A K (a0N a0v rfl) (a0O a0v rfl))
        refine a0o K.1 at_354 ((feq hc354).1) ?_
        refine a0c (v := 0) K.1 at_357 (by decide) ?_
        cases h; exact a0h (t := .boolean) K.1 rfl (Or.inl rfl) at_358 rfl (b2A K (a0N a0v rfl) (a0O a0v rfl))
       refine a0o K.1 at_341 ((feq hc341).1) ?_
       refine a0c (v := 0) K.1 at_344 (by decide) ?_
       cases h; exact a0h (t := .boolean) K.1 rfl (Or.inl rfl) at_345 rfl (b2A K (a0N a0v rfl) (a0O a0v rfl))
      refine a0o K.1 at_328 ((feq hc328).1) ?_
      refine a0c (v := 0) K.1 at_331 (by decide) ?_
      cases h; exact a0h (t := .boolean) K.1 rfl (Or.inl rfl) at_332 rfl (b2A K (a0N a0v rfl) (a0O a0v rfl))
     refine a0t K.1 at_302 ((if0 _ _).trans (feq hc302).1) ?_
     refine a0c (v := 0) K.1 at_305 (by decide) ?_
     cases h; exact a0h (t := .boolean) K.1 rfl (Or.inl rfl) at_306 rfl (b2A K (a0N a0v rfl) (a0O a0v rfl))
    refine a0o K.1 at_252 ((feq hc252).1) ?_
    refine a0c (v := 0) K.1 at_255 (by decide) ?_
    cases h; exact a0h (t := .boolean) K.1 rfl (Or.inl rfl) at_256 rfl (b2A K (a0N a0v rfl) (a0O a0v rfl))
   refine a0o K.1 at_232 ((feq hc232).1) ?_
   refine a0c (v := 0) K.1 at_235 (by decide) ?_
   cases h; exact a0h (t := .boolean) K.1 rfl (Or.inl rfl) at_236 rfl (b2A K (a0N a0v rfl) (a0O a0v rfl))
  refine a0o K.1 at_215 ((feq hc215).1) ?_
  refine a0c (v := 0) K.1 at_218 (by decide) ?_
  cases h; exact a0h (t := .boolean) K.1 rfl (Or.inl rfl) at_219 rfl (b2A K (a0N a0v rfl) (a0O a0v rfl))
 refine a0o K.1 at_200 ((feq hc200).1) ?_
 refine a0c (v := 0) K.1 at_203 (by decide) ?_
 cases h; exact a0h (t := .boolean) K.1 rfl (Or.inl rfl) at_204 rfl (b2A K (a0N a0v rfl) (a0O a0v rfl))
def LAW (NF : Nat) (v0 v1 v2 : Int32) : Option (Int32 × List (St × Nat)) :=
 ((b4j v0).bind fun q1 => ((b4j v1).bind fun q6 => ((b4j v2).bind fun q12 => ((b3i NF (8 : Int32) (24 : Int32)).bind fun q25 => ((a10 q25 (97 : Int32)).bind fun q34 => ((a10 q34.2 (58 : Int32)).bind fun q42 => ((a10 q42.2 (40 : Int32)).bind fun q50 => ((a10 q50.2 (60 : Int32)).bind fun q58 => ((a10 q58.2 (48 + q1)).bind fun q68 => ((a10 q68.2 (32 : Int32)).bind fun q76 => ((a10 q76.2 (48 + q6)).bind fun q87 => ((a10 q87.2 (41 : Int32)).bind fun q95 => ((a10 q95.2 (44 : Int32)).bind fun q103 => ((a10 q103.2 (45 : Int32)).bind fun q111 => ((a10 q111.2 (48 + q12)).bind fun q122 => ((b5m NF q122.2).bind fun q128 => (if q128.1 = 0 then ((b0U q128.2 (0 : Int32)).bind fun q146 => (if q146.1 = 2 then ((b2I q146.2 (0 : Int32)).bind fun q159 => (if q159.1 = 4 then ((b0Y q159.2 (0 : Int32)).bind fun q172 => (if q172.1 = 2 then ((a1Z NF q172.2 (0 : Int32)).bind fun q185 => (if 0 < q12 then a8E NF q1 q6 q12 (0 : Int32) (1 : Int32) q185.1 (8 : Int32) q185.2 else a8E NF q1 q6 q12 (0 : Int32) (1 : Int32) q185.1 (7 : Int32) q185.2)) else (some ((0 : Int32), [(q172.2, 24)])))) else (some ((0 : Int32), [(q159.2, 24)])))) else (some ((0 : Int32), [(q146.2, 24)])))) else (some ((0 : Int32), [(q128.2, 24)])))))))))))))))))))
theorem b7C {X : Cx (List (St × Nat))} {NF : Nat} (K : b6E X Z a0 l n1 sc H0) (hw : HW a0 Z) (hs0 : hsz X = n1) {v0 v1 v2 : Int32} {r : Int32 × List (St × Nat)} (h : LAW NF v0 v1 v2 = some r) : Go X (vvI r.1, r.2) 0 [vvI v0, vvI v1, vvI v2, none, none, none, none, none, none, none, none] [] [] := by
 unfold LAW at h
 refine a0b K.1 at_0 rfl ?_
 obtain ⟨q1, hq1, h⟩ := bsq h
 refine a2U (pc := 1) (vs := [.int v0]) (W' := []) K at_1 (w0 hw) (w1 hw) (w2 hw) (w3 hw) hyL a3e rfl rfl (b18 l Z a0 hw n1 sc H0 (a58 K) hq1) rfl (ble rfl) (ble rfl) rfl rfl (a0J rfl) (a0N cj_ rfl) (a0O cj_ rfl) ?_
 refine a0m (L' := [vvI v0, vvI v1, vvI v2, vvI q1, none, none, none, none, none, none, none]) K.1 at_4 (blt rfl) rfl (a0b K.1 at_5 rfl ?_)
 obtain ⟨q6, hq6, h⟩ := bsq h
 refine a2U (pc := 6) (vs := [.int v1]) (W' := []) K at_6 (w0 hw) (w1 hw) (w2 hw) (w3 hw) hyL a3e rfl rfl (b18 l Z a0 hw n1 sc H0 (a58 K) hq6) rfl (ble rfl) (ble rfl) rfl rfl (a0J rfl) (a0N cj_ rfl) (a0O cj_ rfl) ?_
 refine a0q (L' := [vvI v0, vvI v1, vvI v2, vvI q1, vvI q6, none, none, none, none, none, none]) K.1 at_9 (blt rfl) rfl (a0b K.1 at_11 rfl ?_)
 obtain ⟨q12, hq12, h⟩ := bsq h
 refine a2U (pc := 12) (vs := [.int v2]) (W' := []) K at_12 (w0 hw) (w1 hw) (w2 hw) (w3 hw) hyL a3e rfl rfl (b18 l Z a0 hw n1 sc H0 (a58 K) hq12) rfl (ble rfl) (ble rfl) rfl rfl (a0J rfl) (a0N cj_ rfl) (a0O cj_ rfl) ?_
 refine a0q (L' := [vvI v0, vvI v1, vvI v2, vvI q1, vvI q6, vvI q12, none, none, none, none, none]) K.1 at_15 (blt rfl) rfl ?_
 refine b8g (pc := 17) (i := 0) K at_17 (w4 hw) rfl (Nat.ne_of_beq_eq_false rfl) hs0 b7y (b8W cn_ rfl) (b8R cn_ rfl) rfl ?_
 refine b0u K.1 at_20 rfl ?_
 refine a0d (v := 8) K.1 at_21 (by decide) ?_
 refine a0d (v := 24) K.1 at_23 (by decide) ?_
 obtain ⟨q25, hq25, h⟩ := bsq h
 refine b7L (pc := 25) (vs := [.int (8 : Int32), .int (24 : Int32)]) (i := 0) (W0 := []) (W' := [(q25, 24)]) K at_25 (w7 hw) (w8 hw) (w9 hw) hyC b6i (by intro v q; simp only [List.mem_cons, List.not_mem_nil, or_false] at q; rcases q with rfl | rfl <;> rfl) rfl rfl rfl rfl (by decide) rfl rfl (b5z l Z a0 hw n1 _ (Nat.le_add_right _ _) hq25) rfl (ble rfl) (ble rfl) rfl b7N b7y (a0N a0v rfl) (a0O a0v rfl) ?_
 refine b6c (L' := [vvI v0, vvI v1, vvI v2, vvI q1, vvI q6, vvI q12, some (.ref 0), none, none, none, none]) K.1 at_28 (blt rfl) rfl (a0H K.1 at_30 rfl ?_)
 refine a0d (v := 97) K.1 at_32 (by decide) ?_
 obtain ⟨q34, hq34, h⟩ := bsq h
 refine a0W (pc := 34) (vs := [.int (97 : Int32)]) (i := 0) (W' := [(q34.2, 24)]) K at_34 (w79 hw) (w81 hw) (w80 hw) (w82 hw) (w83 hw) hyC a1D (by intro v q; simp only [List.mem_cons, List.not_mem_nil, or_false] at q; subst q <;> rfl) (by decide) rfl rfl (fun _ q => by cases q; rfl) rfl rfl (a0V l Z a0 hw n1 _ (Nat.le_add_right _ _) hq34) rfl (ble rfl) (ble rfl) rfl rfl (a0J rfl) (a0N a0v rfl) (a0O a0v rfl) ?_
 refine a8H K.1 at_37 rfl (a0H K.1 at_38 rfl ?_)
 refine a0d (v := 58) K.1 at_40 (by decide) ?_
 obtain ⟨q42, hq42, h⟩ := bsq h
 refine a0W (pc := 42) (vs := [.int (58 : Int32)]) (i := 0) (W' := [(q42.2, 24)]) K at_42 (w79 hw) (w81 hw) (w80 hw) (w82 hw) (w83 hw) hyC a1D (by intro v q; simp only [List.mem_cons, List.not_mem_nil, or_false] at q; subst q <;> rfl) (by decide) rfl rfl (fun _ q => by cases q; rfl) rfl rfl (a0V l Z a0 hw n1 _ (Nat.le_add_right _ _) hq42) rfl (ble rfl) (ble rfl) rfl rfl (a0J rfl) (a0N a0v rfl) (a0O a0v rfl) ?_
 refine a8H K.1 at_45 rfl (a0H K.1 at_46 rfl ?_)
 refine a0d (v := 40) K.1 at_48 (by decide) ?_
 obtain ⟨q50, hq50, h⟩ := bsq h
 refine a0W (pc := 50) (vs := [.int (40 : Int32)]) (i := 0) (W' := [(q50.2, 24)]) K at_50 (w79 hw) (w81 hw) (w80 hw) (w82 hw) (w83 hw) hyC a1D (by intro v q; simp only [List.mem_cons, List.not_mem_nil, or_false] at q; subst q <;> rfl) (by decide) rfl rfl (fun _ q => by cases q; rfl) rfl rfl (a0V l Z a0 hw n1 _ (Nat.le_add_right _ _) hq50) rfl (ble rfl) (ble rfl) rfl rfl (a0J rfl) (a0N a0v rfl) (a0O a0v rfl) ?_
 refine a8H K.1 at_53 rfl (a0H K.1 at_54 rfl ?_)
 refine a0d (v := 60) K.1 at_56 (by decide) ?_
 obtain ⟨q58, hq58, h⟩ := bsq h
 refine a0W (pc := 58) (vs := [.int (60 : Int32)]) (i := 0) (W' := [(q58.2, 24)]) K at_58 (w79 hw) (w81 hw) (w80 hw) (w82 hw) (w83 hw) hyC a1D (by intro v q; simp only [List.mem_cons, List.not_mem_nil, or_false] at q; subst q <;> rfl) (by decide) rfl rfl (fun _ q => by cases q; rfl) rfl rfl (a0V l Z a0 hw n1 _ (Nat.le_add_right _ _) hq58) rfl (ble rfl) (ble rfl) rfl rfl (a0J rfl) (a0N a0v rfl) (a0O a0v rfl) ?_
 refine a8H K.1 at_61 rfl (a0H K.1 at_62 rfl ?_)
 refine a0d (v := 48) K.1 at_64 (by decide) ?_
 refine a0b K.1 at_66 rfl (a0z K.1 at_67 ?_)
 obtain ⟨q68, hq68, h⟩ := bsq h
 refine a0W (pc := 68) (vs := [.int (48 + q1)]) (i := 0) (W' := [(q68.2, 24)]) K at_68 (w79 hw) (w81 hw) (w80 hw) (w82 hw) (w83 hw) hyC a1D (by intro v q; simp only [List.mem_cons, List.not_mem_nil, or_false] at q; subst q <;> rfl) (by decide) rfl rfl (fun _ q => by cases q; rfl) rfl rfl (a0V l Z a0 hw n1 _ (Nat.le_add_right _ _) hq68) rfl (ble rfl) (ble rfl) rfl rfl (a0J rfl) (a0N a0v rfl) (a0O a0v rfl) ?_
 refine a8H K.1 at_71 rfl (a0H K.1 at_72 rfl ?_)
 refine a0d (v := 32) K.1 at_74 (by decide) ?_
 obtain ⟨q76, hq76, h⟩ := bsq h
 refine a0W (pc := 76) (vs := [.int (32 : Int32)]) (i := 0) (W' := [(q76.2, 24)]) K at_76 (w79 hw) (w81 hw) (w80 hw) (w82 hw) (w83 hw) hyC a1D (by intro v q; simp only [List.mem_cons, List.not_mem_nil, or_false] at q; subst q <;> rfl) (by decide) rfl rfl (fun _ q => by cases q; rfl) rfl rfl (a0V l Z a0 hw n1 _ (Nat.le_add_right _ _) hq76) rfl (ble rfl) (ble rfl) rfl rfl (a0J rfl) (a0N a0v rfl) (a0O a0v rfl) ?_
 refine a8H K.1 at_79 rfl (a0H K.1 at_80 rfl ?_)
 refine a0d (v := 48) K.1 at_82 (by decide) ?_
 refine a0f K.1 at_84 rfl (a0z K.1 at_86 ?_)
 obtain ⟨q87, hq87, h⟩ := bsq h
 refine a0W (pc := 87) (vs := [.int (48 + q6)]) (i := 0) (W' := [(q87.2, 24)]) K at_87 (w79 hw) (w81 hw) (w80 hw) (w82 hw) (w83 hw) hyC a1D (by intro v q; simp only [List.mem_cons, List.not_mem_nil, or_false] at q; subst q <;> rfl) (by decide) rfl rfl (fun _ q => by cases q; rfl) rfl rfl (a0V l Z a0 hw n1 _ (Nat.le_add_right _ _) hq87) rfl (ble rfl) (ble rfl) rfl rfl (a0J rfl) (a0N a0v rfl) (a0O a0v rfl) ?_
 refine a8H K.1 at_90 rfl (a0H K.1 at_91 rfl ?_)
 refine a0d (v := 41) K.1 at_93 (by decide) ?_
 obtain ⟨q95, hq95, h⟩ := bsq h
 refine a0W (pc := 95) (vs := [.int (41 : Int32)]) (i := 0) (W' := [(q95.2, 24)]) K at_95 (w79 hw) (w81 hw) (w80 hw) (w82 hw) (w83 hw) hyC a1D (by intro v q; simp only [List.mem_cons, List.not_mem_nil, or_false] at q; subst q <;> rfl) (by decide) rfl rfl (fun _ q => by cases q; rfl) rfl rfl (a0V l Z a0 hw n1 _ (Nat.le_add_right _ _) hq95) rfl (ble rfl) (ble rfl) rfl rfl (a0J rfl) (a0N a0v rfl) (a0O a0v rfl) ?_
 refine a8H K.1 at_98 rfl (a0H K.1 at_99 rfl ?_)
 refine a0d (v := 44) K.1 at_101 (by decide) ?_
 obtain ⟨q103, hq103, h⟩ := bsq h
 refine a0W (pc := 103) (vs := [.int (44 : Int32)]) (i := 0) (W' := [(q103.2, 24)]) K at_103 (w79 hw) (w81 hw) (w80 hw) (w82 hw) (w83 hw) hyC a1D (by intro v q; simp only [List.mem_cons, List.not_mem_nil, or_false] at q; subst q <;> rfl) (by decide) rfl rfl (fun _ q => by cases q; rfl) rfl rfl (a0V l Z a0 hw n1 _ (Nat.le_add_right _ _) hq103) rfl (ble rfl) (ble rfl) rfl rfl (a0J rfl) (a0N a0v rfl) (a0O a0v rfl) ?_
 refine a8H K.1 at_106 rfl (a0H K.1 at_107 rfl ?_)
 refine a0d (v := 45) K.1 at_109 (by decide) ?_
 obtain ⟨q111, hq111, h⟩ := bsq h
 refine a0W (pc := 111) (vs := [.int (45 : Int32)]) (i := 0) (W' := [(q111.2, 24)]) K at_111 (w79 hw) (w81 hw) (w80 hw) (w82 hw) (w83 hw) hyC a1D (by intro v q; simp only [List.mem_cons, List.not_mem_nil, or_false] at q; subst q <;> rfl) (by decide) rfl rfl (fun _ q => by cases q; rfl) rfl rfl (a0V l Z a0 hw n1 _ (Nat.le_add_right _ _) hq111) rfl (ble rfl) (ble rfl) rfl rfl (a0J rfl) (a0N a0v rfl) (a0O a0v rfl) ?_
 refine a8H K.1 at_114 rfl (a0H K.1 at_115 rfl ?_)
 refine a0d (v := 48) K.1 at_117 (by decide) ?_
 refine a0f K.1 at_119 rfl (a0z K.1 at_121 ?_)
 obtain ⟨q122, hq122, h⟩ := bsq h
 refine a0W (pc := 122) (vs := [.int (48 + q12)]) (i := 0) (W' := [(q122.2, 24)]) K at_122 (w79 hw) (w81 hw) (w80 hw) (w82 hw) (w83 hw) hyC a1D (by intro v q; simp only [List.mem_cons, List.not_mem_nil, or_false] at q; subst q <;> rfl) (by decide) rfl rfl (fun _ q => by cases q; rfl) rfl rfl (a0V l Z a0 hw n1 _ (Nat.le_add_right _ _) hq122) rfl (ble rfl) (ble rfl) rfl rfl (a0J rfl) (a0N a0v rfl) (a0O a0v rfl) ?_
 refine a8H K.1 at_125 rfl (a0H K.1 at_126 rfl ?_)
 obtain ⟨q128, hq128, h⟩ := bsq h
 refine a0W (pc := 128) (vs := []) (i := 0) (W' := [(q128.2, 24)]) K at_128 (b9K hw) (b9H hw) (b9z hw) (b9b hw) (b9g hw) hyC b6b (fun _ q => by cases q) (by decide) rfl rfl (fun _ q => by cases q; rfl) rfl rfl (b4s l Z a0 hw n1 _ (Nat.le_add_right _ _) hq128) rfl (ble rfl) (ble rfl) rfl rfl (a0J rfl) (a0N a0v rfl) (a0O a0v rfl) ?_
 rcases ifs h with ⟨hc131, h⟩ | ⟨hc131, h⟩
 ·refine a0u (pc' := 136) K.1 at_131 (by decide) ((if0 _ _).trans (teq hc131).1) ?_
  refine a0c (v := 0) K.1 at_136 (by decide) ?_
  refine a0q (L' := [vvI v0, vvI v1, vvI v2, vvI q1, vvI q6, vvI q12, some (.ref 0), some (.int (0 : Int32)), none, none, none]) K.1 at_137 (blt rfl) rfl ?_
  refine a0c (v := 1) K.1 at_139 (by decide) ?_
  refine a0q (L' := [vvI v0, vvI v1, vvI v2, vvI q1, vvI q6, vvI q12, some (.ref 0), some (.int (0 : Int32)), some (.int (1 : Int32)), none, none]) K.1 at_140 (blt rfl) rfl (a0H K.1 at_142 rfl (a0f K.1 at_144 rfl ?_))
  obtain ⟨q146, hq146, h⟩ := bsq h
  refine a0W (pc := 146) (vs := [.int (0 : Int32)]) (i := 0) (W' := [(q146.2, 24)]) K at_146 (b9p hw) (b9F hw) (b9x hw) (b9t hw) (b9k hw) hyC a3e (by intro v q; simp only [List.mem_cons, List.not_mem_nil, or_false] at q; subst q <;> rfl) (by decide) rfl rfl (fun _ q => by cases q; rfl) rfl rfl (b2w l Z a0 hw n1 _ (Nat.le_add_right _ _) hq146) rfl (ble rfl) (ble rfl) rfl rfl (a0J rfl) (a0N a0v rfl) (a0O a0v rfl) ?_
  refine a0c (v := 2) K.1 at_149 (by decide) ?_
  rcases ifs h with ⟨hc150, h⟩ | ⟨hc150, h⟩
  ·refine a0p (pc' := 155) K.1 at_150 (by decide) ((teq hc150).1) ?_
   refine a0H K.1 at_155 rfl (a0f K.1 at_157 rfl ?_)
   obtain ⟨q159, hq159, h⟩ := bsq h
   refine a0W (pc := 159) (vs := [.int (0 : Int32)]) (i := 0) (W' := [(q159.2, 24)]) K at_159 (b8Q hw) (b8X hw) (b8d hw) (b8h hw) (b8p hw) hyC a3e (by intro v q; simp only [List.mem_cons, List.not_mem_nil, or_false] at q; subst q <;> rfl) (by decide) rfl rfl (fun _ q => by cases q; rfl) rfl rfl (b0W l Z a0 hw n1 _ (Nat.le_add_right _ _) hq159) rfl (ble rfl) (ble rfl) rfl rfl (a0J rfl) (a0N a0v rfl) (a0O a0v rfl) ?_
   refine a0c (v := 4) K.1 at_162 (by decide) ?_
   rcases ifs h with ⟨hc163, h⟩ | ⟨hc163, h⟩
   ·refine a0p (pc' := 168) K.1 at_163 (by decide) ((teq hc163).1) ?_
    refine a0H K.1 at_168 rfl (a0f K.1 at_170 rfl ?_)
    obtain ⟨q172, hq172, h⟩ := bsq h
    refine a0W (pc := 172) (vs := [.int (0 : Int32)]) (i := 0) (W' := [(q172.2, 24)]) K at_172 (b9w hw) (b9s hw) (b87 hw) (b9f hw) (b82 hw) hyC a3e (by intro v q; simp only [List.mem_cons, List.not_mem_nil, or_false] at q; subst q <;> rfl) (by decide) rfl rfl (fun _ q => by cases q; rfl) rfl rfl (b2u l Z a0 hw n1 _ (Nat.le_add_right _ _) hq172) rfl (ble rfl) (ble rfl) rfl rfl (a0J rfl) (a0N a0v rfl) (a0O a0v rfl) ?_
    refine a0c (v := 2) K.1 at_175 (by decide) ?_
    rcases ifs h with ⟨hc176, h⟩ | ⟨hc176, h⟩
    ·refine a0p (pc' := 181) K.1 at_176 (by decide) ((teq hc176).1) ?_
     refine a0H K.1 at_181 rfl (a0f K.1 at_183 rfl ?_)
     obtain ⟨q185, hq185, h⟩ := bsq h
     refine a0W (pc := 185) (vs := [.int (0 : Int32)]) (i := 0) (W' := [(q185.2, 24)]) K at_185 (b9a hw) (b9D hw) (b9I hw) (b9J hw) (b9j hw) hyC a3e (by intro v q; simp only [List.mem_cons, List.not_mem_nil, or_false] at q; subst q <;> rfl) (by decide) rfl rfl (fun _ q => by cases q; rfl) rfl rfl (a6v l Z a0 hw n1 _ (Nat.le_add_right _ _) hq185) rfl (ble rfl) (ble rfl) rfl rfl (a0J rfl) (a0N a0v rfl) (a0O a0v rfl) ?_
     refine a0f K.1 at_188 rfl ?_
     rcases ifs h with ⟨hc190, h⟩ | ⟨hc190, h⟩
     ·refine a0t K.1 at_190 ((if0 _ _).trans (tlt hc190).2.2.2) ?_
      refine a0d (v := 8) K.1 at_193 (by decide) ?_
      refine a0y (pc' := 200) K.1 at_195 (by decide) ?_
      exact a0n (b2M K hw hs0  h) (ln (ln (ln (ls (ls (ls (ls (ls (ls (ls (ls l0)))))))))))
     refine a0u (pc' := 198) K.1 at_190 (by decide) ((if0 _ _).trans (flt hc190).2.2.2) ?_
     refine a0d (v := 7) K.1 at_198 (by decide) ?_
     exact a0n (b2M K hw hs0  h) (ln (ln (ln (ls (ls (ls (ls (ls (ls (ls (ls l0)))))))))))
    refine a0o K.1 at_176 ((feq hc176).1) ?_
    refine a0c (v := 0) K.1 at_179 (by decide) ?_
    cases h; exact a0h (t := .boolean) K.1 rfl (Or.inl rfl) at_180 rfl (b2A K (a0N a0v rfl) (a0O a0v rfl))
   refine a0o K.1 at_163 ((feq hc163).1) ?_
   refine a0c (v := 0) K.1 at_166 (by decide) ?_
   cases h; exact a0h (t := .boolean) K.1 rfl (Or.inl rfl) at_167 rfl (b2A K (a0N a0v rfl) (a0O a0v rfl))
  refine a0o K.1 at_150 ((feq hc150).1) ?_
  refine a0c (v := 0) K.1 at_153 (by decide) ?_
  cases h; exact a0h (t := .boolean) K.1 rfl (Or.inl rfl) at_154 rfl (b2A K (a0N a0v rfl) (a0O a0v rfl))
 refine a0t K.1 at_131 ((if0 _ _).trans (feq hc131).1) ?_
 refine a0c (v := 0) K.1 at_134 (by decide) ?_
 cases h; exact a0h (t := .boolean) K.1 rfl (Or.inl rfl) at_135 rfl (b2A K (a0N a0v rfl) (a0O a0v rfl))
theorem b6M (l : Launch) (Z : State) (a0 : Array Value) (hw : HW a0 Z) (ws : List Jvm.Cond) (sc : Addr) (H0 : Heap) {NF : Nat} {v0 v1 v2 : Int32} {r : Int32 × List (St × Nat)} (h : LAW NF v0 v1 v2 = some r) : MetP l Z x code maxLocals ret room_1 ws H0.size H0 ([.int v0, .int v1, .int v2].map (up (adL sc H0.size 24))).toArray (some (.int r.1)) (fun _ => True) := by
 refine (a97 (S := List (St × Nat)) (ad := adL sc H0.size 24) (INV := INVl Z cC cFS cFA 24 H0.size H0) (CE := ceL 39 cFA) (x := []) (x' := r.2) (v := some (.int r.1)) (y := x) pnL rfl ⟨fun i q hq => by simp at hq, by simp [a5T], Nat.le_refl _, fun _ _ q => q⟩ rfl ?_).mono (fun _ _ => trivial)
 intro p e s m below meth c hs K
 exact b7C ⟨K, a1m hw, a0E, rfl, rfl, rfl, rfl, rfl, rfl, rfl, rfl, rfl⟩ hw (by show s.heap.size = _; rw [hs]) h
end Walk
theorem b5H (σ : St) (v lo hi : Int32) : a9u σ v lo hi = some (if v < lo then lo else if hi < v then hi else v, σ) := by
 unfold a9u; split
 ·rfl
 ·split <;> rfl
theorem b6f {NF : Nat} (hF : 1024 < NF) (σ : St) : a2p NF NF 0 σ = some (sI (sI (sI (b3J σ 9 5 fun _ => -1) 117 0) 150 (-1)) 149 0) := by
 refine b4k (l := a2p NF) (w := a2q NF) (fun _ _ _ => rfl) 5 (by decide) 9 (fun _ => -1) (fun σ => some (sI (sI (sI σ 117 0) 150 (-1)) 149 0)) ?_ ?_ NF (by omega) σ
 ·intro k i σ h0 h1
  unfold a2q
  rw [if_pos (b8a.mpr h1), if_pos ⟨h0, h1⟩]
 ·intro k i σ h
  unfold a2q
  rw [if_neg (by rw [b8a]; show ¬ _ < (5 : Int); omega)]
theorem b6e {NF : Nat} (hF : 1024 < NF) (σ : St) : a3v NF NF 0 σ = some (sI (sI (sI (b3J (sI (b3J σ 7 1024 fun i => 1023 - Int32.ofInt i) 124 1024) 9 5 fun _ => -1) 117 0) 150 (-1)) 149 0) := by
 rw [b4k (l := a3v NF) (w := a2n NF) (fun _ _ _ => rfl) 1024 (by decide) 7 (fun i => 1023 - Int32.ofInt i) (fun σ => a2p NF NF 0 (sI σ 124 1024)) ?_ ?_ NF hF σ]
 ·exact b6f hF _
 ·intro k i σ h0 h1
  unfold a2n
  rw [if_pos (b8a.mpr h1), if_pos ⟨h0, h1⟩, Int32.ofInt_toInt]
 ·intro k i σ h
  unfold a2n
  rw [if_neg (by rw [b8a]; show ¬ _ < (1024 : Int); omega)]
def b3u (il sl : Int32) : St := sI (sI (sI (b3J (sI (b3J (sI (sI z0 114 (if il < 2 then 2 else if 8 < il then 8 else il)) 115 (if sl < 8 then 8 else if 24 < sl then 24 else sl)) 7 1024 fun i => 1023 - Int32.ofInt i) 124 1024) 9 5 fun _ => -1) 117 0) 150 (-1)) 149 0
theorem b6o {NF : Nat} (hF : 1024 < NF) (il sl : Int32) : b3i NF il sl = some (b3u il sl) := by
 unfold b3i
 simp only [b5H, Option.bind_some]
 exact b6e hF _
def b3y (q1 q6 q12 : Int32) (q25 : St) : Option (Int32 × List (St × Nat)) :=
 ((a10 q25 (97 : Int32)).bind fun q34 => ((a10 q34.2 (58 : Int32)).bind fun q42 => ((a10 q42.2 (40 : Int32)).bind fun q50 => ((a10 q50.2 (60 : Int32)).bind fun q58 => ((a10 q58.2 ((48 : Int32) + q1)).bind fun q68 => ((a10 q68.2 (32 : Int32)).bind fun q76 => ((a10 q76.2 ((48 : Int32) + q6)).bind fun q87 => ((a10 q87.2 (41 : Int32)).bind fun q95 => ((a10 q95.2 (44 : Int32)).bind fun q103 => ((a10 q103.2 (45 : Int32)).bind fun q111 => ((a10 q111.2 ((48 : Int32) + q12)).bind fun q122 => ((b5m 3000 q122.2).bind fun q128 => (if q128.1 = 0 then ((b0U q128.2 (0 : Int32)).bind fun q146 => (if q146.1 = (2 : Int32) then ((b2I q146.2 (0 : Int32)).bind fun q159 => (if q159.1 = (4 : Int32) then ((b0Y q159.2 (0 : Int32)).bind fun q172 => (if q172.1 = (2 : Int32) then ((a1Z 3000 q172.2 (0 : Int32)).bind fun q185 => (if 0 < q12 then a8E 3000 q1 q6 q12 (0 : Int32) (1 : Int32) q185.1 (8 : Int32) q185.2 else a8E 3000 q1 q6 q12 (0 : Int32) (1 : Int32) q185.1 (7 : Int32) q185.2)) else (some ((0 : Int32), [(q172.2, 24)])))) else (some ((0 : Int32), [(q159.2, 24)])))) else (some ((0 : Int32), [(q146.2, 24)])))) else (some ((0 : Int32), [(q128.2, 24)])))))))))))))))
def b2y (x : Nat) : Bool := (List.range 10).all fun y => (List.range 10).all fun z => (b3y (Int32.ofNat x) (Int32.ofNat y) (Int32.ofNat z) (b3u 8 24)).any fun r => r.1 == 1
theorem b7P : b2y 0 = true := by decide +kernel
theorem b7Q : b2y 1 = true := by decide +kernel
theorem b7r : b2y 2 = true := by decide +kernel
theorem b7v : b2y 3 = true := by decide +kernel
theorem b7F : b2y 4 = true := by decide +kernel
theorem b7t : b2y 5 = true := by decide +kernel
theorem b7w : b2y 6 = true := by decide +kernel
theorem b7J : b2y 7 = true := by decide +kernel
theorem b7S : b2y 8 = true := by decide +kernel
theorem b7z : b2y 9 = true := by decide +kernel
theorem b6N (x y z : Nat) (hx : x < 10) (hy : y < 10) (hz : z < 10) : ∃ W, b3y (Int32.ofNat x) (Int32.ofNat y) (Int32.ofNat z) (b3u 8 24) = some (1, W) := by
 have h : b2y x = true := by
  have : x = 0 ∨ x = 1 ∨ x = 2 ∨ x = 3 ∨ x = 4 ∨ x = 5 ∨ x = 6 ∨ x = 7 ∨ x = 8 ∨ x = 9 := by omega
  rcases this with rfl | rfl | rfl | rfl | rfl | rfl | rfl | rfl | rfl | rfl
  ·exact b7P
  ·exact b7Q
  ·exact b7r
  ·exact b7v
  ·exact b7F
  ·exact b7t
  ·exact b7w
  ·exact b7J
  ·exact b7S
  ·exact b7z
 have h2 := List.all_eq_true.mp (List.all_eq_true.mp h y (List.mem_range.mpr hy)) z (List.mem_range.mpr hz)
 cases e : b3y (Int32.ofNat x) (Int32.ofNat y) (Int32.ofNat z) (b3u 8 24) with
 | none => rw [e] at h2; cases h2
 | some r =>
  rw [e] at h2
  obtain ⟨a, b⟩ := r
  have : a = 1 := eq_of_beq h2
  subst this
  exact ⟨b, rfl⟩
theorem b4P (p : Int32) : ∃ x : Nat, x < 10 ∧ b4j p = some (Int32.ofNat x) := by
 unfold b4j
 have t10 : (10 : Int32).toInt = 10 := rfl
 have h0 : (p % 10).toInt = p.toInt.tmod 10 := by rw [Int32.toInt_mod, t10]
 have b1 := Int.tmod_lt_of_pos p.toInt (b := 10) (by decide)
 have b2 := Int.lt_tmod_of_pos p.toInt (b := 10) (by decide)
 have h1 : (p % 10 + 10).toInt = p.toInt.tmod 10 + 10 := by rw [b7R (by rw [h0, t10]; omega) (by rw [h0, t10]; omega), h0, t10]
 have h2 : ((p % 10 + 10) % 10).toInt = (p.toInt.tmod 10 + 10) % 10 := by rw [Int32.toInt_mod, h1, t10, Int.tmod_eq_emod_of_nonneg (by omega)]
 generalize (p % 10 + 10) % 10 = d at h2
 have hd : d = 0 ∨ d = 1 ∨ d = 2 ∨ d = 3 ∨ d = 4 ∨ d = 5 ∨ d = 6 ∨ d = 7 ∨ d = 8 ∨ d = 9 := by
  simp only [b7V]
  have : (0 : Int32).toInt = 0 ∧ (1 : Int32).toInt = 1 ∧ (2 : Int32).toInt = 2 ∧ (3 : Int32).toInt = 3 ∧ (4 : Int32).toInt = 4 ∧ (5 : Int32).toInt = 5 ∧ (6 : Int32).toInt = 6 ∧ (7 : Int32).toInt = 7 ∧ (8 : Int32).toInt = 8 ∧ (9 : Int32).toInt = 9 := by decide
  omega
 rcases hd with rfl | rfl | rfl | rfl | rfl | rfl | rfl | rfl | rfl | rfl
 ·exact ⟨0, by decide, rfl⟩
 ·exact ⟨1, by decide, rfl⟩
 ·exact ⟨2, by decide, rfl⟩
 ·exact ⟨3, by decide, rfl⟩
 ·exact ⟨4, by decide, rfl⟩
 ·exact ⟨5, by decide, rfl⟩
 ·exact ⟨6, by decide, rfl⟩
 ·exact ⟨7, by decide, rfl⟩
 ·exact ⟨8, by decide, rfl⟩
 ·exact ⟨9, by decide, rfl⟩
theorem law_true (p q r : Int32) : ∃ NF W, LAW NF p q r = some (1, W) := by
 refine ⟨3000, ?_⟩
 obtain ⟨x, hx, ex⟩ := b4P p
 obtain ⟨y, hy, ey⟩ := b4P q
 obtain ⟨z, hz, ez⟩ := b4P r
 unfold LAW
 rw [ex, ey, ez, b6o (by decide)]
 exact b6N x y z hx hy hz
set_option maxRecDepth 65536 in
set_option maxHeartbeats 40000000 in
theorem comes_1 {Post : Tables → Env → Array Value → State → Outcome → State → Prop} (hpost : ∀ tb e args s v u, (limb_1_1.after args s (.returned v) u = true ∧ limb_1_2.after args s (.returned v) u = true ∧ True) → FrameEnd s (.returned v) u (Jvm.fieldLocs frame_1_writes args s ++ Jvm.arrayLocs frame_1_arrays args s ++ Jvm.staticLocs frame_1_statics s) 64 29248 → Post tb e args s (.returned v) u) :
  Jvm.D.ArmFor flags0 classFile x code maxLocals ret World_1 tables_1 room_1 Calls_1 rest_1 Pre_1 Post := by
 intro l hfl _ _ p e ha hc hk s m args below hf hA hF happ hP
 obtain ⟨hcalls, hrest, hpre⟩ := hP
 obtain ⟨-, -, -, hnamed, -, -, -, hat⟩ := (Spec.applies_iff hf).mp happ
 obtain ⟨hg, hn⟩ := and_e (Cond.before_iff.mp (show (Jvm.Cond.and given_1 narrow_1).before args s = true from hpre))
 have hw : HW args s := fun d (hd : d ∈ tables_1) => atoms_spec (ws := Jvm.Cond.code x code maxLocals ret :: tables_1) hat d (List.mem_cons_of_mem _ hd)
 have hfit : Fit s := fun {y c} hc i hi => by
  obtain ⟨ha, rfl⟩ := Array.getElem?_eq_some_iff.mp hc
  have q := List.all_eq_true.mp ((Array.all_eq_true_iff_forall_mem.mp hF) _ (Array.getElem_mem ha)) i (List.mem_range.mpr hi)
  simpa [Array.getElem?_eq_getElem hi] using q
 obtain ⟨g0, h0⟩ := and_e hg
 obtain ⟨v0, v1, v2, rfl⟩ : ∃ v0 v1 v2 : Value, args = #[v0, v1, v2] := by
  have hs : args.size = 3 := by simpa [Cond.value, given_1] using g0
  obtain ⟨L⟩ := args
  match L, hs with
  | [v0, v1, v2], _ => exact ⟨v0, v1, v2, rfl⟩
 obtain ⟨k0, h1⟩ := and_e h0
 obtain ⟨i0, e0⟩ := is_v k0
 obtain rfl : v0 = (.int i0) := Option.some.inj e0
 obtain ⟨k1, h2⟩ := and_e h1
 obtain ⟨i1, e1⟩ := is_v k1
 obtain rfl : v1 = (.int i1) := Option.some.inj e1
 obtain ⟨i2, e2⟩ := is_v h2
 obtain rfl : v2 = (.int i2) := Option.some.inj e2
 obtain ⟨NF, W, hW⟩ := law_true i0 i1 i2
 obtain ⟨n, o, h1, h2, h3, w, L, rfl, ⟨rfl, N, -⟩, hq⟩ := b6M l s _ hw tables_1 0 s.heap hW p e ha hc hk s m _ below hf ((Spec.applies_iff_loose hf).mp happ).1 ⟨rfl, State.Warmed39.refl s, rfl⟩ trivial
 refine ⟨n, _, h1, h2, h3, hpost _ _ _ _ _ _ ⟨Cond.after_iff.mpr rfl, Cond.after_iff.mpr (eq_i res_at (Term.int_eval (1)) rfl), trivial⟩ ⟨hq.1, hq.2.1, (hq.2.2.sift fun y hy => Or.inr (N y hy)).mono (by decide) (by decide)⟩⟩
theorem main_1_1 : Claimed_1_1 := comes_1 fun _ _ _ _ _ _ h hF => ⟨h.1, hF⟩
theorem main_1_2 : Claimed_1_2 := comes_1 fun _ _ _ _ _ _ h hF => ⟨h.2.1, hF⟩
end Jvm.Pilot.@@N@@
namespace Jvm.Pilot.@@N@@
open Jvm Jvm.ClassFile Sem Op Lib Jvm.Free Jvm.Stand Jvm.Pilot.@@N@@.Jvm.D
/-! MADE BY PROGRAM (witnessworld.py) out of the Statement's table words and the real class files: 11 classes; the members and pool entries that the words name. The judged class is class 1, her method 4. -/
namespace start1
open Jvm.ClassFile
def u (s : String) : CpInfo := .utf8 (stringToUtf16 s)
/-- a pool by its gaps: so many unusable entries, then the entry; so many at the end -/
def gap : Nat → List CpInfo → List CpInfo
  | 0, r => r
  | n + 1, r => .unusable :: gap n r
def poolList (es : List (Nat × CpInfo)) (last : Nat) : List CpInfo := es.foldr (fun e r => gap e.1 (e.2 :: r)) (gap last [])
def pool (es : List (Nat × CpInfo)) (last : Nat) : Array CpInfo := ⟨poolList es last⟩
def fileOf (pool : Array CpInfo) (this : Nat) (attrs : Array Attribute := #[]) (ms : Array MethodInfo := #[]) (fl : Nat := 33) (sup : Nat := 0) (ifs : Array Nat := #[]) (fds : Array FieldInfo := #[]) : ClassFile where
  minorVersion := 0
  majorVersion := 65
  constantPool := pool
  accessFlags := fl
  thisClass := this
  superClass := sup
  interfaces := ifs
  fields := fds
  methods := ms
  attributes := attrs
def plain (name : String) (sup : Option ClassId) : Class where
  name := name
  kind := .ordinary
  loader := none
  accessFlags := 33
  super := sup
  interfaces := #[]
  cf := none
  fields := #[]
  methods := #[]
  instanceTypes := #[]
  staticTypes := #[]
  resolved := #[]
  callSites := []
  init := .initialized
  statics := none
  mirror := none

def pool0 : Array CpInfo := pool [(5, u "<init>"), (0, u "()V"), (1, .class_ 10), (1, u "java/lang/Object")] 113

def k0c0 : Code := { maxStack := 0, maxLocals := 1, code := object_method_1_code, exceptionTable := #[], attributes := #[] }
def k0m0 : Method := { name := "<init>", desc := "()V", sig := { parameters := [], returnType := none }, accessFlags := 1, code := some k0c0 }
/-- java/lang/Object -/
def k0 : Class := { plain "java/lang/Object" none with
  accessFlags := 33
  interfaces := #[]
  cf := some (fileOf pool0 8 #[] #[{ accessFlags := 1, nameIndex := 5, descriptorIndex := 6, attributes := #[] }] 33 0 #[] #[])
  fields := #[]
  methods := #[k0m0]
  instanceTypes := #[]
  staticTypes := #[]
  resolved := Array.replicate 124 none
  statics := none }

def pool1 : Array CpInfo := pool [(2, .class_ 4), (1, u "java/lang/Object"), (0, u "<init>"), (0, u "()V"), (0, .methodref 8 9), (0, .class_ 10), (0, .nameAndType 11 12), (0, u "BoxedArrayLangL3"), (0, u "dig"), (0, u "(I)I"), (0, .class_ 14), (0, u "BoxedArrayLang"), (0, .methodref 13 16), (0, .nameAndType 5 17), (0, u "(II)V"), (0, .methodref 13 19), (0, .nameAndType 20 21), (0, u "put"), (0, u "(I)Z"), (0, .methodref 13 23), (0, .nameAndType 24 25), (0, u "run"), (0, u "()I"), (0, .methodref 13 27), (0, .nameAndType 28 12), (0, u "tally"), (0, .methodref 13 30), (0, .nameAndType 31 12), (0, u "size"), (0, .methodref 13 33), (0, .nameAndType 34 12), (0, u "depth"), (0, .methodref 13 36), (0, .nameAndType 37 12), (0, u "textLength"), (0, .methodref 13 39), (0, .nameAndType 40 41), (0, u "textChar"), (0, u "(II)C"), (0, .methodref 8 43), (0, .nameAndType 44 12), (0, u "first"), (0, .methodref 8 46), (0, .nameAndType 47 12), (0, u "len"), (0, .methodref 13 49), (0, .nameAndType 50 51), (0, u "match"), (0, u "(II)Z"), (3, u "law"), (0, u "(III)Z")] 2

def k1m0 : Method := { name := "<init>", desc := "()V", sig := { parameters := [], returnType := none }, accessFlags := 1, code := none }
def k1c1 : Code := { maxStack := 2, maxLocals := 1, code := method_2_code, exceptionTable := #[], attributes := #[] }
def k1m1 : Method := { name := "dig", desc := "(I)I", sig := { parameters := [.int], returnType := some .int }, accessFlags := 10, code := some k1c1 }
def k1c2 : Code := { maxStack := 1, maxLocals := 1, code := method_3_code, exceptionTable := #[], attributes := #[] }
def k1m2 : Method := { name := "len", desc := "(I)I", sig := { parameters := [.int], returnType := some .int }, accessFlags := 10, code := some k1c2 }
def k1c3 : Code := { maxStack := 2, maxLocals := 1, code := method_4_code, exceptionTable := #[], attributes := #[] }
def k1m3 : Method := { name := "first", desc := "(I)I", sig := { parameters := [.int], returnType := some .int }, accessFlags := 10, code := some k1c3 }
def k1c4 : Code := { maxStack := 4, maxLocals := 11, code := code, exceptionTable := #[], attributes := #[] }
def k1m4 : Method := { name := "law", desc := "(III)Z", sig := { parameters := [.int, .int, .int], returnType := some .boolean }, accessFlags := 9, code := some k1c4 }
/-- BoxedArrayLangL3 -/
def k1 : Class := { plain "BoxedArrayLangL3" (some 0) with
  accessFlags := 33
  interfaces := #[]
  cf := some (fileOf pool1 8 #[] #[{ accessFlags := 1, nameIndex := 5, descriptorIndex := 6, attributes := #[] }, { accessFlags := 10, nameIndex := 11, descriptorIndex := 12, attributes := #[] }, { accessFlags := 10, nameIndex := 47, descriptorIndex := 12, attributes := #[] }, { accessFlags := 10, nameIndex := 44, descriptorIndex := 12, attributes := #[] }, { accessFlags := 9, nameIndex := 55, descriptorIndex := 56, attributes := #[] }] 33 2 #[] #[])
  fields := #[]
  methods := #[k1m0, k1m1, k1m2, k1m3, k1m4]
  instanceTypes := #[]
  staticTypes := #[]
  resolved := Array.replicate 59 none
  statics := none }

def pool2 : Array CpInfo := pool [(1, .methodref 2 3), (0, .class_ 4), (0, .nameAndType 5 6), (0, u "java/lang/Object"), (0, u "<init>"), (0, u "()V"), (0, .fieldref 8 9), (0, .class_ 10), (0, .nameAndType 11 12), (0, u "BoxedArrayLang"), (0, u "line"), (0, u "[I"), (0, .fieldref 8 14), (0, .nameAndType 15 12), (0, u "hTally"), (0, .fieldref 8 17), (0, .nameAndType 18 12), (0, u "hRef"), (0, .fieldref 8 20), (0, .nameAndType 21 12), (0, u "hSize"), (0, .fieldref 8 23), (0, .nameAndType 24 12), (0, u "hDepth"), (0, .fieldref 8 26), (0, .nameAndType 27 12), (0, u "cells"), (0, .fieldref 8 29), (0, .nameAndType 30 12), (0, u "freeList"), (0, .fieldref 8 32), (0, .nameAndType 33 12), (0, u "relStack"), (0, .fieldref 8 35), (0, .nameAndType 36 12), (0, u "sel"), (0, .fieldref 8 38), (0, .nameAndType 39 12), (0, u "tokKind"), (0, .fieldref 8 41), (0, .nameAndType 42 12), (0, u "tokVal"), (0, .fieldref 8 44), (0, .nameAndType 45 12), (0, u "nKind"), (0, .fieldref 8 47), (0, .nameAndType 48 12), (0, u "nGlyph"), (0, .fieldref 8 50), (0, .nameAndType 51 12), (0, u "nA"), (0, .fieldref 8 53), (0, .nameAndType 54 12), (0, u "nB"), (0, .fieldref 8 56), (0, .nameAndType 57 12), (0, u "pStack"), (0, .fieldref 8 59), (0, .nameAndType 60 12), (0, u "eNode"), (0, .fieldref 8 62), (0, .nameAndType 63 12), (0, u "ePhase"), (0, .fieldref 8 65), (0, .nameAndType 66 12), (0, u "vStack"), (0, .fieldref 8 68), (0, .nameAndType 69 12), (0, u "mA"), (0, .fieldref 8 71), (0, .nameAndType 72 12), (0, u "mB"), (0, .fieldref 8 74), (0, .nameAndType 75 76), (0, u "text"), (0, u "[C"), (0, .fieldref 8 78), (0, .nameAndType 79 12), (0, u "rA"), (0, .fieldref 8 81), (0, .nameAndType 82 12), (0, u "rJ"), (0, .methodref 8 84), (0, .nameAndType 85 86), (0, u "clamp"), (0, u "(III)I"), (0, .fieldref 8 88), (0, .nameAndType 89 90), (0, u "itemLim"), (0, u "I"), (0, .fieldref 8 92), (0, .nameAndType 93 90), (0, u "sizeLim"), (0, .fieldref 8 95), (0, .nameAndType 96 90), (0, u "freeTop"), (0, .fieldref 8 98), (0, .nameAndType 99 90), (0, u "lineLen"), (0, .fieldref 8 101), (0, .nameAndType 102 90), (0, u "textSel"), (0, .fieldref 8 104), (0, .nameAndType 105 90), (0, u "textLen"), (0, .methodref 8 107), (0, .nameAndType 108 109), (0, u "allowedChar"), (0, u "(I)Z"), (0, .methodref 8 111), (0, .nameAndType 112 113), (0, u "runLine"), (0, u "()I"), (0, .methodref 8 115), (0, .nameAndType 116 109), (0, u "valid"), (0, .methodref 8 118), (0, .nameAndType 119 120), (0, u "cellAt"), (0, u "(II)I"), (0, .methodref 8 122), (0, .nameAndType 123 124), (0, u "boxOf"), (0, u "(I)I"), (0, .methodref 8 126), (0, .nameAndType 127 124), (0, u "itemSize"), (0, .methodref 8 129), (0, .nameAndType 130 131), (0, u "retainCell"), (0, u "(I)V"), (10, .methodref 8 143), (0, .nameAndType 144 109), (0, u "defined"), (0, .methodref 8 146), (0, .nameAndType 147 109), (0, u "prepareText"), (0, .methodref 8 149), (0, .nameAndType 150 151), (0, u "matchHandles"), (0, u "(II)Z"), (0, .methodref 8 153), (0, .nameAndType 154 109), (0, u "isDigit"), (0, .methodref 8 156), (0, .nameAndType 157 109), (0, u "isVarChar"), (0, .methodref 8 159), (0, .nameAndType 160 109), (0, u "isGlyph"), (0, .methodref 8 162), (0, .nameAndType 163 109), (0, u "isMonadicGlyph"), (0, .methodref 8 165), (0, .nameAndType 166 109), (0, u "isDyadicGlyph"), (0, .methodref 8 168), (0, .nameAndType 169 170), (0, u "tokenize"), (0, u "()Z"), (0, .methodref 8 172), (0, .nameAndType 173 170), (0, u "parse"), (0, .methodref 8 175), (0, .nameAndType 176 113), (0, u "evaluate"), (0, .methodref 8 178), (0, .nameAndType 179 131), (0, u "commit"), (0, .fieldref 8 181), (0, .nameAndType 182 90), (0, u "target"), (0, .methodref 8 184), (0, .nameAndType 185 131), (0, u "retain"), (0, .methodref 8 187), (0, .nameAndType 188 131), (0, u "release"), (0, .fieldref 8 190), (0, .nameAndType 191 90), (0, u "tokCount"), (0, .methodref 8 193), (0, .nameAndType 194 124), (0, u "scanNumber"), (0, .methodref 8 196), (0, .nameAndType 197 131), (0, u "addToken"), (0, .fieldref 8 199), (0, .nameAndType 200 90), (0, u "nodeCount"), (0, .fieldref 8 202), (0, .nameAndType 203 90), (0, u "pTop"), (0, .fieldref 8 205), (0, .nameAndType 206 90), (0, u "root"), (0, .fieldref 8 208), (0, .nameAndType 209 90), (0, u "cur"), (0, .fieldref 8 211), (0, .nameAndType 212 213), (0, u "expecting"), (0, u "Z"), (0, .methodref 8 215), (0, .nameAndType 216 124), (0, u "parseStart"), (0, .methodref 8 218), (0, .nameAndType 219 124), (0, u "parseAfter"), (0, .methodref 8 221), (0, .nameAndType 222 124), (0, u "kindAt"), (0, .methodref 8 224), (0, .nameAndType 225 109), (0, u "pushPending"), (0, .methodref 8 227), (0, .nameAndType 228 124), (0, u "parseLiteral"), (0, .methodref 8 230), (0, .nameAndType 231 232), (0, u "newNode"), (0, u "(IIII)I"), (0, .methodref 8 234), (0, .nameAndType 235 120), (0, u "takeOperand"), (0, .methodref 8 237), (0, .nameAndType 238 120), (0, u "parseFunction"), (0, .methodref 8 240), (0, .nameAndType 241 6), (0, u "collapse"), (0, .fieldref 8 243), (0, .nameAndType 244 90), (0, u "vTop"), (3, .methodref 8 249), (0, .nameAndType 250 120), (0, u "pushChildren"), (0, .methodref 8 252), (0, .nameAndType 253 124), (0, u "leaf"), (0, .methodref 8 255), (0, .nameAndType 256 124), (0, u "applyNode"), (0, .methodref 8 258), (0, .nameAndType 259 109), (0, u "vPush"), (0, .methodref 8 261), (0, .nameAndType 262 120), (0, u "literal"), (0, .methodref 8 264), (0, .nameAndType 265 113), (0, u "alloc"), (0, .methodref 8 267), (0, .nameAndType 268 269), (0, u "appendCell"), (0, u "(II)V"), (0, .methodref 8 271), (0, .nameAndType 272 86), (0, u "dyadic"), (3, .methodref 8 277), (0, .nameAndType 278 120), (0, u "reduce"), (0, .methodref 8 280), (0, .nameAndType 281 120), (0, u "monadic"), (0, .methodref 8 283), (0, .nameAndType 284 124), (0, u "negate"), (0, .methodref 8 286), (0, .nameAndType 287 124), (0, u "enclose"), (3, .methodref 8 292), (0, .nameAndType 293 124), (0, u "scalar"), (3, .methodref 8 298), (0, .nameAndType 299 124), (0, u "checkLimits"), (0, .methodref 8 301), (0, .nameAndType 302 120), (0, u "valueOfItem"), (5, u "argK"), (0, .methodref 8 310), (0, .nameAndType 311 109), (0, u "isBox"), (0, .methodref 8 313), (0, .nameAndType 314 86), (0, u "arith"), (0, .methodref 8 316), (0, .nameAndType 317 120), (0, u "catenate"), (6, .methodref 8 325), (0, .nameAndType 326 86), (0, u "combine"), (0, .methodref 8 328), (0, .nameAndType 329 269), (0, u "appendCopy"), (3, .methodref 8 334), (0, .nameAndType 335 124), (0, u "heldOf"), (3, .methodref 8 340), (0, .nameAndType 341 124), (0, u "heldDepth"), (0, .integer 100000), (0, .methodref 8 344), (0, .nameAndType 345 120), (0, u "freeArray"), (3, .methodref 8 350), (0, .nameAndType 351 131), (0, u "render"), (0, .methodref 8 353), (0, .nameAndType 354 131), (0, u "emit"), (0, .methodref 8 356), (0, .nameAndType 357 120), (0, u "renderCell"), (0, .methodref 8 359), (0, .nameAndType 360 131), (0, u "emitInt"), (0, u "OK"), (2, u "SYNTAX"), (1, u "VALUE"), (1, u "DOMAIN"), (1, u "LENGTH"), (1, u "LIMIT"), (1, u "VAR_A"), (0, u "VAR_B"), (0, u "VAR_C"), (0, u "VAR_D"), (0, u "RESULT"), (0, u "MAX_LINE"), (1, u "MAX_MAGNITUDE"), (6, u "put"), (2, u "run"), (1, u "tally"), (0, u "size"), (0, u "depth"), (0, u "textLength"), (0, u "textChar"), (0, u "(II)C"), (0, u "match")] 2

def k2c0 : Code := { maxStack := 5, maxLocals := 4, code := prog_1_method_1_code, exceptionTable := #[], attributes := #[] }
def k2m0 : Method := { name := "<init>", desc := "(II)V", sig := { parameters := [.int, .int], returnType := none }, accessFlags := 1, code := some k2c0 }
def k2c1 : Code := { maxStack := 2, maxLocals := 4, code := prog_1_method_2_code, exceptionTable := #[], attributes := #[] }
def k2m1 : Method := { name := "clamp", desc := "(III)I", sig := { parameters := [.int, .int, .int], returnType := some .int }, accessFlags := 2, code := some k2c1 }
def k2c2 : Code := { maxStack := 3, maxLocals := 2, code := prog_1_method_5_code, exceptionTable := #[], attributes := #[] }
def k2m2 : Method := { name := "put", desc := "(I)Z", sig := { parameters := [.int], returnType := some .boolean }, accessFlags := 1, code := some k2c2 }
def k2c3 : Code := { maxStack := 2, maxLocals := 2, code := prog_1_method_8_code, exceptionTable := #[], attributes := #[] }
def k2m3 : Method := { name := "run", desc := "()I", sig := { parameters := [], returnType := some .int }, accessFlags := 1, code := some k2c3 }
def k2c4 : Code := { maxStack := 3, maxLocals := 2, code := prog_1_method_10_code, exceptionTable := #[], attributes := #[] }
def k2m4 : Method := { name := "defined", desc := "(I)Z", sig := { parameters := [.int], returnType := some .boolean }, accessFlags := 1, code := some k2c4 }
def k2c5 : Code := { maxStack := 3, maxLocals := 2, code := prog_1_method_11_code, exceptionTable := #[], attributes := #[] }
def k2m5 : Method := { name := "tally", desc := "(I)I", sig := { parameters := [.int], returnType := some .int }, accessFlags := 1, code := some k2c5 }
def k2c6 : Code := { maxStack := 3, maxLocals := 2, code := prog_1_method_12_code, exceptionTable := #[], attributes := #[] }
def k2m6 : Method := { name := "size", desc := "(I)I", sig := { parameters := [.int], returnType := some .int }, accessFlags := 1, code := some k2c6 }
def k2c7 : Code := { maxStack := 3, maxLocals := 2, code := prog_1_method_13_code, exceptionTable := #[], attributes := #[] }
def k2m7 : Method := { name := "depth", desc := "(I)I", sig := { parameters := [.int], returnType := some .int }, accessFlags := 1, code := some k2c7 }
def k2c8 : Code := { maxStack := 2, maxLocals := 2, code := prog_1_method_14_code, exceptionTable := #[], attributes := #[] }
def k2m8 : Method := { name := "textLength", desc := "(I)I", sig := { parameters := [.int], returnType := some .int }, accessFlags := 1, code := some k2c8 }
def k2c9 : Code := { maxStack := 2, maxLocals := 3, code := prog_1_method_15_code, exceptionTable := #[], attributes := #[] }
def k2m9 : Method := { name := "textChar", desc := "(II)C", sig := { parameters := [.int, .int], returnType := some .char }, accessFlags := 1, code := some k2c9 }
def k2c10 : Code := { maxStack := 4, maxLocals := 3, code := prog_1_method_16_code, exceptionTable := #[], attributes := #[] }
def k2m10 : Method := { name := "match", desc := "(II)Z", sig := { parameters := [.int, .int], returnType := some .boolean }, accessFlags := 1, code := some k2c10 }
def k2c11 : Code := { maxStack := 2, maxLocals := 2, code := prog_1_method_17_code, exceptionTable := #[], attributes := #[] }
def k2m11 : Method := { name := "allowedChar", desc := "(I)Z", sig := { parameters := [.int], returnType := some .boolean }, accessFlags := 2, code := some k2c11 }
def k2c12 : Code := { maxStack := 2, maxLocals := 2, code := prog_1_method_18_code, exceptionTable := #[], attributes := #[] }
def k2m12 : Method := { name := "isDigit", desc := "(I)Z", sig := { parameters := [.int], returnType := some .boolean }, accessFlags := 2, code := some k2c12 }
def k2c13 : Code := { maxStack := 2, maxLocals := 2, code := prog_1_method_19_code, exceptionTable := #[], attributes := #[] }
def k2m13 : Method := { name := "isVarChar", desc := "(I)Z", sig := { parameters := [.int], returnType := some .boolean }, accessFlags := 2, code := some k2c13 }
def k2c14 : Code := { maxStack := 2, maxLocals := 2, code := prog_1_method_20_code, exceptionTable := #[], attributes := #[] }
def k2m14 : Method := { name := "isMonadicGlyph", desc := "(I)Z", sig := { parameters := [.int], returnType := some .boolean }, accessFlags := 2, code := some k2c14 }
def k2c15 : Code := { maxStack := 2, maxLocals := 2, code := prog_1_method_21_code, exceptionTable := #[], attributes := #[] }
def k2m15 : Method := { name := "isDyadicGlyph", desc := "(I)Z", sig := { parameters := [.int], returnType := some .boolean }, accessFlags := 2, code := some k2c15 }
def k2c16 : Code := { maxStack := 2, maxLocals := 2, code := prog_1_method_22_code, exceptionTable := #[], attributes := #[] }
def k2m16 : Method := { name := "isGlyph", desc := "(I)Z", sig := { parameters := [.int], returnType := some .boolean }, accessFlags := 2, code := some k2c16 }
def k2c17 : Code := { maxStack := 2, maxLocals := 2, code := prog_1_method_23_code, exceptionTable := #[], attributes := #[] }
def k2m17 : Method := { name := "runLine", desc := "()I", sig := { parameters := [], returnType := some .int }, accessFlags := 2, code := some k2c17 }
def k2c18 : Code := { maxStack := 3, maxLocals := 3, code := prog_1_method_24_code, exceptionTable := #[], attributes := #[] }
def k2m18 : Method := { name := "commit", desc := "(I)V", sig := { parameters := [.int], returnType := none }, accessFlags := 2, code := some k2c18 }
def k2c19 : Code := { maxStack := 2, maxLocals := 4, code := prog_1_method_25_code, exceptionTable := #[], attributes := #[] }
def k2m19 : Method := { name := "tokenize", desc := "()Z", sig := { parameters := [], returnType := some .boolean }, accessFlags := 2, code := some k2c19 }
def k2c20 : Code := { maxStack := 3, maxLocals := 6, code := prog_1_method_26_code, exceptionTable := #[], attributes := #[] }
def k2m20 : Method := { name := "scanNumber", desc := "(I)I", sig := { parameters := [.int], returnType := some .int }, accessFlags := 2, code := some k2c20 }
def k2c21 : Code := { maxStack := 4, maxLocals := 2, code := prog_1_method_27_code, exceptionTable := #[], attributes := #[] }
def k2m21 : Method := { name := "addToken", desc := "(I)V", sig := { parameters := [.int], returnType := none }, accessFlags := 2, code := some k2c21 }
def k2c22 : Code := { maxStack := 2, maxLocals := 2, code := prog_1_method_28_code, exceptionTable := #[], attributes := #[] }
def k2m22 : Method := { name := "kindAt", desc := "(I)I", sig := { parameters := [.int], returnType := some .int }, accessFlags := 2, code := some k2c22 }
def k2c23 : Code := { maxStack := 3, maxLocals := 4, code := prog_1_method_29_code, exceptionTable := #[], attributes := #[] }
def k2m23 : Method := { name := "parse", desc := "()Z", sig := { parameters := [], returnType := some .boolean }, accessFlags := 2, code := some k2c23 }
def k2c24 : Code := { maxStack := 5, maxLocals := 4, code := prog_1_method_30_code, exceptionTable := #[], attributes := #[] }
def k2m24 : Method := { name := "parseStart", desc := "(I)I", sig := { parameters := [.int], returnType := some .int }, accessFlags := 2, code := some k2c24 }
def k2c25 : Code := { maxStack := 2, maxLocals := 3, code := prog_1_method_31_code, exceptionTable := #[], attributes := #[] }
def k2m25 : Method := { name := "takeOperand", desc := "(II)I", sig := { parameters := [.int, .int], returnType := some .int }, accessFlags := 2, code := some k2c25 }
def k2c26 : Code := { maxStack := 5, maxLocals := 7, code := prog_1_method_32_code, exceptionTable := #[], attributes := #[] }
def k2m26 : Method := { name := "parseFunction", desc := "(II)I", sig := { parameters := [.int, .int], returnType := some .int }, accessFlags := 2, code := some k2c26 }
def k2c27 : Code := { maxStack := 5, maxLocals := 4, code := prog_1_method_33_code, exceptionTable := #[], attributes := #[] }
def k2m27 : Method := { name := "parseLiteral", desc := "(I)I", sig := { parameters := [.int], returnType := some .int }, accessFlags := 2, code := some k2c27 }
def k2c28 : Code := { maxStack := 5, maxLocals := 4, code := prog_1_method_34_code, exceptionTable := #[], attributes := #[] }
def k2m28 : Method := { name := "parseAfter", desc := "(I)I", sig := { parameters := [.int], returnType := some .int }, accessFlags := 2, code := some k2c28 }
def k2c29 : Code := { maxStack := 3, maxLocals := 3, code := prog_1_method_35_code, exceptionTable := #[], attributes := #[] }
def k2m29 : Method := { name := "collapse", desc := "()V", sig := { parameters := [], returnType := none }, accessFlags := 2, code := some k2c29 }
def k2c30 : Code := { maxStack := 3, maxLocals := 2, code := prog_1_method_36_code, exceptionTable := #[], attributes := #[] }
def k2m30 : Method := { name := "pushPending", desc := "(I)Z", sig := { parameters := [.int], returnType := some .boolean }, accessFlags := 2, code := some k2c30 }
def k2c31 : Code := { maxStack := 3, maxLocals := 6, code := prog_1_method_37_code, exceptionTable := #[], attributes := #[] }
def k2m31 : Method := { name := "newNode", desc := "(IIII)I", sig := { parameters := [.int, .int, .int, .int], returnType := some .int }, accessFlags := 2, code := some k2c31 }
def k2c32 : Code := { maxStack := 3, maxLocals := 7, code := prog_1_method_38_code, exceptionTable := #[], attributes := #[] }
def k2m32 : Method := { name := "evaluate", desc := "()I", sig := { parameters := [], returnType := some .int }, accessFlags := 2, code := some k2c32 }
def k2c33 : Code := { maxStack := 4, maxLocals := 3, code := prog_1_method_39_code, exceptionTable := #[], attributes := #[] }
def k2m33 : Method := { name := "pushChildren", desc := "(II)I", sig := { parameters := [.int, .int], returnType := some .int }, accessFlags := 2, code := some k2c33 }
def k2c34 : Code := { maxStack := 3, maxLocals := 2, code := prog_1_method_41_code, exceptionTable := #[], attributes := #[] }
def k2m34 : Method := { name := "vPush", desc := "(I)Z", sig := { parameters := [.int], returnType := some .boolean }, accessFlags := 2, code := some k2c34 }
def k2c35 : Code := { maxStack := 4, maxLocals := 3, code := prog_1_method_42_code, exceptionTable := #[], attributes := #[] }
def k2m35 : Method := { name := "leaf", desc := "(I)I", sig := { parameters := [.int], returnType := some .int }, accessFlags := 2, code := some k2c35 }
def k2c36 : Code := { maxStack := 4, maxLocals := 6, code := prog_1_method_43_code, exceptionTable := #[], attributes := #[] }
def k2m36 : Method := { name := "literal", desc := "(II)I", sig := { parameters := [.int, .int], returnType := some .int }, accessFlags := 2, code := some k2c36 }
def k2c37 : Code := { maxStack := 4, maxLocals := 7, code := prog_1_method_44_code, exceptionTable := #[], attributes := #[] }
def k2m37 : Method := { name := "applyNode", desc := "(I)I", sig := { parameters := [.int], returnType := some .int }, accessFlags := 2, code := some k2c37 }
def k2c38 : Code := { maxStack := 3, maxLocals := 4, code := prog_1_method_45_code, exceptionTable := #[], attributes := #[] }
def k2m38 : Method := { name := "monadic", desc := "(II)I", sig := { parameters := [.int, .int], returnType := some .int }, accessFlags := 2, code := some k2c38 }
def k2c39 : Code := { maxStack := 3, maxLocals := 6, code := prog_1_method_46_code, exceptionTable := #[], attributes := #[] }
def k2m39 : Method := { name := "negate", desc := "(I)I", sig := { parameters := [.int], returnType := some .int }, accessFlags := 2, code := some k2c39 }
def k2c40 : Code := { maxStack := 3, maxLocals := 4, code := prog_1_method_47_code, exceptionTable := #[], attributes := #[] }
def k2m40 : Method := { name := "enclose", desc := "(I)I", sig := { parameters := [.int], returnType := some .int }, accessFlags := 2, code := some k2c40 }
def k2c41 : Code := { maxStack := 4, maxLocals := 6, code := prog_1_method_51_code, exceptionTable := #[], attributes := #[] }
def k2m41 : Method := { name := "dyadic", desc := "(III)I", sig := { parameters := [.int, .int, .int], returnType := some .int }, accessFlags := 2, code := some k2c41 }
def k2c42 : Code := { maxStack := 4, maxLocals := 12, code := prog_1_method_52_code, exceptionTable := #[], attributes := #[] }
def k2m42 : Method := { name := "arith", desc := "(III)I", sig := { parameters := [.int, .int, .int], returnType := some .int }, accessFlags := 2, code := some k2c42 }
def k2c43 : Code := { maxStack := 2, maxLocals := 4, code := prog_1_method_53_code, exceptionTable := #[], attributes := #[] }
def k2m43 : Method := { name := "combine", desc := "(III)I", sig := { parameters := [.int, .int, .int], returnType := some .int }, accessFlags := 2, code := some k2c43 }
def k2c44 : Code := { maxStack := 5, maxLocals := 7, code := prog_1_method_54_code, exceptionTable := #[], attributes := #[] }
def k2m44 : Method := { name := "catenate", desc := "(II)I", sig := { parameters := [.int, .int], returnType := some .int }, accessFlags := 2, code := some k2c44 }
def k2c45 : Code := { maxStack := 4, maxLocals := 8, code := prog_1_method_59_code, exceptionTable := #[], attributes := #[] }
def k2m45 : Method := { name := "reduce", desc := "(II)I", sig := { parameters := [.int, .int], returnType := some .int }, accessFlags := 2, code := some k2c45 }
def k2c46 : Code := { maxStack := 3, maxLocals := 3, code := prog_1_method_60_code, exceptionTable := #[], attributes := #[] }
def k2m46 : Method := { name := "scalar", desc := "(I)I", sig := { parameters := [.int], returnType := some .int }, accessFlags := 2, code := some k2c46 }
def k2c47 : Code := { maxStack := 3, maxLocals := 5, code := prog_1_method_61_code, exceptionTable := #[], attributes := #[] }
def k2m47 : Method := { name := "valueOfItem", desc := "(II)I", sig := { parameters := [.int, .int], returnType := some .int }, accessFlags := 2, code := some k2c47 }
def k2c48 : Code := { maxStack := 2, maxLocals := 2, code := prog_1_method_62_code, exceptionTable := #[], attributes := #[] }
def k2m48 : Method := { name := "checkLimits", desc := "(I)I", sig := { parameters := [.int], returnType := some .int }, accessFlags := 2, code := some k2c48 }
def k2c49 : Code := { maxStack := 2, maxLocals := 2, code := prog_1_method_66_code, exceptionTable := #[], attributes := #[] }
def k2m49 : Method := { name := "valid", desc := "(I)Z", sig := { parameters := [.int], returnType := some .boolean }, accessFlags := 2, code := some k2c49 }
def k2c50 : Code := { maxStack := 2, maxLocals := 2, code := prog_1_method_67_code, exceptionTable := #[], attributes := #[] }
def k2m50 : Method := { name := "isBox", desc := "(I)Z", sig := { parameters := [.int], returnType := some .boolean }, accessFlags := 2, code := some k2c50 }
def k2c51 : Code := { maxStack := 2, maxLocals := 2, code := prog_1_method_68_code, exceptionTable := #[], attributes := #[] }
def k2m51 : Method := { name := "boxOf", desc := "(I)I", sig := { parameters := [.int], returnType := some .int }, accessFlags := 2, code := some k2c51 }
def k2c52 : Code := { maxStack := 2, maxLocals := 2, code := prog_1_method_69_code, exceptionTable := #[], attributes := #[] }
def k2m52 : Method := { name := "heldOf", desc := "(I)I", sig := { parameters := [.int], returnType := some .int }, accessFlags := 2, code := some k2c52 }
def k2c53 : Code := { maxStack := 3, maxLocals := 3, code := prog_1_method_70_code, exceptionTable := #[], attributes := #[] }
def k2m53 : Method := { name := "cellAt", desc := "(II)I", sig := { parameters := [.int, .int], returnType := some .int }, accessFlags := 2, code := some k2c53 }
def k2c54 : Code := { maxStack := 3, maxLocals := 3, code := prog_1_method_71_code, exceptionTable := #[], attributes := #[] }
def k2m54 : Method := { name := "itemSize", desc := "(I)I", sig := { parameters := [.int], returnType := some .int }, accessFlags := 2, code := some k2c54 }
def k2c55 : Code := { maxStack := 2, maxLocals := 3, code := prog_1_method_72_code, exceptionTable := #[], attributes := #[] }
def k2m55 : Method := { name := "heldDepth", desc := "(I)I", sig := { parameters := [.int], returnType := some .int }, accessFlags := 2, code := some k2c55 }
def k2c56 : Code := { maxStack := 3, maxLocals := 2, code := prog_1_method_73_code, exceptionTable := #[], attributes := #[] }
def k2m56 : Method := { name := "alloc", desc := "()I", sig := { parameters := [], returnType := some .int }, accessFlags := 2, code := some k2c56 }
def k2c57 : Code := { maxStack := 4, maxLocals := 2, code := prog_1_method_74_code, exceptionTable := #[], attributes := #[] }
def k2m57 : Method := { name := "retain", desc := "(I)V", sig := { parameters := [.int], returnType := none }, accessFlags := 2, code := some k2c57 }
def k2c58 : Code := { maxStack := 2, maxLocals := 3, code := prog_1_method_75_code, exceptionTable := #[], attributes := #[] }
def k2m58 : Method := { name := "retainCell", desc := "(I)V", sig := { parameters := [.int], returnType := none }, accessFlags := 2, code := some k2c58 }
def k2c59 : Code := { maxStack := 5, maxLocals := 5, code := prog_1_method_77_code, exceptionTable := #[], attributes := #[] }
def k2m59 : Method := { name := "appendCell", desc := "(II)V", sig := { parameters := [.int, .int], returnType := none }, accessFlags := 2, code := some k2c59 }
def k2c60 : Code := { maxStack := 3, maxLocals := 3, code := prog_1_method_78_code, exceptionTable := #[], attributes := #[] }
def k2m60 : Method := { name := "appendCopy", desc := "(II)V", sig := { parameters := [.int, .int], returnType := none }, accessFlags := 2, code := some k2c60 }
def k2c61 : Code := { maxStack := 4, maxLocals := 5, code := prog_1_method_79_code, exceptionTable := #[], attributes := #[] }
def k2m61 : Method := { name := "release", desc := "(I)V", sig := { parameters := [.int], returnType := none }, accessFlags := 2, code := some k2c61 }
def k2c62 : Code := { maxStack := 3, maxLocals := 8, code := prog_1_method_80_code, exceptionTable := #[], attributes := #[] }
def k2m62 : Method := { name := "freeArray", desc := "(II)I", sig := { parameters := [.int, .int], returnType := some .int }, accessFlags := 2, code := some k2c62 }
def k2c63 : Code := { maxStack := 4, maxLocals := 7, code := prog_1_method_81_code, exceptionTable := #[], attributes := #[] }
def k2m63 : Method := { name := "matchHandles", desc := "(II)Z", sig := { parameters := [.int, .int], returnType := some .boolean }, accessFlags := 2, code := some k2c63 }
def k2c64 : Code := { maxStack := 3, maxLocals := 2, code := prog_1_method_83_code, exceptionTable := #[], attributes := #[] }
def k2m64 : Method := { name := "prepareText", desc := "(I)Z", sig := { parameters := [.int], returnType := some .boolean }, accessFlags := 2, code := some k2c64 }
def k2c65 : Code := { maxStack := 4, maxLocals := 6, code := prog_1_method_84_code, exceptionTable := #[], attributes := #[] }
def k2m65 : Method := { name := "render", desc := "(I)V", sig := { parameters := [.int], returnType := none }, accessFlags := 2, code := some k2c65 }
def k2c66 : Code := { maxStack := 3, maxLocals := 4, code := prog_1_method_85_code, exceptionTable := #[], attributes := #[] }
def k2m66 : Method := { name := "renderCell", desc := "(II)I", sig := { parameters := [.int, .int], returnType := some .int }, accessFlags := 2, code := some k2c66 }
def k2c67 : Code := { maxStack := 4, maxLocals := 3, code := prog_1_method_86_code, exceptionTable := #[], attributes := #[] }
def k2m67 : Method := { name := "emitInt", desc := "(I)V", sig := { parameters := [.int], returnType := none }, accessFlags := 2, code := some k2c67 }
def k2c68 : Code := { maxStack := 3, maxLocals := 2, code := prog_1_method_87_code, exceptionTable := #[], attributes := #[] }
def k2m68 : Method := { name := "emit", desc := "(I)V", sig := { parameters := [.int], returnType := none }, accessFlags := 2, code := some k2c68 }
/-- BoxedArrayLang -/
def k2 : Class := { plain "BoxedArrayLang" (some 0) with
  accessFlags := 49
  interfaces := #[]
  cf := some (fileOf pool2 8 #[] #[{ accessFlags := 1, nameIndex := 5, descriptorIndex := 269, attributes := #[] }, { accessFlags := 2, nameIndex := 85, descriptorIndex := 86, attributes := #[] }, { accessFlags := 1, nameIndex := 388, descriptorIndex := 109, attributes := #[] }, { accessFlags := 1, nameIndex := 391, descriptorIndex := 113, attributes := #[] }, { accessFlags := 1, nameIndex := 144, descriptorIndex := 109, attributes := #[] }, { accessFlags := 1, nameIndex := 393, descriptorIndex := 124, attributes := #[] }, { accessFlags := 1, nameIndex := 394, descriptorIndex := 124, attributes := #[] }, { accessFlags := 1, nameIndex := 395, descriptorIndex := 124, attributes := #[] }, { accessFlags := 1, nameIndex := 396, descriptorIndex := 124, attributes := #[] }, { accessFlags := 1, nameIndex := 397, descriptorIndex := 398, attributes := #[] }, { accessFlags := 1, nameIndex := 399, descriptorIndex := 151, attributes := #[] }, { accessFlags := 2, nameIndex := 108, descriptorIndex := 109, attributes := #[] }, { accessFlags := 2, nameIndex := 154, descriptorIndex := 109, attributes := #[] }, { accessFlags := 2, nameIndex := 157, descriptorIndex := 109, attributes := #[] }, { accessFlags := 2, nameIndex := 163, descriptorIndex := 109, attributes := #[] }, { accessFlags := 2, nameIndex := 166, descriptorIndex := 109, attributes := #[] }, { accessFlags := 2, nameIndex := 160, descriptorIndex := 109, attributes := #[] }, { accessFlags := 2, nameIndex := 112, descriptorIndex := 113, attributes := #[] }, { accessFlags := 2, nameIndex := 179, descriptorIndex := 131, attributes := #[] }, { accessFlags := 2, nameIndex := 169, descriptorIndex := 170, attributes := #[] }, { accessFlags := 2, nameIndex := 194, descriptorIndex := 124, attributes := #[] }, { accessFlags := 2, nameIndex := 197, descriptorIndex := 131, attributes := #[] }, { accessFlags := 2, nameIndex := 222, descriptorIndex := 124, attributes := #[] }, { accessFlags := 2, nameIndex := 173, descriptorIndex := 170, attributes := #[] }, { accessFlags := 2, nameIndex := 216, descriptorIndex := 124, attributes := #[] }, { accessFlags := 2, nameIndex := 235, descriptorIndex := 120, attributes := #[] }, { accessFlags := 2, nameIndex := 238, descriptorIndex := 120, attributes := #[] }, { accessFlags := 2, nameIndex := 228, descriptorIndex := 124, attributes := #[] }, { accessFlags := 2, nameIndex := 219, descriptorIndex := 124, attributes := #[] }, { accessFlags := 2, nameIndex := 241, descriptorIndex := 6, attributes := #[] }, { accessFlags := 2, nameIndex := 225, descriptorIndex := 109, attributes := #[] }, { accessFlags := 2, nameIndex := 231, descriptorIndex := 232, attributes := #[] }, { accessFlags := 2, nameIndex := 176, descriptorIndex := 113, attributes := #[] }, { accessFlags := 2, nameIndex := 250, descriptorIndex := 120, attributes := #[] }, { accessFlags := 2, nameIndex := 259, descriptorIndex := 109, attributes := #[] }, { accessFlags := 2, nameIndex := 253, descriptorIndex := 124, attributes := #[] }, { accessFlags := 2, nameIndex := 262, descriptorIndex := 120, attributes := #[] }, { accessFlags := 2, nameIndex := 256, descriptorIndex := 124, attributes := #[] }, { accessFlags := 2, nameIndex := 281, descriptorIndex := 120, attributes := #[] }, { accessFlags := 2, nameIndex := 284, descriptorIndex := 124, attributes := #[] }, { accessFlags := 2, nameIndex := 287, descriptorIndex := 124, attributes := #[] }, { accessFlags := 2, nameIndex := 272, descriptorIndex := 86, attributes := #[] }, { accessFlags := 2, nameIndex := 314, descriptorIndex := 86, attributes := #[] }, { accessFlags := 2, nameIndex := 326, descriptorIndex := 86, attributes := #[] }, { accessFlags := 2, nameIndex := 317, descriptorIndex := 120, attributes := #[] }, { accessFlags := 2, nameIndex := 278, descriptorIndex := 120, attributes := #[] }, { accessFlags := 2, nameIndex := 293, descriptorIndex := 124, attributes := #[] }, { accessFlags := 2, nameIndex := 302, descriptorIndex := 120, attributes := #[] }, { accessFlags := 2, nameIndex := 299, descriptorIndex := 124, attributes := #[] }, { accessFlags := 2, nameIndex := 116, descriptorIndex := 109, attributes := #[] }, { accessFlags := 2, nameIndex := 311, descriptorIndex := 109, attributes := #[] }, { accessFlags := 2, nameIndex := 123, descriptorIndex := 124, attributes := #[] }, { accessFlags := 2, nameIndex := 335, descriptorIndex := 124, attributes := #[] }, { accessFlags := 2, nameIndex := 119, descriptorIndex := 120, attributes := #[] }, { accessFlags := 2, nameIndex := 127, descriptorIndex := 124, attributes := #[] }, { accessFlags := 2, nameIndex := 341, descriptorIndex := 124, attributes := #[] }, { accessFlags := 2, nameIndex := 265, descriptorIndex := 113, attributes := #[] }, { accessFlags := 2, nameIndex := 185, descriptorIndex := 131, attributes := #[] }, { accessFlags := 2, nameIndex := 130, descriptorIndex := 131, attributes := #[] }, { accessFlags := 2, nameIndex := 268, descriptorIndex := 269, attributes := #[] }, { accessFlags := 2, nameIndex := 329, descriptorIndex := 269, attributes := #[] }, { accessFlags := 2, nameIndex := 188, descriptorIndex := 131, attributes := #[] }, { accessFlags := 2, nameIndex := 345, descriptorIndex := 120, attributes := #[] }, { accessFlags := 2, nameIndex := 150, descriptorIndex := 151, attributes := #[] }, { accessFlags := 2, nameIndex := 147, descriptorIndex := 109, attributes := #[] }, { accessFlags := 2, nameIndex := 351, descriptorIndex := 131, attributes := #[] }, { accessFlags := 2, nameIndex := 357, descriptorIndex := 120, attributes := #[] }, { accessFlags := 2, nameIndex := 360, descriptorIndex := 131, attributes := #[] }, { accessFlags := 2, nameIndex := 354, descriptorIndex := 131, attributes := #[] }] 49 2 #[] #[{ accessFlags := 25, nameIndex := 361, descriptorIndex := 90, attributes := #[] }, { accessFlags := 25, nameIndex := 364, descriptorIndex := 90, attributes := #[] }, { accessFlags := 25, nameIndex := 366, descriptorIndex := 90, attributes := #[] }, { accessFlags := 25, nameIndex := 368, descriptorIndex := 90, attributes := #[] }, { accessFlags := 25, nameIndex := 370, descriptorIndex := 90, attributes := #[] }, { accessFlags := 25, nameIndex := 372, descriptorIndex := 90, attributes := #[] }, { accessFlags := 25, nameIndex := 374, descriptorIndex := 90, attributes := #[] }, { accessFlags := 25, nameIndex := 375, descriptorIndex := 90, attributes := #[] }, { accessFlags := 25, nameIndex := 376, descriptorIndex := 90, attributes := #[] }, { accessFlags := 25, nameIndex := 377, descriptorIndex := 90, attributes := #[] }, { accessFlags := 25, nameIndex := 378, descriptorIndex := 90, attributes := #[] }, { accessFlags := 25, nameIndex := 379, descriptorIndex := 90, attributes := #[] }, { accessFlags := 25, nameIndex := 381, descriptorIndex := 90, attributes := #[] }, { accessFlags := 2, nameIndex := 89, descriptorIndex := 90, attributes := #[] }, { accessFlags := 2, nameIndex := 93, descriptorIndex := 90, attributes := #[] }, { accessFlags := 2, nameIndex := 11, descriptorIndex := 12, attributes := #[] }, { accessFlags := 2, nameIndex := 99, descriptorIndex := 90, attributes := #[] }, { accessFlags := 2, nameIndex := 15, descriptorIndex := 12, attributes := #[] }, { accessFlags := 2, nameIndex := 18, descriptorIndex := 12, attributes := #[] }, { accessFlags := 2, nameIndex := 21, descriptorIndex := 12, attributes := #[] }, { accessFlags := 2, nameIndex := 24, descriptorIndex := 12, attributes := #[] }, { accessFlags := 2, nameIndex := 27, descriptorIndex := 12, attributes := #[] }, { accessFlags := 2, nameIndex := 30, descriptorIndex := 12, attributes := #[] }, { accessFlags := 2, nameIndex := 96, descriptorIndex := 90, attributes := #[] }, { accessFlags := 2, nameIndex := 33, descriptorIndex := 12, attributes := #[] }, { accessFlags := 2, nameIndex := 36, descriptorIndex := 12, attributes := #[] }, { accessFlags := 2, nameIndex := 39, descriptorIndex := 12, attributes := #[] }, { accessFlags := 2, nameIndex := 42, descriptorIndex := 12, attributes := #[] }, { accessFlags := 2, nameIndex := 191, descriptorIndex := 90, attributes := #[] }, { accessFlags := 2, nameIndex := 45, descriptorIndex := 12, attributes := #[] }, { accessFlags := 2, nameIndex := 48, descriptorIndex := 12, attributes := #[] }, { accessFlags := 2, nameIndex := 51, descriptorIndex := 12, attributes := #[] }, { accessFlags := 2, nameIndex := 54, descriptorIndex := 12, attributes := #[] }, { accessFlags := 2, nameIndex := 200, descriptorIndex := 90, attributes := #[] }, { accessFlags := 2, nameIndex := 57, descriptorIndex := 12, attributes := #[] }, { accessFlags := 2, nameIndex := 203, descriptorIndex := 90, attributes := #[] }, { accessFlags := 2, nameIndex := 212, descriptorIndex := 213, attributes := #[] }, { accessFlags := 2, nameIndex := 209, descriptorIndex := 90, attributes := #[] }, { accessFlags := 2, nameIndex := 206, descriptorIndex := 90, attributes := #[] }, { accessFlags := 2, nameIndex := 182, descriptorIndex := 90, attributes := #[] }, { accessFlags := 2, nameIndex := 60, descriptorIndex := 12, attributes := #[] }, { accessFlags := 2, nameIndex := 63, descriptorIndex := 12, attributes := #[] }, { accessFlags := 2, nameIndex := 66, descriptorIndex := 12, attributes := #[] }, { accessFlags := 2, nameIndex := 244, descriptorIndex := 90, attributes := #[] }, { accessFlags := 2, nameIndex := 308, descriptorIndex := 90, attributes := #[] }, { accessFlags := 2, nameIndex := 69, descriptorIndex := 12, attributes := #[] }, { accessFlags := 2, nameIndex := 72, descriptorIndex := 12, attributes := #[] }, { accessFlags := 2, nameIndex := 75, descriptorIndex := 76, attributes := #[] }, { accessFlags := 2, nameIndex := 105, descriptorIndex := 90, attributes := #[] }, { accessFlags := 2, nameIndex := 102, descriptorIndex := 90, attributes := #[] }, { accessFlags := 2, nameIndex := 79, descriptorIndex := 12, attributes := #[] }, { accessFlags := 2, nameIndex := 82, descriptorIndex := 12, attributes := #[] }])
  fields := #[{ name := "OK", type := .int, accessFlags := 25, slot := 0, constantValue := 0 }, { name := "SYNTAX", type := .int, accessFlags := 25, slot := 1, constantValue := 0 }, { name := "VALUE", type := .int, accessFlags := 25, slot := 2, constantValue := 0 }, { name := "DOMAIN", type := .int, accessFlags := 25, slot := 3, constantValue := 0 }, { name := "LENGTH", type := .int, accessFlags := 25, slot := 4, constantValue := 0 }, { name := "LIMIT", type := .int, accessFlags := 25, slot := 5, constantValue := 0 }, { name := "VAR_A", type := .int, accessFlags := 25, slot := 6, constantValue := 0 }, { name := "VAR_B", type := .int, accessFlags := 25, slot := 7, constantValue := 0 }, { name := "VAR_C", type := .int, accessFlags := 25, slot := 8, constantValue := 0 }, { name := "VAR_D", type := .int, accessFlags := 25, slot := 9, constantValue := 0 }, { name := "RESULT", type := .int, accessFlags := 25, slot := 10, constantValue := 0 }, { name := "MAX_LINE", type := .int, accessFlags := 25, slot := 11, constantValue := 0 }, { name := "MAX_MAGNITUDE", type := .int, accessFlags := 25, slot := 12, constantValue := 0 }, { name := "itemLim", type := .int, accessFlags := 2, slot := 0, constantValue := 0 }, { name := "sizeLim", type := .int, accessFlags := 2, slot := 1, constantValue := 0 }, { name := "line", type := (.array .int), accessFlags := 2, slot := 2, constantValue := 0 }, { name := "lineLen", type := .int, accessFlags := 2, slot := 3, constantValue := 0 }, { name := "hTally", type := (.array .int), accessFlags := 2, slot := 4, constantValue := 0 }, { name := "hRef", type := (.array .int), accessFlags := 2, slot := 5, constantValue := 0 }, { name := "hSize", type := (.array .int), accessFlags := 2, slot := 6, constantValue := 0 }, { name := "hDepth", type := (.array .int), accessFlags := 2, slot := 7, constantValue := 0 }, { name := "cells", type := (.array .int), accessFlags := 2, slot := 8, constantValue := 0 }, { name := "freeList", type := (.array .int), accessFlags := 2, slot := 9, constantValue := 0 }, { name := "freeTop", type := .int, accessFlags := 2, slot := 10, constantValue := 0 }, { name := "relStack", type := (.array .int), accessFlags := 2, slot := 11, constantValue := 0 }, { name := "sel", type := (.array .int), accessFlags := 2, slot := 12, constantValue := 0 }, { name := "tokKind", type := (.array .int), accessFlags := 2, slot := 13, constantValue := 0 }, { name := "tokVal", type := (.array .int), accessFlags := 2, slot := 14, constantValue := 0 }, { name := "tokCount", type := .int, accessFlags := 2, slot := 15, constantValue := 0 }, { name := "nKind", type := (.array .int), accessFlags := 2, slot := 16, constantValue := 0 }, { name := "nGlyph", type := (.array .int), accessFlags := 2, slot := 17, constantValue := 0 }, { name := "nA", type := (.array .int), accessFlags := 2, slot := 18, constantValue := 0 }, { name := "nB", type := (.array .int), accessFlags := 2, slot := 19, constantValue := 0 }, { name := "nodeCount", type := .int, accessFlags := 2, slot := 20, constantValue := 0 }, { name := "pStack", type := (.array .int), accessFlags := 2, slot := 21, constantValue := 0 }, { name := "pTop", type := .int, accessFlags := 2, slot := 22, constantValue := 0 }, { name := "expecting", type := .boolean, accessFlags := 2, slot := 23, constantValue := 0 }, { name := "cur", type := .int, accessFlags := 2, slot := 24, constantValue := 0 }, { name := "root", type := .int, accessFlags := 2, slot := 25, constantValue := 0 }, { name := "target", type := .int, accessFlags := 2, slot := 26, constantValue := 0 }, { name := "eNode", type := (.array .int), accessFlags := 2, slot := 27, constantValue := 0 }, { name := "ePhase", type := (.array .int), accessFlags := 2, slot := 28, constantValue := 0 }, { name := "vStack", type := (.array .int), accessFlags := 2, slot := 29, constantValue := 0 }, { name := "vTop", type := .int, accessFlags := 2, slot := 30, constantValue := 0 }, { name := "argK", type := .int, accessFlags := 2, slot := 31, constantValue := 0 }, { name := "mA", type := (.array .int), accessFlags := 2, slot := 32, constantValue := 0 }, { name := "mB", type := (.array .int), accessFlags := 2, slot := 33, constantValue := 0 }, { name := "text", type := (.array .char), accessFlags := 2, slot := 34, constantValue := 0 }, { name := "textLen", type := .int, accessFlags := 2, slot := 35, constantValue := 0 }, { name := "textSel", type := .int, accessFlags := 2, slot := 36, constantValue := 0 }, { name := "rA", type := (.array .int), accessFlags := 2, slot := 37, constantValue := 0 }, { name := "rJ", type := (.array .int), accessFlags := 2, slot := 38, constantValue := 0 }]
  methods := #[k2m0, k2m1, k2m2, k2m3, k2m4, k2m5, k2m6, k2m7, k2m8, k2m9, k2m10, k2m11, k2m12, k2m13, k2m14, k2m15, k2m16, k2m17, k2m18, k2m19, k2m20, k2m21, k2m22, k2m23, k2m24, k2m25, k2m26, k2m27, k2m28, k2m29, k2m30, k2m31, k2m32, k2m33, k2m34, k2m35, k2m36, k2m37, k2m38, k2m39, k2m40, k2m41, k2m42, k2m43, k2m44, k2m45, k2m46, k2m47, k2m48, k2m49, k2m50, k2m51, k2m52, k2m53, k2m54, k2m55, k2m56, k2m57, k2m58, k2m59, k2m60, k2m61, k2m62, k2m63, k2m64, k2m65, k2m66, k2m67, k2m68]
  instanceTypes := #[.int, .int, (.array .int), .int, (.array .int), (.array .int), (.array .int), (.array .int), (.array .int), (.array .int), .int, (.array .int), (.array .int), (.array .int), (.array .int), .int, (.array .int), (.array .int), (.array .int), (.array .int), .int, (.array .int), .int, .boolean, .int, .int, .int, (.array .int), (.array .int), (.array .int), .int, .int, (.array .int), (.array .int), (.array .char), .int, .int, (.array .int), (.array .int)]
  staticTypes := #[.int, .int, .int, .int, .int, .int, .int, .int, .int, .int, .int, .int, .int]
  resolved := Array.replicate 402 none
  statics := none }

def pool3 : Array CpInfo := pool [(1, u "java/lang/Cloneable"), (0, .class_ 1), (0, u "java/lang/Object"), (0, .class_ 3)] 3

/-- java/lang/Cloneable -/
def k3 : Class := { plain "java/lang/Cloneable" (some 0) with
  accessFlags := 1537
  interfaces := #[]
  cf := some (fileOf pool3 2 #[] #[] 1537 4 #[] #[])
  fields := #[]
  methods := #[]
  instanceTypes := #[]
  staticTypes := #[]
  resolved := Array.replicate 8 none
  statics := none }

def pool4 : Array CpInfo := pool [(1, u "java/io/Serializable"), (0, .class_ 1), (0, u "java/lang/Object"), (0, .class_ 3)] 3

/-- java/io/Serializable -/
def k4 : Class := { plain "java/io/Serializable" (some 0) with
  accessFlags := 1537
  interfaces := #[]
  cf := some (fileOf pool4 2 #[] #[] 1537 4 #[] #[])
  fields := #[]
  methods := #[]
  instanceTypes := #[]
  staticTypes := #[]
  resolved := Array.replicate 8 none
  statics := none }

/-- the primitive byte -/
def k5 : Class := { plain "byte" none with kind := .primitive 'B', accessFlags := 0x411 }
/-- [B -/
def k6 : Class := { plain "[B" (some 0) with kind := .array 5 .byte, interfaces := #[3, 4], accessFlags := 1041 }

/-- the primitive char -/
def k7 : Class := { plain "char" none with kind := .primitive 'C', accessFlags := 0x411 }
/-- [C -/
def k8 : Class := { plain "[C" (some 0) with kind := .array 7 .char, interfaces := #[3, 4], accessFlags := 1041 }

/-- the primitive int -/
def k9 : Class := { plain "int" none with kind := .primitive 'I', accessFlags := 0x411 }
/-- [I -/
def k10 : Class := { plain "[I" (some 0) with kind := .array 9 .int, interfaces := #[3, 4], accessFlags := 1041 }

def heap : Heap := #[]
def classes : Array Class := #[k0, k1, k2, k3, k4, k5, k6, k7, k8, k9, k10]
def interned : List (Array UInt16 × Addr) := []
def slotsUsed : Nat := 0
def theMethod : MethodId := ⟨1, 4⟩
def args0 : Array Value := #[.int 5, .int 5, .int 5]
def aboutOver (below : List Frame) : State where
  vm := { classes := classes, interned := interned.toArray }
  heap := heap
  slotsUsed := slotsUsed
  threads := #[{ frames := .invoking theMethod args0 :: below }]
def below0 : List Frame := [.native { method := ⟨0, 0⟩, args := #[] }]
def about1 : State := aboutOver below0
def p0 : Program := .bare "" "" ""
def e0 : Env := launch0.env 0 0 0
theorem w_frames : about1.frames = Frame.invoking theMethod args0 :: below0 := rfl
set_option maxRecDepth 65536 in
theorem w_args : argsFit about1.vm theMethod args0 = true := by decide +kernel
set_option maxRecDepth 65536 in
theorem w_heap : heapFits about1 = true := by decide +kernel
set_option maxRecDepth 65536 in
theorem w_runnable : about1.curStatus? = some .runnable := by decide +kernel
set_option maxRecDepth 65536 in
theorem w_alone : about1.alone = true := by decide +kernel
set_option maxRecDepth 65536 in
theorem w_named : about1.methodNamed? x = some theMethod := by decide +kernel
set_option maxRecDepth 65536 in
theorem w_hears : about1.hears theMethod below0 = true := by decide +kernel
set_option maxRecDepth 65536 in
theorem w_ripe : about1.ripe theMethod args0 below0 = true := by decide +kernel
theorem w_running : about1.status = .running := rfl
set_option maxRecDepth 65536 in
theorem w_room : about1.hasRoom e0.platform room_1 = true :=
  launch0.hasRoom_least _ room_1 (by decide +kernel) (by decide +kernel) (by decide +kernel) (by decide +kernel) (by decide +kernel) (by decide +kernel)
theorem allAtoms_all (ts : List Jvm.Cond) (a : Array Jvm.Value) (st : Jvm.State) : (allAtoms ts).before a st = ts.all (fun c => c.before a st) := by
  induction ts with
  | nil => rfl
  | cons c t ih =>
    show (Jvm.Cond.and c (allAtoms t)).before a st = _
    rw [Jvm.Cond.before_and, ih, List.all_cons]
def words1 : List Jvm.Cond := Jvm.Cond.code x code maxLocals ret :: tables_1
/-- a 'code' word, met by the world's own term for the bytes: nothing is compared byte by byte -/
theorem code_word {y : MethodName} {bytes : ByteArray} {mx : Nat} {rt : Option FieldType} {a : Array Value} {s : State} {m : MethodId} {meth : Method} {c : Code} (h1 : s.methodNamed? y = some m) (h2 : s.vm.method? m = some meth) (h3 : meth.code = some c) (h4 : c.code = bytes)
    (h5 : (c.maxLocals == mx && c.exceptionTable.isEmpty && decide (c.maxStack ≤ mostOperands) && decide (meth.sig.returnType = rt) && !meth.locks && decide (parseMethodDescriptor y.desc = some meth.sig)) = true) : (Jvm.Cond.code y bytes mx rt).before a s = true := by
  simp only [Bool.and_eq_true, beq_iff_eq, Bool.not_eq_true', decide_eq_true_eq] at h5
  obtain ⟨⟨⟨⟨⟨g1, g2⟩, g3⟩, g4⟩, g5⟩, g6⟩ := h5
  simp [Cond.before, Cond.holds, Cond.value, h1, h2, h3, h4, g1, g2, g3, g4, g5, g6]
def isCode : Jvm.Cond → Bool
  | .code _ _ _ _ => true
  | _ => false
theorem all_split {L : List Jvm.Cond} {P : Jvm.Cond → Bool} (h1 : L.all (fun c => isCode c || P c) = true) (h2 : ∀ c ∈ L.filter isCode, P c = true) : L.all P = true := by
  refine List.all_eq_true.mpr fun c hc => ?_
  have h := List.all_eq_true.mp h1 c hc
  rcases Bool.eq_false_or_eq_true (isCode c) with hi | hi
  · exact h2 c (List.mem_filter.mpr ⟨hc, hi⟩)
  · simpa [hi] using h
set_option maxRecDepth 65536 in
theorem w_c0 : (Jvm.Cond.code x code maxLocals ret).before args0 about1 = true := code_word (m := ⟨1, 4⟩) (meth := k1m4) (c := k1c4) (by decide +kernel) rfl rfl rfl (by decide +kernel)
set_option maxRecDepth 65536 in
theorem w_c1 : (Jvm.Cond.code ({ cls := "BoxedArrayLangL3", name := "dig", desc := "(I)I" } : Jvm.MethodName) method_2_code (1 : Nat) (Option.some Jvm.ClassFile.FieldType.int)).before args0 about1 = true := code_word (m := ⟨1, 1⟩) (meth := k1m1) (c := k1c1) (by decide +kernel) rfl rfl rfl (by decide +kernel)
set_option maxRecDepth 65536 in
theorem w_c2 : (Jvm.Cond.code ({ cls := "BoxedArrayLang", name := "<init>", desc := "(II)V" } : Jvm.MethodName) prog_1_method_1_code (4 : Nat) (Option.none : Option Jvm.ClassFile.FieldType)).before args0 about1 = true := code_word (m := ⟨2, 0⟩) (meth := k2m0) (c := k2c0) (by decide +kernel) rfl rfl rfl (by decide +kernel)
set_option maxRecDepth 65536 in
theorem w_c3 : (Jvm.Cond.code ({ cls := "java/lang/Object", name := "<init>", desc := "()V" } : Jvm.MethodName) object_method_1_code (1 : Nat) (Option.none : Option Jvm.ClassFile.FieldType)).before args0 about1 = true := code_word (m := ⟨0, 0⟩) (meth := k0m0) (c := k0c0) (by decide +kernel) rfl rfl rfl (by decide +kernel)
set_option maxRecDepth 65536 in
theorem w_c4 : (Jvm.Cond.code ({ cls := "BoxedArrayLang", name := "clamp", desc := "(III)I" } : Jvm.MethodName) prog_1_method_2_code (4 : Nat) (Option.some Jvm.ClassFile.FieldType.int)).before args0 about1 = true := code_word (m := ⟨2, 1⟩) (meth := k2m1) (c := k2c1) (by decide +kernel) rfl rfl rfl (by decide +kernel)
set_option maxRecDepth 65536 in
theorem w_c5 : (Jvm.Cond.code ({ cls := "BoxedArrayLang", name := "put", desc := "(I)Z" } : Jvm.MethodName) prog_1_method_5_code (2 : Nat) (Option.some Jvm.ClassFile.FieldType.boolean)).before args0 about1 = true := code_word (m := ⟨2, 2⟩) (meth := k2m2) (c := k2c2) (by decide +kernel) rfl rfl rfl (by decide +kernel)
set_option maxRecDepth 65536 in
theorem w_c6 : (Jvm.Cond.code ({ cls := "BoxedArrayLang", name := "allowedChar", desc := "(I)Z" } : Jvm.MethodName) prog_1_method_17_code (2 : Nat) (Option.some Jvm.ClassFile.FieldType.boolean)).before args0 about1 = true := code_word (m := ⟨2, 11⟩) (meth := k2m11) (c := k2c11) (by decide +kernel) rfl rfl rfl (by decide +kernel)
set_option maxRecDepth 65536 in
theorem w_c7 : (Jvm.Cond.code ({ cls := "BoxedArrayLang", name := "isDigit", desc := "(I)Z" } : Jvm.MethodName) prog_1_method_18_code (2 : Nat) (Option.some Jvm.ClassFile.FieldType.boolean)).before args0 about1 = true := code_word (m := ⟨2, 12⟩) (meth := k2m12) (c := k2c12) (by decide +kernel) rfl rfl rfl (by decide +kernel)
set_option maxRecDepth 65536 in
theorem w_c8 : (Jvm.Cond.code ({ cls := "BoxedArrayLang", name := "isVarChar", desc := "(I)Z" } : Jvm.MethodName) prog_1_method_19_code (2 : Nat) (Option.some Jvm.ClassFile.FieldType.boolean)).before args0 about1 = true := code_word (m := ⟨2, 13⟩) (meth := k2m13) (c := k2c13) (by decide +kernel) rfl rfl rfl (by decide +kernel)
set_option maxRecDepth 65536 in
theorem w_c9 : (Jvm.Cond.code ({ cls := "BoxedArrayLang", name := "isGlyph", desc := "(I)Z" } : Jvm.MethodName) prog_1_method_22_code (2 : Nat) (Option.some Jvm.ClassFile.FieldType.boolean)).before args0 about1 = true := code_word (m := ⟨2, 16⟩) (meth := k2m16) (c := k2c16) (by decide +kernel) rfl rfl rfl (by decide +kernel)
set_option maxRecDepth 65536 in
theorem w_c10 : (Jvm.Cond.code ({ cls := "BoxedArrayLang", name := "isMonadicGlyph", desc := "(I)Z" } : Jvm.MethodName) prog_1_method_20_code (2 : Nat) (Option.some Jvm.ClassFile.FieldType.boolean)).before args0 about1 = true := code_word (m := ⟨2, 14⟩) (meth := k2m14) (c := k2c14) (by decide +kernel) rfl rfl rfl (by decide +kernel)
set_option maxRecDepth 65536 in
theorem w_c11 : (Jvm.Cond.code ({ cls := "BoxedArrayLang", name := "isDyadicGlyph", desc := "(I)Z" } : Jvm.MethodName) prog_1_method_21_code (2 : Nat) (Option.some Jvm.ClassFile.FieldType.boolean)).before args0 about1 = true := code_word (m := ⟨2, 15⟩) (meth := k2m15) (c := k2c15) (by decide +kernel) rfl rfl rfl (by decide +kernel)
set_option maxRecDepth 65536 in
theorem w_c12 : (Jvm.Cond.code ({ cls := "BoxedArrayLang", name := "run", desc := "()I" } : Jvm.MethodName) prog_1_method_8_code (2 : Nat) (Option.some Jvm.ClassFile.FieldType.int)).before args0 about1 = true := code_word (m := ⟨2, 3⟩) (meth := k2m3) (c := k2c3) (by decide +kernel) rfl rfl rfl (by decide +kernel)
set_option maxRecDepth 65536 in
theorem w_c13 : (Jvm.Cond.code ({ cls := "BoxedArrayLang", name := "runLine", desc := "()I" } : Jvm.MethodName) prog_1_method_23_code (2 : Nat) (Option.some Jvm.ClassFile.FieldType.int)).before args0 about1 = true := code_word (m := ⟨2, 17⟩) (meth := k2m17) (c := k2c17) (by decide +kernel) rfl rfl rfl (by decide +kernel)
set_option maxRecDepth 65536 in
theorem w_c14 : (Jvm.Cond.code ({ cls := "BoxedArrayLang", name := "tokenize", desc := "()Z" } : Jvm.MethodName) prog_1_method_25_code (4 : Nat) (Option.some Jvm.ClassFile.FieldType.boolean)).before args0 about1 = true := code_word (m := ⟨2, 19⟩) (meth := k2m19) (c := k2c19) (by decide +kernel) rfl rfl rfl (by decide +kernel)
set_option maxRecDepth 65536 in
theorem w_c15 : (Jvm.Cond.code ({ cls := "BoxedArrayLang", name := "addToken", desc := "(I)V" } : Jvm.MethodName) prog_1_method_27_code (2 : Nat) (Option.none : Option Jvm.ClassFile.FieldType)).before args0 about1 = true := code_word (m := ⟨2, 21⟩) (meth := k2m21) (c := k2c21) (by decide +kernel) rfl rfl rfl (by decide +kernel)
set_option maxRecDepth 65536 in
theorem w_c16 : (Jvm.Cond.code ({ cls := "BoxedArrayLang", name := "scanNumber", desc := "(I)I" } : Jvm.MethodName) prog_1_method_26_code (6 : Nat) (Option.some Jvm.ClassFile.FieldType.int)).before args0 about1 = true := code_word (m := ⟨2, 20⟩) (meth := k2m20) (c := k2c20) (by decide +kernel) rfl rfl rfl (by decide +kernel)
set_option maxRecDepth 65536 in
theorem w_c17 : (Jvm.Cond.code ({ cls := "BoxedArrayLang", name := "parse", desc := "()Z" } : Jvm.MethodName) prog_1_method_29_code (4 : Nat) (Option.some Jvm.ClassFile.FieldType.boolean)).before args0 about1 = true := code_word (m := ⟨2, 23⟩) (meth := k2m23) (c := k2c23) (by decide +kernel) rfl rfl rfl (by decide +kernel)
set_option maxRecDepth 65536 in
theorem w_c18 : (Jvm.Cond.code ({ cls := "BoxedArrayLang", name := "parseStart", desc := "(I)I" } : Jvm.MethodName) prog_1_method_30_code (4 : Nat) (Option.some Jvm.ClassFile.FieldType.int)).before args0 about1 = true := code_word (m := ⟨2, 24⟩) (meth := k2m24) (c := k2c24) (by decide +kernel) rfl rfl rfl (by decide +kernel)
set_option maxRecDepth 65536 in
theorem w_c19 : (Jvm.Cond.code ({ cls := "BoxedArrayLang", name := "kindAt", desc := "(I)I" } : Jvm.MethodName) prog_1_method_28_code (2 : Nat) (Option.some Jvm.ClassFile.FieldType.int)).before args0 about1 = true := code_word (m := ⟨2, 22⟩) (meth := k2m22) (c := k2c22) (by decide +kernel) rfl rfl rfl (by decide +kernel)
set_option maxRecDepth 65536 in
theorem w_c20 : (Jvm.Cond.code ({ cls := "BoxedArrayLang", name := "pushPending", desc := "(I)Z" } : Jvm.MethodName) prog_1_method_36_code (2 : Nat) (Option.some Jvm.ClassFile.FieldType.boolean)).before args0 about1 = true := code_word (m := ⟨2, 30⟩) (meth := k2m30) (c := k2c30) (by decide +kernel) rfl rfl rfl (by decide +kernel)
set_option maxRecDepth 65536 in
theorem w_c21 : (Jvm.Cond.code ({ cls := "BoxedArrayLang", name := "parseFunction", desc := "(II)I" } : Jvm.MethodName) prog_1_method_32_code (7 : Nat) (Option.some Jvm.ClassFile.FieldType.int)).before args0 about1 = true := code_word (m := ⟨2, 26⟩) (meth := k2m26) (c := k2c26) (by decide +kernel) rfl rfl rfl (by decide +kernel)
set_option maxRecDepth 65536 in
theorem w_c22 : (Jvm.Cond.code ({ cls := "BoxedArrayLang", name := "newNode", desc := "(IIII)I" } : Jvm.MethodName) prog_1_method_37_code (6 : Nat) (Option.some Jvm.ClassFile.FieldType.int)).before args0 about1 = true := code_word (m := ⟨2, 31⟩) (meth := k2m31) (c := k2c31) (by decide +kernel) rfl rfl rfl (by decide +kernel)
set_option maxRecDepth 65536 in
theorem w_c23 : (Jvm.Cond.code ({ cls := "BoxedArrayLang", name := "parseLiteral", desc := "(I)I" } : Jvm.MethodName) prog_1_method_33_code (4 : Nat) (Option.some Jvm.ClassFile.FieldType.int)).before args0 about1 = true := code_word (m := ⟨2, 27⟩) (meth := k2m27) (c := k2c27) (by decide +kernel) rfl rfl rfl (by decide +kernel)
set_option maxRecDepth 65536 in
theorem w_c24 : (Jvm.Cond.code ({ cls := "BoxedArrayLang", name := "takeOperand", desc := "(II)I" } : Jvm.MethodName) prog_1_method_31_code (3 : Nat) (Option.some Jvm.ClassFile.FieldType.int)).before args0 about1 = true := code_word (m := ⟨2, 25⟩) (meth := k2m25) (c := k2c25) (by decide +kernel) rfl rfl rfl (by decide +kernel)
set_option maxRecDepth 65536 in
theorem w_c25 : (Jvm.Cond.code ({ cls := "BoxedArrayLang", name := "parseAfter", desc := "(I)I" } : Jvm.MethodName) prog_1_method_34_code (4 : Nat) (Option.some Jvm.ClassFile.FieldType.int)).before args0 about1 = true := code_word (m := ⟨2, 28⟩) (meth := k2m28) (c := k2c28) (by decide +kernel) rfl rfl rfl (by decide +kernel)
set_option maxRecDepth 65536 in
theorem w_c26 : (Jvm.Cond.code ({ cls := "BoxedArrayLang", name := "collapse", desc := "()V" } : Jvm.MethodName) prog_1_method_35_code (3 : Nat) (Option.none : Option Jvm.ClassFile.FieldType)).before args0 about1 = true := code_word (m := ⟨2, 29⟩) (meth := k2m29) (c := k2c29) (by decide +kernel) rfl rfl rfl (by decide +kernel)
set_option maxRecDepth 65536 in
theorem w_c27 : (Jvm.Cond.code ({ cls := "BoxedArrayLang", name := "evaluate", desc := "()I" } : Jvm.MethodName) prog_1_method_38_code (7 : Nat) (Option.some Jvm.ClassFile.FieldType.int)).before args0 about1 = true := code_word (m := ⟨2, 32⟩) (meth := k2m32) (c := k2c32) (by decide +kernel) rfl rfl rfl (by decide +kernel)
set_option maxRecDepth 65536 in
theorem w_c28 : (Jvm.Cond.code ({ cls := "BoxedArrayLang", name := "pushChildren", desc := "(II)I" } : Jvm.MethodName) prog_1_method_39_code (3 : Nat) (Option.some Jvm.ClassFile.FieldType.int)).before args0 about1 = true := code_word (m := ⟨2, 33⟩) (meth := k2m33) (c := k2c33) (by decide +kernel) rfl rfl rfl (by decide +kernel)
set_option maxRecDepth 65536 in
theorem w_c29 : (Jvm.Cond.code ({ cls := "BoxedArrayLang", name := "leaf", desc := "(I)I" } : Jvm.MethodName) prog_1_method_42_code (3 : Nat) (Option.some Jvm.ClassFile.FieldType.int)).before args0 about1 = true := code_word (m := ⟨2, 35⟩) (meth := k2m35) (c := k2c35) (by decide +kernel) rfl rfl rfl (by decide +kernel)
set_option maxRecDepth 65536 in
theorem w_c30 : (Jvm.Cond.code ({ cls := "BoxedArrayLang", name := "literal", desc := "(II)I" } : Jvm.MethodName) prog_1_method_43_code (6 : Nat) (Option.some Jvm.ClassFile.FieldType.int)).before args0 about1 = true := code_word (m := ⟨2, 36⟩) (meth := k2m36) (c := k2c36) (by decide +kernel) rfl rfl rfl (by decide +kernel)
set_option maxRecDepth 65536 in
theorem w_c31 : (Jvm.Cond.code ({ cls := "BoxedArrayLang", name := "alloc", desc := "()I" } : Jvm.MethodName) prog_1_method_73_code (2 : Nat) (Option.some Jvm.ClassFile.FieldType.int)).before args0 about1 = true := code_word (m := ⟨2, 56⟩) (meth := k2m56) (c := k2c56) (by decide +kernel) rfl rfl rfl (by decide +kernel)
set_option maxRecDepth 65536 in
theorem w_c32 : (Jvm.Cond.code ({ cls := "BoxedArrayLang", name := "valid", desc := "(I)Z" } : Jvm.MethodName) prog_1_method_66_code (2 : Nat) (Option.some Jvm.ClassFile.FieldType.boolean)).before args0 about1 = true := code_word (m := ⟨2, 49⟩) (meth := k2m49) (c := k2c49) (by decide +kernel) rfl rfl rfl (by decide +kernel)
set_option maxRecDepth 65536 in
theorem w_c33 : (Jvm.Cond.code ({ cls := "BoxedArrayLang", name := "appendCell", desc := "(II)V" } : Jvm.MethodName) prog_1_method_77_code (5 : Nat) (Option.none : Option Jvm.ClassFile.FieldType)).before args0 about1 = true := code_word (m := ⟨2, 59⟩) (meth := k2m59) (c := k2c59) (by decide +kernel) rfl rfl rfl (by decide +kernel)
set_option maxRecDepth 65536 in
theorem w_c34 : (Jvm.Cond.code ({ cls := "BoxedArrayLang", name := "itemSize", desc := "(I)I" } : Jvm.MethodName) prog_1_method_71_code (3 : Nat) (Option.some Jvm.ClassFile.FieldType.int)).before args0 about1 = true := code_word (m := ⟨2, 54⟩) (meth := k2m54) (c := k2c54) (by decide +kernel) rfl rfl rfl (by decide +kernel)
set_option maxRecDepth 65536 in
theorem w_c35 : (Jvm.Cond.code ({ cls := "BoxedArrayLang", name := "isBox", desc := "(I)Z" } : Jvm.MethodName) prog_1_method_67_code (2 : Nat) (Option.some Jvm.ClassFile.FieldType.boolean)).before args0 about1 = true := code_word (m := ⟨2, 50⟩) (meth := k2m50) (c := k2c50) (by decide +kernel) rfl rfl rfl (by decide +kernel)
set_option maxRecDepth 65536 in
theorem w_c36 : (Jvm.Cond.code ({ cls := "BoxedArrayLang", name := "heldDepth", desc := "(I)I" } : Jvm.MethodName) prog_1_method_72_code (3 : Nat) (Option.some Jvm.ClassFile.FieldType.int)).before args0 about1 = true := code_word (m := ⟨2, 55⟩) (meth := k2m55) (c := k2c55) (by decide +kernel) rfl rfl rfl (by decide +kernel)
set_option maxRecDepth 65536 in
theorem w_c37 : (Jvm.Cond.code ({ cls := "BoxedArrayLang", name := "vPush", desc := "(I)Z" } : Jvm.MethodName) prog_1_method_41_code (2 : Nat) (Option.some Jvm.ClassFile.FieldType.boolean)).before args0 about1 = true := code_word (m := ⟨2, 34⟩) (meth := k2m34) (c := k2c34) (by decide +kernel) rfl rfl rfl (by decide +kernel)
set_option maxRecDepth 65536 in
theorem w_c38 : (Jvm.Cond.code ({ cls := "BoxedArrayLang", name := "applyNode", desc := "(I)I" } : Jvm.MethodName) prog_1_method_44_code (7 : Nat) (Option.some Jvm.ClassFile.FieldType.int)).before args0 about1 = true := code_word (m := ⟨2, 37⟩) (meth := k2m37) (c := k2c37) (by decide +kernel) rfl rfl rfl (by decide +kernel)
set_option maxRecDepth 65536 in
theorem w_c39 : (Jvm.Cond.code ({ cls := "BoxedArrayLang", name := "monadic", desc := "(II)I" } : Jvm.MethodName) prog_1_method_45_code (4 : Nat) (Option.some Jvm.ClassFile.FieldType.int)).before args0 about1 = true := code_word (m := ⟨2, 38⟩) (meth := k2m38) (c := k2c38) (by decide +kernel) rfl rfl rfl (by decide +kernel)
set_option maxRecDepth 65536 in
theorem w_c40 : (Jvm.Cond.code ({ cls := "BoxedArrayLang", name := "negate", desc := "(I)I" } : Jvm.MethodName) prog_1_method_46_code (6 : Nat) (Option.some Jvm.ClassFile.FieldType.int)).before args0 about1 = true := code_word (m := ⟨2, 39⟩) (meth := k2m39) (c := k2c39) (by decide +kernel) rfl rfl rfl (by decide +kernel)
set_option maxRecDepth 65536 in
theorem w_c41 : (Jvm.Cond.code ({ cls := "BoxedArrayLang", name := "checkLimits", desc := "(I)I" } : Jvm.MethodName) prog_1_method_62_code (2 : Nat) (Option.some Jvm.ClassFile.FieldType.int)).before args0 about1 = true := code_word (m := ⟨2, 48⟩) (meth := k2m48) (c := k2c48) (by decide +kernel) rfl rfl rfl (by decide +kernel)
set_option maxRecDepth 65536 in
theorem w_c42 : (Jvm.Cond.code ({ cls := "BoxedArrayLang", name := "release", desc := "(I)V" } : Jvm.MethodName) prog_1_method_79_code (5 : Nat) (Option.none : Option Jvm.ClassFile.FieldType)).before args0 about1 = true := code_word (m := ⟨2, 61⟩) (meth := k2m61) (c := k2c61) (by decide +kernel) rfl rfl rfl (by decide +kernel)
set_option maxRecDepth 65536 in
theorem w_c43 : (Jvm.Cond.code ({ cls := "BoxedArrayLang", name := "freeArray", desc := "(II)I" } : Jvm.MethodName) prog_1_method_80_code (8 : Nat) (Option.some Jvm.ClassFile.FieldType.int)).before args0 about1 = true := code_word (m := ⟨2, 62⟩) (meth := k2m62) (c := k2c62) (by decide +kernel) rfl rfl rfl (by decide +kernel)
set_option maxRecDepth 65536 in
theorem w_c44 : (Jvm.Cond.code ({ cls := "BoxedArrayLang", name := "heldOf", desc := "(I)I" } : Jvm.MethodName) prog_1_method_69_code (2 : Nat) (Option.some Jvm.ClassFile.FieldType.int)).before args0 about1 = true := code_word (m := ⟨2, 52⟩) (meth := k2m52) (c := k2c52) (by decide +kernel) rfl rfl rfl (by decide +kernel)
set_option maxRecDepth 65536 in
theorem w_c45 : (Jvm.Cond.code ({ cls := "BoxedArrayLang", name := "enclose", desc := "(I)I" } : Jvm.MethodName) prog_1_method_47_code (4 : Nat) (Option.some Jvm.ClassFile.FieldType.int)).before args0 about1 = true := code_word (m := ⟨2, 40⟩) (meth := k2m40) (c := k2c40) (by decide +kernel) rfl rfl rfl (by decide +kernel)
set_option maxRecDepth 65536 in
theorem w_c46 : (Jvm.Cond.code ({ cls := "BoxedArrayLang", name := "retain", desc := "(I)V" } : Jvm.MethodName) prog_1_method_74_code (2 : Nat) (Option.none : Option Jvm.ClassFile.FieldType)).before args0 about1 = true := code_word (m := ⟨2, 57⟩) (meth := k2m57) (c := k2c57) (by decide +kernel) rfl rfl rfl (by decide +kernel)
set_option maxRecDepth 65536 in
theorem w_c47 : (Jvm.Cond.code ({ cls := "BoxedArrayLang", name := "boxOf", desc := "(I)I" } : Jvm.MethodName) prog_1_method_68_code (2 : Nat) (Option.some Jvm.ClassFile.FieldType.int)).before args0 about1 = true := code_word (m := ⟨2, 51⟩) (meth := k2m51) (c := k2c51) (by decide +kernel) rfl rfl rfl (by decide +kernel)
set_option maxRecDepth 65536 in
theorem w_c48 : (Jvm.Cond.code ({ cls := "BoxedArrayLang", name := "dyadic", desc := "(III)I" } : Jvm.MethodName) prog_1_method_51_code (6 : Nat) (Option.some Jvm.ClassFile.FieldType.int)).before args0 about1 = true := code_word (m := ⟨2, 41⟩) (meth := k2m41) (c := k2c41) (by decide +kernel) rfl rfl rfl (by decide +kernel)
set_option maxRecDepth 65536 in
theorem w_c49 : (Jvm.Cond.code ({ cls := "BoxedArrayLang", name := "catenate", desc := "(II)I" } : Jvm.MethodName) prog_1_method_54_code (7 : Nat) (Option.some Jvm.ClassFile.FieldType.int)).before args0 about1 = true := code_word (m := ⟨2, 44⟩) (meth := k2m44) (c := k2c44) (by decide +kernel) rfl rfl rfl (by decide +kernel)
set_option maxRecDepth 65536 in
theorem w_c50 : (Jvm.Cond.code ({ cls := "BoxedArrayLang", name := "appendCopy", desc := "(II)V" } : Jvm.MethodName) prog_1_method_78_code (3 : Nat) (Option.none : Option Jvm.ClassFile.FieldType)).before args0 about1 = true := code_word (m := ⟨2, 60⟩) (meth := k2m60) (c := k2c60) (by decide +kernel) rfl rfl rfl (by decide +kernel)
set_option maxRecDepth 65536 in
theorem w_c51 : (Jvm.Cond.code ({ cls := "BoxedArrayLang", name := "retainCell", desc := "(I)V" } : Jvm.MethodName) prog_1_method_75_code (3 : Nat) (Option.none : Option Jvm.ClassFile.FieldType)).before args0 about1 = true := code_word (m := ⟨2, 58⟩) (meth := k2m58) (c := k2c58) (by decide +kernel) rfl rfl rfl (by decide +kernel)
set_option maxRecDepth 65536 in
theorem w_c52 : (Jvm.Cond.code ({ cls := "BoxedArrayLang", name := "commit", desc := "(I)V" } : Jvm.MethodName) prog_1_method_24_code (3 : Nat) (Option.none : Option Jvm.ClassFile.FieldType)).before args0 about1 = true := code_word (m := ⟨2, 18⟩) (meth := k2m18) (c := k2c18) (by decide +kernel) rfl rfl rfl (by decide +kernel)
set_option maxRecDepth 65536 in
theorem w_c53 : (Jvm.Cond.code ({ cls := "BoxedArrayLang", name := "tally", desc := "(I)I" } : Jvm.MethodName) prog_1_method_11_code (2 : Nat) (Option.some Jvm.ClassFile.FieldType.int)).before args0 about1 = true := code_word (m := ⟨2, 5⟩) (meth := k2m5) (c := k2c5) (by decide +kernel) rfl rfl rfl (by decide +kernel)
set_option maxRecDepth 65536 in
theorem w_c54 : (Jvm.Cond.code ({ cls := "BoxedArrayLang", name := "defined", desc := "(I)Z" } : Jvm.MethodName) prog_1_method_10_code (2 : Nat) (Option.some Jvm.ClassFile.FieldType.boolean)).before args0 about1 = true := code_word (m := ⟨2, 4⟩) (meth := k2m4) (c := k2c4) (by decide +kernel) rfl rfl rfl (by decide +kernel)
set_option maxRecDepth 65536 in
theorem w_c55 : (Jvm.Cond.code ({ cls := "BoxedArrayLang", name := "size", desc := "(I)I" } : Jvm.MethodName) prog_1_method_12_code (2 : Nat) (Option.some Jvm.ClassFile.FieldType.int)).before args0 about1 = true := code_word (m := ⟨2, 6⟩) (meth := k2m6) (c := k2c6) (by decide +kernel) rfl rfl rfl (by decide +kernel)
set_option maxRecDepth 65536 in
theorem w_c56 : (Jvm.Cond.code ({ cls := "BoxedArrayLang", name := "depth", desc := "(I)I" } : Jvm.MethodName) prog_1_method_13_code (2 : Nat) (Option.some Jvm.ClassFile.FieldType.int)).before args0 about1 = true := code_word (m := ⟨2, 7⟩) (meth := k2m7) (c := k2c7) (by decide +kernel) rfl rfl rfl (by decide +kernel)
set_option maxRecDepth 65536 in
theorem w_c57 : (Jvm.Cond.code ({ cls := "BoxedArrayLang", name := "textLength", desc := "(I)I" } : Jvm.MethodName) prog_1_method_14_code (2 : Nat) (Option.some Jvm.ClassFile.FieldType.int)).before args0 about1 = true := code_word (m := ⟨2, 8⟩) (meth := k2m8) (c := k2c8) (by decide +kernel) rfl rfl rfl (by decide +kernel)
set_option maxRecDepth 65536 in
theorem w_c58 : (Jvm.Cond.code ({ cls := "BoxedArrayLang", name := "prepareText", desc := "(I)Z" } : Jvm.MethodName) prog_1_method_83_code (2 : Nat) (Option.some Jvm.ClassFile.FieldType.boolean)).before args0 about1 = true := code_word (m := ⟨2, 64⟩) (meth := k2m64) (c := k2c64) (by decide +kernel) rfl rfl rfl (by decide +kernel)
set_option maxRecDepth 65536 in
theorem w_c59 : (Jvm.Cond.code ({ cls := "BoxedArrayLang", name := "render", desc := "(I)V" } : Jvm.MethodName) prog_1_method_84_code (6 : Nat) (Option.none : Option Jvm.ClassFile.FieldType)).before args0 about1 = true := code_word (m := ⟨2, 65⟩) (meth := k2m65) (c := k2c65) (by decide +kernel) rfl rfl rfl (by decide +kernel)
set_option maxRecDepth 65536 in
theorem w_c60 : (Jvm.Cond.code ({ cls := "BoxedArrayLang", name := "renderCell", desc := "(II)I" } : Jvm.MethodName) prog_1_method_85_code (4 : Nat) (Option.some Jvm.ClassFile.FieldType.int)).before args0 about1 = true := code_word (m := ⟨2, 66⟩) (meth := k2m66) (c := k2c66) (by decide +kernel) rfl rfl rfl (by decide +kernel)
set_option maxRecDepth 65536 in
theorem w_c61 : (Jvm.Cond.code ({ cls := "BoxedArrayLang", name := "emit", desc := "(I)V" } : Jvm.MethodName) prog_1_method_87_code (2 : Nat) (Option.none : Option Jvm.ClassFile.FieldType)).before args0 about1 = true := code_word (m := ⟨2, 68⟩) (meth := k2m68) (c := k2c68) (by decide +kernel) rfl rfl rfl (by decide +kernel)
set_option maxRecDepth 65536 in
theorem w_c62 : (Jvm.Cond.code ({ cls := "BoxedArrayLang", name := "emitInt", desc := "(I)V" } : Jvm.MethodName) prog_1_method_86_code (3 : Nat) (Option.none : Option Jvm.ClassFile.FieldType)).before args0 about1 = true := code_word (m := ⟨2, 67⟩) (meth := k2m67) (c := k2c67) (by decide +kernel) rfl rfl rfl (by decide +kernel)
set_option maxRecDepth 65536 in
theorem w_c63 : (Jvm.Cond.code ({ cls := "BoxedArrayLang", name := "textChar", desc := "(II)C" } : Jvm.MethodName) prog_1_method_15_code (3 : Nat) (Option.some Jvm.ClassFile.FieldType.char)).before args0 about1 = true := code_word (m := ⟨2, 9⟩) (meth := k2m9) (c := k2c9) (by decide +kernel) rfl rfl rfl (by decide +kernel)
set_option maxRecDepth 65536 in
theorem w_c64 : (Jvm.Cond.code ({ cls := "BoxedArrayLangL3", name := "first", desc := "(I)I" } : Jvm.MethodName) method_4_code (1 : Nat) (Option.some Jvm.ClassFile.FieldType.int)).before args0 about1 = true := code_word (m := ⟨1, 3⟩) (meth := k1m3) (c := k1c3) (by decide +kernel) rfl rfl rfl (by decide +kernel)
set_option maxRecDepth 65536 in
theorem w_c65 : (Jvm.Cond.code ({ cls := "BoxedArrayLang", name := "reduce", desc := "(II)I" } : Jvm.MethodName) prog_1_method_59_code (8 : Nat) (Option.some Jvm.ClassFile.FieldType.int)).before args0 about1 = true := code_word (m := ⟨2, 45⟩) (meth := k2m45) (c := k2c45) (by decide +kernel) rfl rfl rfl (by decide +kernel)
set_option maxRecDepth 65536 in
theorem w_c66 : (Jvm.Cond.code ({ cls := "BoxedArrayLang", name := "valueOfItem", desc := "(II)I" } : Jvm.MethodName) prog_1_method_61_code (5 : Nat) (Option.some Jvm.ClassFile.FieldType.int)).before args0 about1 = true := code_word (m := ⟨2, 47⟩) (meth := k2m47) (c := k2c47) (by decide +kernel) rfl rfl rfl (by decide +kernel)
set_option maxRecDepth 65536 in
theorem w_c67 : (Jvm.Cond.code ({ cls := "BoxedArrayLang", name := "cellAt", desc := "(II)I" } : Jvm.MethodName) prog_1_method_70_code (3 : Nat) (Option.some Jvm.ClassFile.FieldType.int)).before args0 about1 = true := code_word (m := ⟨2, 53⟩) (meth := k2m53) (c := k2c53) (by decide +kernel) rfl rfl rfl (by decide +kernel)
set_option maxRecDepth 65536 in
theorem w_c68 : (Jvm.Cond.code ({ cls := "BoxedArrayLang", name := "scalar", desc := "(I)I" } : Jvm.MethodName) prog_1_method_60_code (3 : Nat) (Option.some Jvm.ClassFile.FieldType.int)).before args0 about1 = true := code_word (m := ⟨2, 46⟩) (meth := k2m46) (c := k2c46) (by decide +kernel) rfl rfl rfl (by decide +kernel)
set_option maxRecDepth 65536 in
theorem w_c69 : (Jvm.Cond.code ({ cls := "BoxedArrayLang", name := "arith", desc := "(III)I" } : Jvm.MethodName) prog_1_method_52_code (12 : Nat) (Option.some Jvm.ClassFile.FieldType.int)).before args0 about1 = true := code_word (m := ⟨2, 42⟩) (meth := k2m42) (c := k2c42) (by decide +kernel) rfl rfl rfl (by decide +kernel)
set_option maxRecDepth 65536 in
theorem w_c70 : (Jvm.Cond.code ({ cls := "BoxedArrayLang", name := "combine", desc := "(III)I" } : Jvm.MethodName) prog_1_method_53_code (4 : Nat) (Option.some Jvm.ClassFile.FieldType.int)).before args0 about1 = true := code_word (m := ⟨2, 43⟩) (meth := k2m43) (c := k2c43) (by decide +kernel) rfl rfl rfl (by decide +kernel)
set_option maxRecDepth 65536 in
theorem w_c71 : (Jvm.Cond.code ({ cls := "BoxedArrayLangL3", name := "len", desc := "(I)I" } : Jvm.MethodName) method_3_code (1 : Nat) (Option.some Jvm.ClassFile.FieldType.int)).before args0 about1 = true := code_word (m := ⟨1, 2⟩) (meth := k1m2) (c := k1c2) (by decide +kernel) rfl rfl rfl (by decide +kernel)
set_option maxRecDepth 65536 in
theorem w_c72 : (Jvm.Cond.code ({ cls := "BoxedArrayLang", name := "match", desc := "(II)Z" } : Jvm.MethodName) prog_1_method_16_code (3 : Nat) (Option.some Jvm.ClassFile.FieldType.boolean)).before args0 about1 = true := code_word (m := ⟨2, 10⟩) (meth := k2m10) (c := k2c10) (by decide +kernel) rfl rfl rfl (by decide +kernel)
set_option maxRecDepth 65536 in
theorem w_c73 : (Jvm.Cond.code ({ cls := "BoxedArrayLang", name := "matchHandles", desc := "(II)Z" } : Jvm.MethodName) prog_1_method_81_code (7 : Nat) (Option.some Jvm.ClassFile.FieldType.boolean)).before args0 about1 = true := code_word (m := ⟨2, 63⟩) (meth := k2m63) (c := k2c63) (by decide +kernel) rfl rfl rfl (by decide +kernel)
def codes1 : List Jvm.Cond := [Jvm.Cond.code x code maxLocals ret, Jvm.Cond.code ({ cls := "BoxedArrayLangL3", name := "dig", desc := "(I)I" } : Jvm.MethodName) method_2_code (1 : Nat) (Option.some Jvm.ClassFile.FieldType.int), Jvm.Cond.code ({ cls := "BoxedArrayLang", name := "<init>", desc := "(II)V" } : Jvm.MethodName) prog_1_method_1_code (4 : Nat) (Option.none : Option Jvm.ClassFile.FieldType), Jvm.Cond.code ({ cls := "java/lang/Object", name := "<init>", desc := "()V" } : Jvm.MethodName) object_method_1_code (1 : Nat) (Option.none : Option Jvm.ClassFile.FieldType), Jvm.Cond.code ({ cls := "BoxedArrayLang", name := "clamp", desc := "(III)I" } : Jvm.MethodName) prog_1_method_2_code (4 : Nat) (Option.some Jvm.ClassFile.FieldType.int), Jvm.Cond.code ({ cls := "BoxedArrayLang", name := "put", desc := "(I)Z" } : Jvm.MethodName) prog_1_method_5_code (2 : Nat) (Option.some Jvm.ClassFile.FieldType.boolean), Jvm.Cond.code ({ cls := "BoxedArrayLang", name := "allowedChar", desc := "(I)Z" } : Jvm.MethodName) prog_1_method_17_code (2 : Nat) (Option.some Jvm.ClassFile.FieldType.boolean), Jvm.Cond.code ({ cls := "BoxedArrayLang", name := "isDigit", desc := "(I)Z" } : Jvm.MethodName) prog_1_method_18_code (2 : Nat) (Option.some Jvm.ClassFile.FieldType.boolean), Jvm.Cond.code ({ cls := "BoxedArrayLang", name := "isVarChar", desc := "(I)Z" } : Jvm.MethodName) prog_1_method_19_code (2 : Nat) (Option.some Jvm.ClassFile.FieldType.boolean), Jvm.Cond.code ({ cls := "BoxedArrayLang", name := "isGlyph", desc := "(I)Z" } : Jvm.MethodName) prog_1_method_22_code (2 : Nat) (Option.some Jvm.ClassFile.FieldType.boolean), Jvm.Cond.code ({ cls := "BoxedArrayLang", name := "isMonadicGlyph", desc := "(I)Z" } : Jvm.MethodName) prog_1_method_20_code (2 : Nat) (Option.some Jvm.ClassFile.FieldType.boolean), Jvm.Cond.code ({ cls := "BoxedArrayLang", name := "isDyadicGlyph", desc := "(I)Z" } : Jvm.MethodName) prog_1_method_21_code (2 : Nat) (Option.some Jvm.ClassFile.FieldType.boolean), Jvm.Cond.code ({ cls := "BoxedArrayLang", name := "run", desc := "()I" } : Jvm.MethodName) prog_1_method_8_code (2 : Nat) (Option.some Jvm.ClassFile.FieldType.int), Jvm.Cond.code ({ cls := "BoxedArrayLang", name := "runLine", desc := "()I" } : Jvm.MethodName) prog_1_method_23_code (2 : Nat) (Option.some Jvm.ClassFile.FieldType.int), Jvm.Cond.code ({ cls := "BoxedArrayLang", name := "tokenize", desc := "()Z" } : Jvm.MethodName) prog_1_method_25_code (4 : Nat) (Option.some Jvm.ClassFile.FieldType.boolean), Jvm.Cond.code ({ cls := "BoxedArrayLang", name := "addToken", desc := "(I)V" } : Jvm.MethodName) prog_1_method_27_code (2 : Nat) (Option.none : Option Jvm.ClassFile.FieldType), Jvm.Cond.code ({ cls := "BoxedArrayLang", name := "scanNumber", desc := "(I)I" } : Jvm.MethodName) prog_1_method_26_code (6 : Nat) (Option.some Jvm.ClassFile.FieldType.int), Jvm.Cond.code ({ cls := "BoxedArrayLang", name := "parse", desc := "()Z" } : Jvm.MethodName) prog_1_method_29_code (4 : Nat) (Option.some Jvm.ClassFile.FieldType.boolean), Jvm.Cond.code ({ cls := "BoxedArrayLang", name := "parseStart", desc := "(I)I" } : Jvm.MethodName) prog_1_method_30_code (4 : Nat) (Option.some Jvm.ClassFile.FieldType.int), Jvm.Cond.code ({ cls := "BoxedArrayLang", name := "kindAt", desc := "(I)I" } : Jvm.MethodName) prog_1_method_28_code (2 : Nat) (Option.some Jvm.ClassFile.FieldType.int), Jvm.Cond.code ({ cls := "BoxedArrayLang", name := "pushPending", desc := "(I)Z" } : Jvm.MethodName) prog_1_method_36_code (2 : Nat) (Option.some Jvm.ClassFile.FieldType.boolean), Jvm.Cond.code ({ cls := "BoxedArrayLang", name := "parseFunction", desc := "(II)I" } : Jvm.MethodName) prog_1_method_32_code (7 : Nat) (Option.some Jvm.ClassFile.FieldType.int), Jvm.Cond.code ({ cls := "BoxedArrayLang", name := "newNode", desc := "(IIII)I" } : Jvm.MethodName) prog_1_method_37_code (6 : Nat) (Option.some Jvm.ClassFile.FieldType.int), Jvm.Cond.code ({ cls := "BoxedArrayLang", name := "parseLiteral", desc := "(I)I" } : Jvm.MethodName) prog_1_method_33_code (4 : Nat) (Option.some Jvm.ClassFile.FieldType.int), Jvm.Cond.code ({ cls := "BoxedArrayLang", name := "takeOperand", desc := "(II)I" } : Jvm.MethodName) prog_1_method_31_code (3 : Nat) (Option.some Jvm.ClassFile.FieldType.int), Jvm.Cond.code ({ cls := "BoxedArrayLang", name := "parseAfter", desc := "(I)I" } : Jvm.MethodName) prog_1_method_34_code (4 : Nat) (Option.some Jvm.ClassFile.FieldType.int), Jvm.Cond.code ({ cls := "BoxedArrayLang", name := "collapse", desc := "()V" } : Jvm.MethodName) prog_1_method_35_code (3 : Nat) (Option.none : Option Jvm.ClassFile.FieldType), Jvm.Cond.code ({ cls := "BoxedArrayLang", name := "evaluate", desc := "()I" } : Jvm.MethodName) prog_1_method_38_code (7 : Nat) (Option.some Jvm.ClassFile.FieldType.int), Jvm.Cond.code ({ cls := "BoxedArrayLang", name := "pushChildren", desc := "(II)I" } : Jvm.MethodName) prog_1_method_39_code (3 : Nat) (Option.some Jvm.ClassFile.FieldType.int), Jvm.Cond.code ({ cls := "BoxedArrayLang", name := "leaf", desc := "(I)I" } : Jvm.MethodName) prog_1_method_42_code (3 : Nat) (Option.some Jvm.ClassFile.FieldType.int), Jvm.Cond.code ({ cls := "BoxedArrayLang", name := "literal", desc := "(II)I" } : Jvm.MethodName) prog_1_method_43_code (6 : Nat) (Option.some Jvm.ClassFile.FieldType.int), Jvm.Cond.code ({ cls := "BoxedArrayLang", name := "alloc", desc := "()I" } : Jvm.MethodName) prog_1_method_73_code (2 : Nat) (Option.some Jvm.ClassFile.FieldType.int), Jvm.Cond.code ({ cls := "BoxedArrayLang", name := "valid", desc := "(I)Z" } : Jvm.MethodName) prog_1_method_66_code (2 : Nat) (Option.some Jvm.ClassFile.FieldType.boolean), Jvm.Cond.code ({ cls := "BoxedArrayLang", name := "appendCell", desc := "(II)V" } : Jvm.MethodName) prog_1_method_77_code (5 : Nat) (Option.none : Option Jvm.ClassFile.FieldType), Jvm.Cond.code ({ cls := "BoxedArrayLang", name := "itemSize", desc := "(I)I" } : Jvm.MethodName) prog_1_method_71_code (3 : Nat) (Option.some Jvm.ClassFile.FieldType.int), Jvm.Cond.code ({ cls := "BoxedArrayLang", name := "isBox", desc := "(I)Z" } : Jvm.MethodName) prog_1_method_67_code (2 : Nat) (Option.some Jvm.ClassFile.FieldType.boolean), Jvm.Cond.code ({ cls := "BoxedArrayLang", name := "heldDepth", desc := "(I)I" } : Jvm.MethodName) prog_1_method_72_code (3 : Nat) (Option.some Jvm.ClassFile.FieldType.int), Jvm.Cond.code ({ cls := "BoxedArrayLang", name := "vPush", desc := "(I)Z" } : Jvm.MethodName) prog_1_method_41_code (2 : Nat) (Option.some Jvm.ClassFile.FieldType.boolean), Jvm.Cond.code ({ cls := "BoxedArrayLang", name := "applyNode", desc := "(I)I" } : Jvm.MethodName) prog_1_method_44_code (7 : Nat) (Option.some Jvm.ClassFile.FieldType.int), Jvm.Cond.code ({ cls := "BoxedArrayLang", name := "monadic", desc := "(II)I" } : Jvm.MethodName) prog_1_method_45_code (4 : Nat) (Option.some Jvm.ClassFile.FieldType.int), Jvm.Cond.code ({ cls := "BoxedArrayLang", name := "negate", desc := "(I)I" } : Jvm.MethodName) prog_1_method_46_code (6 : Nat) (Option.some Jvm.ClassFile.FieldType.int), Jvm.Cond.code ({ cls := "BoxedArrayLang", name := "checkLimits", desc := "(I)I" } : Jvm.MethodName) prog_1_method_62_code (2 : Nat) (Option.some Jvm.ClassFile.FieldType.int), Jvm.Cond.code ({ cls := "BoxedArrayLang", name := "release", desc := "(I)V" } : Jvm.MethodName) prog_1_method_79_code (5 : Nat) (Option.none : Option Jvm.ClassFile.FieldType), Jvm.Cond.code ({ cls := "BoxedArrayLang", name := "freeArray", desc := "(II)I" } : Jvm.MethodName) prog_1_method_80_code (8 : Nat) (Option.some Jvm.ClassFile.FieldType.int), Jvm.Cond.code ({ cls := "BoxedArrayLang", name := "heldOf", desc := "(I)I" } : Jvm.MethodName) prog_1_method_69_code (2 : Nat) (Option.some Jvm.ClassFile.FieldType.int), Jvm.Cond.code ({ cls := "BoxedArrayLang", name := "enclose", desc := "(I)I" } : Jvm.MethodName) prog_1_method_47_code (4 : Nat) (Option.some Jvm.ClassFile.FieldType.int), Jvm.Cond.code ({ cls := "BoxedArrayLang", name := "retain", desc := "(I)V" } : Jvm.MethodName) prog_1_method_74_code (2 : Nat) (Option.none : Option Jvm.ClassFile.FieldType), Jvm.Cond.code ({ cls := "BoxedArrayLang", name := "boxOf", desc := "(I)I" } : Jvm.MethodName) prog_1_method_68_code (2 : Nat) (Option.some Jvm.ClassFile.FieldType.int), Jvm.Cond.code ({ cls := "BoxedArrayLang", name := "dyadic", desc := "(III)I" } : Jvm.MethodName) prog_1_method_51_code (6 : Nat) (Option.some Jvm.ClassFile.FieldType.int), Jvm.Cond.code ({ cls := "BoxedArrayLang", name := "catenate", desc := "(II)I" } : Jvm.MethodName) prog_1_method_54_code (7 : Nat) (Option.some Jvm.ClassFile.FieldType.int), Jvm.Cond.code ({ cls := "BoxedArrayLang", name := "appendCopy", desc := "(II)V" } : Jvm.MethodName) prog_1_method_78_code (3 : Nat) (Option.none : Option Jvm.ClassFile.FieldType), Jvm.Cond.code ({ cls := "BoxedArrayLang", name := "retainCell", desc := "(I)V" } : Jvm.MethodName) prog_1_method_75_code (3 : Nat) (Option.none : Option Jvm.ClassFile.FieldType), Jvm.Cond.code ({ cls := "BoxedArrayLang", name := "commit", desc := "(I)V" } : Jvm.MethodName) prog_1_method_24_code (3 : Nat) (Option.none : Option Jvm.ClassFile.FieldType), Jvm.Cond.code ({ cls := "BoxedArrayLang", name := "tally", desc := "(I)I" } : Jvm.MethodName) prog_1_method_11_code (2 : Nat) (Option.some Jvm.ClassFile.FieldType.int), Jvm.Cond.code ({ cls := "BoxedArrayLang", name := "defined", desc := "(I)Z" } : Jvm.MethodName) prog_1_method_10_code (2 : Nat) (Option.some Jvm.ClassFile.FieldType.boolean), Jvm.Cond.code ({ cls := "BoxedArrayLang", name := "size", desc := "(I)I" } : Jvm.MethodName) prog_1_method_12_code (2 : Nat) (Option.some Jvm.ClassFile.FieldType.int), Jvm.Cond.code ({ cls := "BoxedArrayLang", name := "depth", desc := "(I)I" } : Jvm.MethodName) prog_1_method_13_code (2 : Nat) (Option.some Jvm.ClassFile.FieldType.int), Jvm.Cond.code ({ cls := "BoxedArrayLang", name := "textLength", desc := "(I)I" } : Jvm.MethodName) prog_1_method_14_code (2 : Nat) (Option.some Jvm.ClassFile.FieldType.int), Jvm.Cond.code ({ cls := "BoxedArrayLang", name := "prepareText", desc := "(I)Z" } : Jvm.MethodName) prog_1_method_83_code (2 : Nat) (Option.some Jvm.ClassFile.FieldType.boolean), Jvm.Cond.code ({ cls := "BoxedArrayLang", name := "render", desc := "(I)V" } : Jvm.MethodName) prog_1_method_84_code (6 : Nat) (Option.none : Option Jvm.ClassFile.FieldType), Jvm.Cond.code ({ cls := "BoxedArrayLang", name := "renderCell", desc := "(II)I" } : Jvm.MethodName) prog_1_method_85_code (4 : Nat) (Option.some Jvm.ClassFile.FieldType.int), Jvm.Cond.code ({ cls := "BoxedArrayLang", name := "emit", desc := "(I)V" } : Jvm.MethodName) prog_1_method_87_code (2 : Nat) (Option.none : Option Jvm.ClassFile.FieldType), Jvm.Cond.code ({ cls := "BoxedArrayLang", name := "emitInt", desc := "(I)V" } : Jvm.MethodName) prog_1_method_86_code (3 : Nat) (Option.none : Option Jvm.ClassFile.FieldType), Jvm.Cond.code ({ cls := "BoxedArrayLang", name := "textChar", desc := "(II)C" } : Jvm.MethodName) prog_1_method_15_code (3 : Nat) (Option.some Jvm.ClassFile.FieldType.char), Jvm.Cond.code ({ cls := "BoxedArrayLangL3", name := "first", desc := "(I)I" } : Jvm.MethodName) method_4_code (1 : Nat) (Option.some Jvm.ClassFile.FieldType.int), Jvm.Cond.code ({ cls := "BoxedArrayLang", name := "reduce", desc := "(II)I" } : Jvm.MethodName) prog_1_method_59_code (8 : Nat) (Option.some Jvm.ClassFile.FieldType.int), Jvm.Cond.code ({ cls := "BoxedArrayLang", name := "valueOfItem", desc := "(II)I" } : Jvm.MethodName) prog_1_method_61_code (5 : Nat) (Option.some Jvm.ClassFile.FieldType.int), Jvm.Cond.code ({ cls := "BoxedArrayLang", name := "cellAt", desc := "(II)I" } : Jvm.MethodName) prog_1_method_70_code (3 : Nat) (Option.some Jvm.ClassFile.FieldType.int), Jvm.Cond.code ({ cls := "BoxedArrayLang", name := "scalar", desc := "(I)I" } : Jvm.MethodName) prog_1_method_60_code (3 : Nat) (Option.some Jvm.ClassFile.FieldType.int), Jvm.Cond.code ({ cls := "BoxedArrayLang", name := "arith", desc := "(III)I" } : Jvm.MethodName) prog_1_method_52_code (12 : Nat) (Option.some Jvm.ClassFile.FieldType.int), Jvm.Cond.code ({ cls := "BoxedArrayLang", name := "combine", desc := "(III)I" } : Jvm.MethodName) prog_1_method_53_code (4 : Nat) (Option.some Jvm.ClassFile.FieldType.int), Jvm.Cond.code ({ cls := "BoxedArrayLangL3", name := "len", desc := "(I)I" } : Jvm.MethodName) method_3_code (1 : Nat) (Option.some Jvm.ClassFile.FieldType.int), Jvm.Cond.code ({ cls := "BoxedArrayLang", name := "match", desc := "(II)Z" } : Jvm.MethodName) prog_1_method_16_code (3 : Nat) (Option.some Jvm.ClassFile.FieldType.boolean), Jvm.Cond.code ({ cls := "BoxedArrayLang", name := "matchHandles", desc := "(II)Z" } : Jvm.MethodName) prog_1_method_81_code (7 : Nat) (Option.some Jvm.ClassFile.FieldType.boolean)]
set_option maxRecDepth 65536 in
theorem codes_eq : words1.filter isCode = codes1 := rfl
theorem w_codes : ∀ c ∈ words1.filter isCode, c.before args0 about1 = true := by
  rw [codes_eq]
  intro c hc
  simp only [codes1, List.mem_cons, List.not_mem_nil, or_false] at hc
  rcases hc with rfl | rfl | rfl | rfl | rfl | rfl | rfl | rfl | rfl | rfl | rfl | rfl | rfl | rfl | rfl | rfl | rfl | rfl | rfl | rfl | rfl | rfl | rfl | rfl | rfl | rfl | rfl | rfl | rfl | rfl | rfl | rfl | rfl | rfl | rfl | rfl | rfl | rfl | rfl | rfl | rfl | rfl | rfl | rfl | rfl | rfl | rfl | rfl | rfl | rfl | rfl | rfl | rfl | rfl | rfl | rfl | rfl | rfl | rfl | rfl | rfl | rfl | rfl | rfl | rfl | rfl | rfl | rfl | rfl | rfl | rfl | rfl | rfl | rfl
  · exact w_c0
  · exact w_c1
  · exact w_c2
  · exact w_c3
  · exact w_c4
  · exact w_c5
  · exact w_c6
  · exact w_c7
  · exact w_c8
  · exact w_c9
  · exact w_c10
  · exact w_c11
  · exact w_c12
  · exact w_c13
  · exact w_c14
  · exact w_c15
  · exact w_c16
  · exact w_c17
  · exact w_c18
  · exact w_c19
  · exact w_c20
  · exact w_c21
  · exact w_c22
  · exact w_c23
  · exact w_c24
  · exact w_c25
  · exact w_c26
  · exact w_c27
  · exact w_c28
  · exact w_c29
  · exact w_c30
  · exact w_c31
  · exact w_c32
  · exact w_c33
  · exact w_c34
  · exact w_c35
  · exact w_c36
  · exact w_c37
  · exact w_c38
  · exact w_c39
  · exact w_c40
  · exact w_c41
  · exact w_c42
  · exact w_c43
  · exact w_c44
  · exact w_c45
  · exact w_c46
  · exact w_c47
  · exact w_c48
  · exact w_c49
  · exact w_c50
  · exact w_c51
  · exact w_c52
  · exact w_c53
  · exact w_c54
  · exact w_c55
  · exact w_c56
  · exact w_c57
  · exact w_c58
  · exact w_c59
  · exact w_c60
  · exact w_c61
  · exact w_c62
  · exact w_c63
  · exact w_c64
  · exact w_c65
  · exact w_c66
  · exact w_c67
  · exact w_c68
  · exact w_c69
  · exact w_c70
  · exact w_c71
  · exact w_c72
  · exact w_c73
set_option maxRecDepth 65536 in
theorem w_t1 : (words1.take 24).all (fun c => isCode c || c.before args0 about1) = true := by decide +kernel
set_option maxRecDepth 65536 in
theorem w_t2 : ((words1.drop 24).take 24).all (fun c => isCode c || c.before args0 about1) = true := by decide +kernel
set_option maxRecDepth 65536 in
theorem w_t3 : (((words1.drop 24).drop 24).take 24).all (fun c => isCode c || c.before args0 about1) = true := by decide +kernel
set_option maxRecDepth 65536 in
theorem w_t4 : ((((words1.drop 24).drop 24).drop 24).take 24).all (fun c => isCode c || c.before args0 about1) = true := by decide +kernel
set_option maxRecDepth 65536 in
theorem w_t5 : (((((words1.drop 24).drop 24).drop 24).drop 24).take 24).all (fun c => isCode c || c.before args0 about1) = true := by decide +kernel
set_option maxRecDepth 65536 in
theorem w_t6 : ((((((words1.drop 24).drop 24).drop 24).drop 24).drop 24).take 24).all (fun c => isCode c || c.before args0 about1) = true := by decide +kernel
set_option maxRecDepth 65536 in
theorem w_t7 : (((((((words1.drop 24).drop 24).drop 24).drop 24).drop 24).drop 24).take 24).all (fun c => isCode c || c.before args0 about1) = true := by decide +kernel
set_option maxRecDepth 65536 in
theorem w_t8 : ((((((((words1.drop 24).drop 24).drop 24).drop 24).drop 24).drop 24).drop 24).take 24).all (fun c => isCode c || c.before args0 about1) = true := by decide +kernel
set_option maxRecDepth 65536 in
theorem w_t9 : (((((((((words1.drop 24).drop 24).drop 24).drop 24).drop 24).drop 24).drop 24).drop 24).take 24).all (fun c => isCode c || c.before args0 about1) = true := by decide +kernel
set_option maxRecDepth 65536 in
theorem w_t10 : ((((((((((words1.drop 24).drop 24).drop 24).drop 24).drop 24).drop 24).drop 24).drop 24).drop 24).take 24).all (fun c => isCode c || c.before args0 about1) = true := by decide +kernel
set_option maxRecDepth 65536 in
theorem w_t11 : (((((((((((words1.drop 24).drop 24).drop 24).drop 24).drop 24).drop 24).drop 24).drop 24).drop 24).drop 24).take 24).all (fun c => isCode c || c.before args0 about1) = true := by decide +kernel
set_option maxRecDepth 65536 in
theorem w_t12 : ((((((((((((words1.drop 24).drop 24).drop 24).drop 24).drop 24).drop 24).drop 24).drop 24).drop 24).drop 24).drop 24).take 24).all (fun c => isCode c || c.before args0 about1) = true := by decide +kernel
set_option maxRecDepth 65536 in
theorem w_t13 : (((((((((((((words1.drop 24).drop 24).drop 24).drop 24).drop 24).drop 24).drop 24).drop 24).drop 24).drop 24).drop 24).drop 24).take 24).all (fun c => isCode c || c.before args0 about1) = true := by decide +kernel
set_option maxRecDepth 65536 in
theorem w_t14 : ((((((((((((((words1.drop 24).drop 24).drop 24).drop 24).drop 24).drop 24).drop 24).drop 24).drop 24).drop 24).drop 24).drop 24).drop 24).take 24).all (fun c => isCode c || c.before args0 about1) = true := by decide +kernel
set_option maxRecDepth 65536 in
theorem w_t15 : (((((((((((((((words1.drop 24).drop 24).drop 24).drop 24).drop 24).drop 24).drop 24).drop 24).drop 24).drop 24).drop 24).drop 24).drop 24).drop 24).take 24).all (fun c => isCode c || c.before args0 about1) = true := by decide +kernel
set_option maxRecDepth 65536 in
theorem w_t16 : (((((((((((((((words1.drop 24).drop 24).drop 24).drop 24).drop 24).drop 24).drop 24).drop 24).drop 24).drop 24).drop 24).drop 24).drop 24).drop 24).drop 24).all (fun c => isCode c || c.before args0 about1) = true := by decide +kernel
theorem w_tables : (allAtoms (Jvm.Cond.code x code maxLocals ret :: tables_1)).before args0 about1 = true := by
  rw [allAtoms_all]
  show words1.all (fun c => c.before args0 about1) = true
  refine all_split ?_ w_codes
  rw [← List.take_append_drop 24 words1, List.all_append, w_t1, ← List.take_append_drop 24 (words1.drop 24), List.all_append, w_t2, ← List.take_append_drop 24 ((words1.drop 24).drop 24), List.all_append, w_t3, ← List.take_append_drop 24 (((words1.drop 24).drop 24).drop 24), List.all_append, w_t4, ← List.take_append_drop 24 ((((words1.drop 24).drop 24).drop 24).drop 24), List.all_append, w_t5, ← List.take_append_drop 24 (((((words1.drop 24).drop 24).drop 24).drop 24).drop 24), List.all_append, w_t6, ← List.take_append_drop 24 ((((((words1.drop 24).drop 24).drop 24).drop 24).drop 24).drop 24), List.all_append, w_t7, ← List.take_append_drop 24 (((((((words1.drop 24).drop 24).drop 24).drop 24).drop 24).drop 24).drop 24), List.all_append, w_t8, ← List.take_append_drop 24 ((((((((words1.drop 24).drop 24).drop 24).drop 24).drop 24).drop 24).drop 24).drop 24), List.all_append, w_t9, ← List.take_append_drop 24 (((((((((words1.drop 24).drop 24).drop 24).drop 24).drop 24).drop 24).drop 24).drop 24).drop 24), List.all_append, w_t10, ← List.take_append_drop 24 ((((((((((words1.drop 24).drop 24).drop 24).drop 24).drop 24).drop 24).drop 24).drop 24).drop 24).drop 24), List.all_append, w_t11, ← List.take_append_drop 24 (((((((((((words1.drop 24).drop 24).drop 24).drop 24).drop 24).drop 24).drop 24).drop 24).drop 24).drop 24).drop 24), List.all_append, w_t12, ← List.take_append_drop 24 ((((((((((((words1.drop 24).drop 24).drop 24).drop 24).drop 24).drop 24).drop 24).drop 24).drop 24).drop 24).drop 24).drop 24), List.all_append, w_t13, ← List.take_append_drop 24 (((((((((((((words1.drop 24).drop 24).drop 24).drop 24).drop 24).drop 24).drop 24).drop 24).drop 24).drop 24).drop 24).drop 24).drop 24), List.all_append, w_t14, ← List.take_append_drop 24 ((((((((((((((words1.drop 24).drop 24).drop 24).drop 24).drop 24).drop 24).drop 24).drop 24).drop 24).drop 24).drop 24).drop 24).drop 24).drop 24), List.all_append, w_t15, w_t16]
  rfl
set_option maxRecDepth 65536 in
theorem w_case : (Jvm.Cond.and given_1 narrow_1).before args0 about1 = true := by decide +kernel
theorem w_applies : (headSpec (Jvm.Cond.code x code maxLocals ret :: tables_1) room_1).applies x e0.platform about1 = true :=
  (Spec.applies_iff w_frames).mpr ⟨w_running, w_runnable, w_alone, w_named, w_hears, w_ripe, w_room, w_tables⟩
theorem atStart : AtStart classFile x code maxLocals ret World_1 tables_1 room_1 Calls_1 rest_1 Pre_1 launch0 p0 e0 about1 theMethod args0 below0 :=
  ⟨lists_1, trivial, launch0.admits_env _ _ _, launch0.least_env, fairChoices_fair.cas, fairChoices_fair.clock, w_frames, w_args, w_heap, w_applies, trivial, trivial, w_case⟩
end start1
theorem witness_1 : WitnessClaimed_1 := ⟨start1.p0, start1.e0, start1.about1, start1.theMethod, start1.args0, start1.below0, start1.atStart⟩
end Jvm.Pilot.@@N@@
