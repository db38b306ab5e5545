import JvmDerived
import JvmDerived.Pilot.@@N@@Statement
import JvmDerived.Pilot.@@N@@Code
set_option linter.unusedVariables false
set_option linter.unusedSimpArgs false
namespace Jvm.OwnFlat
open Jvm Jvm.ClassFile Sem Op Lib Jvm.Free Jvm.Stand Jvm.LawKit Jvm.RoadKit
/-! ## 1. the abstract object: int-like fields, longs, arrays of int-like values -/
abbrev St : Type := (Nat → Int32) × (Nat → Int64) × (Nat → Int → Int32)
def gI (σ : St) (k : Nat) : Int32 := σ.1 k
def gL (σ : St) (k : Nat) : Int64 := σ.2.1 k
def gA (σ : St) (k : Nat) (i : Int) : Int32 := σ.2.2 k i
def sI (σ : St) (k : Nat) (v : Int32) : St := (fun q => if q = k then v else σ.1 q, σ.2.1, σ.2.2)
def sL (σ : St) (k : Nat) (v : Int64) : St := (σ.1, fun q => if q = k then v else σ.2.1 q, σ.2.2)
def sA (σ : St) (k : Nat) (i : Int) (v : Int32) : St := (σ.1, σ.2.1, fun q j => if q = k ∧ j = i then v else σ.2.2 q j)
def z0 : St := (fun _ => 0, fun _ => 0, fun _ _ => 0)
theorem gI_sI (σ : St) (k q : Nat) (v : Int32) : gI (sI σ k v) q = if q = k then v else gI σ q := rfl
theorem gI_sL (σ : St) (k q : Nat) (v : Int64) : gI (sL σ k v) q = gI σ q := rfl
theorem gI_sA (σ : St) (k q : Nat) (i : Int) (v : Int32) : gI (sA σ k i v) q = gI σ q := rfl
theorem gL_sI (σ : St) (k q : Nat) (v : Int32) : gL (sI σ k v) q = gL σ q := rfl
theorem gL_sL (σ : St) (k q : Nat) (v : Int64) : gL (sL σ k v) q = if q = k then v else gL σ q := rfl
theorem gL_sA (σ : St) (k q : Nat) (i : Int) (v : Int32) : gL (sA σ k i v) q = gL σ q := rfl
theorem gA_sI (σ : St) (k q : Nat) (j : Int) (v : Int32) : gA (sI σ k v) q j = gA σ q j := rfl
theorem gA_sL (σ : St) (k q : Nat) (j : Int) (v : Int64) : gA (sL σ k v) q j = gA σ q j := rfl
theorem gA_sA (σ : St) (k q : Nat) (i j : Int) (v : Int32) : gA (sA σ k i v) q j = if q = k ∧ j = i then v else gA σ q j := rfl
/-! ## 2. values and local variables -/
def up (ad : Nat → Addr) : Value → Value
  | .ref k => .ref (ad k)
  | v => v
theorem up_cat (ad : Nat → Addr) (v : Value) : (up ad v).category = v.category := by cases v <;> rfl
theorem up_cats (ad : Nat → Addr) (st : List Value) : ((st.map (up ad)).map fun v => v.category) = st.map fun v => v.category := by
  rw [List.map_map]; exact List.map_congr_left fun v _ => up_cat ad v
def WF (A : Array Slot) : Prop := (∀ i : Nat, A[i]? = some Slot.second → ∃ (j : Nat) (w : Value), i = j + 1 ∧ A[j]? = some (Slot.val w) ∧ w.category = 2) ∧ ∀ (i : Nat) (w : Value), A[i]? = some (Slot.val w) → w.category = 2 → A[i + 1]? = some Slot.second
def LocOK (ad : Nat → Addr) (L : List (Option Value)) (A : Array Slot) : Prop := A.size = L.length ∧ WF A ∧ ∀ (i : Nat) (v : Value), L[i]? = some (some v) → A[i]? = some (Slot.val (up ad v))
def isL2 : Option (Option Value) → Bool
  | some (some v) => v.category == 2
  | _ => false
def st1 (L : List (Option Value)) (i : Nat) (v : Value) : List (Option Value) := (bif isL2 L[i - 1]? then L.set (i - 1) none else L).set i (some v)
def st2 (L : List (Option Value)) (i : Nat) (v : Value) : List (Option Value) := (st1 L i v).set (i + 1) none
theorem cat12 (v : Value) : v.category = 1 ∨ v.category = 2 := by cases v <;> simp [Value.category]
theorem store_c1 {A : Array Slot} {i : Nat} {v : Value} (hw : WF A) (hi : i < A.size) (hv : v.category = 1) :
    ∃ A', storeLocals A i v = some A' ∧ A'.size = A.size ∧ A'[i]? = some (Slot.val v) ∧ WF A' ∧
      ∀ k, k ≠ i → A'[k]? = A[k]? ∨ (k + 1 = i ∧ A[i]? = some .second) ∨ A[k]? = some .second := by
  obtain ⟨w1, w2⟩ := hw
  have hA : A[i]? = some A[i] := Array.getElem?_eq_getElem hi
  cases hc : A[i] with
  | second =>
    rw [hc] at hA
    obtain ⟨j, w, rfl, hj, hw2⟩ := w1 i hA
    have hj' : j < A.size := by omega
    refine ⟨(A.setIfInBounds j .unset).setIfInBounds (j + 1) (.val v), ?_, by simp, by simp [hi], ⟨fun k hk => ?_, fun k u hk hu => ?_⟩, fun k hk => ?_⟩
    · simp [storeLocals, storeSelf, setAt, hc, hi, hj', hv]
    · by_cases e1 : j + 1 = k
      · subst e1; simp [hi] at hk
      · by_cases e2 : j = k
        · subst e2; simp [hj'] at hk
        · rw [Array.getElem?_setIfInBounds_ne e1, Array.getElem?_setIfInBounds_ne e2] at hk
          obtain ⟨q, u, rfl, h1, h2⟩ := w1 k hk
          refine ⟨q, u, rfl, ?_, h2⟩
          have n1 : j + 1 ≠ q := fun z => by subst z; rw [hA] at h1; cases h1
          have n2 : j ≠ q := fun z => by omega
          rw [Array.getElem?_setIfInBounds_ne n1, Array.getElem?_setIfInBounds_ne n2]; exact h1
    · by_cases e1 : j + 1 = k
      · subst e1; simp [hi] at hk; subst hk; omega
      · by_cases e2 : j = k
        · subst e2; simp [hj'] at hk
        · rw [Array.getElem?_setIfInBounds_ne e1, Array.getElem?_setIfInBounds_ne e2] at hk
          have := w2 k u hk hu
          have n1 : j + 1 ≠ k + 1 := by omega
          have n2 : j ≠ k + 1 := fun z => by subst z; rw [hj] at this; cases this
          rw [Array.getElem?_setIfInBounds_ne n1, Array.getElem?_setIfInBounds_ne n2]; exact this
    · by_cases e2 : j = k
      · subst e2; exact Or.inr (Or.inl ⟨rfl, hA⟩)
      · rw [Array.getElem?_setIfInBounds_ne (Ne.symm hk), Array.getElem?_setIfInBounds_ne e2]; exact Or.inl rfl
  | unset =>
    rw [hc] at hA
    refine ⟨A.setIfInBounds i (.val v), by simp [storeLocals, storeSelf, setAt, hc, hi, hv], by simp, by simp [hi], ⟨fun k hk => ?_, fun k u hk hu => ?_⟩, fun k hk => by rw [Array.getElem?_setIfInBounds_ne (Ne.symm hk)]; exact Or.inl rfl⟩
    · by_cases e1 : i = k
      · subst e1; simp [hi] at hk
      · rw [Array.getElem?_setIfInBounds_ne e1] at hk
        obtain ⟨q, u, rfl, h1, h2⟩ := w1 k hk
        have n1 : i ≠ q := fun z => by subst z; rw [hA] at h1; cases h1
        exact ⟨q, u, rfl, by rw [Array.getElem?_setIfInBounds_ne n1]; exact h1, h2⟩
    · by_cases e1 : i = k
      · subst e1; simp [hi] at hk; subst hk; omega
      · rw [Array.getElem?_setIfInBounds_ne e1] at hk
        have := w2 k u hk hu
        have n1 : i ≠ k + 1 := fun z => by subst z; rw [hA] at this; cases this
        rw [Array.getElem?_setIfInBounds_ne n1]; exact this
  | val old =>
    rw [hc] at hA
    rcases cat12 old with ho | ho
    · refine ⟨A.setIfInBounds i (.val v), by simp [storeLocals, storeSelf, setAt, hc, hi, hv, ho], by simp, by simp [hi], ⟨fun k hk => ?_, fun k u hk hu => ?_⟩, fun k hk => by rw [Array.getElem?_setIfInBounds_ne (Ne.symm hk)]; exact Or.inl rfl⟩
      · by_cases e1 : i = k
        · subst e1; simp [hi] at hk
        · rw [Array.getElem?_setIfInBounds_ne e1] at hk
          obtain ⟨q, u, rfl, h1, h2⟩ := w1 k hk
          have n1 : i ≠ q := fun z => by subst z; rw [hA] at h1; cases h1; omega
          exact ⟨q, u, rfl, by rw [Array.getElem?_setIfInBounds_ne n1]; exact h1, h2⟩
      · by_cases e1 : i = k
        · subst e1; simp [hi] at hk; subst hk; omega
        · rw [Array.getElem?_setIfInBounds_ne e1] at hk
          have := w2 k u hk hu
          have n1 : i ≠ k + 1 := fun z => by subst z; rw [hA] at this; cases this
          rw [Array.getElem?_setIfInBounds_ne n1]; exact this
    · have hs := w2 i old hA ho
      have hi' : i + 1 < A.size := (Array.getElem?_eq_some_iff.mp hs).1
      refine ⟨(A.setIfInBounds (i + 1) .unset).setIfInBounds i (.val v), by simp [storeLocals, storeSelf, setAt, hc, hi, hi', hv, ho], by simp, by simp [hi], ⟨fun k hk => ?_, fun k u hk hu => ?_⟩, fun k hk => ?_⟩
      · by_cases e1 : i = k
        · subst e1; simp [hi] at hk
        · by_cases e2 : i + 1 = k
          · subst e2; rw [Array.getElem?_setIfInBounds_ne e1] at hk; simp [hi'] at hk
          · rw [Array.getElem?_setIfInBounds_ne e1, Array.getElem?_setIfInBounds_ne e2] at hk
            obtain ⟨q, u, rfl, h1, h2⟩ := w1 k hk
            have n1 : i ≠ q := fun z => by omega
            have n2 : i + 1 ≠ q := fun z => by subst z; rw [hs] at h1; cases h1
            exact ⟨q, u, rfl, by rw [Array.getElem?_setIfInBounds_ne n1, Array.getElem?_setIfInBounds_ne n2]; exact h1, h2⟩
      · by_cases e1 : i = k
        · subst e1; simp [hi] at hk; subst hk; omega
        · by_cases e2 : i + 1 = k
          · subst e2; rw [Array.getElem?_setIfInBounds_ne e1] at hk; simp [hi'] at hk
          · rw [Array.getElem?_setIfInBounds_ne e1, Array.getElem?_setIfInBounds_ne e2] at hk
            have := w2 k u hk hu
            have n1 : i ≠ k + 1 := fun z => by subst z; rw [hA] at this; cases this
            have n2 : i + 1 ≠ k + 1 := by omega
            rw [Array.getElem?_setIfInBounds_ne n1, Array.getElem?_setIfInBounds_ne n2]; exact this
      · by_cases e2 : i + 1 = k
        · subst e2; exact Or.inr (Or.inr hs)
        · rw [Array.getElem?_setIfInBounds_ne (Ne.symm hk), Array.getElem?_setIfInBounds_ne e2]; exact Or.inl rfl
theorem st1_get {L : List (Option Value)} {i k : Nat} {v u : Value} (h : (st1 L i v)[k]? = some (some u)) : (k = i ∧ u = v) ∨ (k ≠ i ∧ L[k]? = some (some u) ∧ ¬ (k = i - 1 ∧ u.category = 2)) := by
  unfold st1 at h
  by_cases e : k = i
  · subst e
    refine Or.inl ⟨rfl, ?_⟩
    have hl := (List.getElem?_eq_some_iff.mp h).1
    rw [List.getElem?_set_self (by simpa using hl)] at h
    exact (Option.some.inj (Option.some.inj h)).symm
  · refine Or.inr ⟨e, ?_⟩
    rw [List.getElem?_set_ne (Ne.symm e)] at h
    by_cases e2 : k = i - 1
    · subst e2
      cases hb : isL2 L[i - 1]? with
      | true =>
        rw [hb] at h
        have hl := (List.getElem?_eq_some_iff.mp h).1
        rw [cond_true] at h hl
        rw [List.getElem?_set_self (by simpa using hl)] at h
        cases Option.some.inj h
      | false =>
        rw [hb, cond_false] at h
        refine ⟨h, fun q => ?_⟩
        rw [h] at hb
        simp [isL2, q.2] at hb
    · cases hb : isL2 L[i - 1]? with
      | true => rw [hb, cond_true, List.getElem?_set_ne (Ne.symm e2)] at h; exact ⟨h, fun q => e2 q.1⟩
      | false => rw [hb, cond_false] at h; exact ⟨h, fun q => e2 q.1⟩
theorem st1_len (L : List (Option Value)) (i : Nat) (v : Value) : (st1 L i v).length = L.length := by
  unfold st1; cases isL2 L[i - 1]? <;> simp
theorem loc_st1 {ad : Nat → Addr} {L : List (Option Value)} {A : Array Slot} (H : LocOK ad L A) {i : Nat} (hi : i < L.length) {v : Value} (hv : v.category = 1) :
    ∃ A', storeLocals A i (up ad v) = some A' ∧ LocOK ad (st1 L i v) A' := by
  obtain ⟨h1, h2, h3⟩ := H
  obtain ⟨A', q1, q2, q3, q4, q5⟩ := store_c1 h2 (by omega : i < A.size) ((up_cat ad v).trans hv)
  refine ⟨A', q1, by rw [q2, st1_len]; exact h1, q4, fun k u hu => ?_⟩
  rcases st1_get hu with ⟨rfl, rfl⟩ | ⟨e, hL, hn⟩
  · exact q3
  · have ha := h3 k u hL
    rcases q5 k e with q | ⟨q, q'⟩ | q
    · rw [q]; exact ha
    · obtain ⟨j, w, g1, g2, g3⟩ := h2.1 i q'
      have : j = k := by omega
      subst this
      rw [ha] at g2; cases g2
      rw [up_cat] at g3
      exact absurd ⟨by omega, g3⟩ hn
    · rw [ha] at q; cases q
theorem store_c2 {A : Array Slot} {i : Nat} {v : Value} (hw : WF A) (hi : i + 1 < A.size) (hv : v.category = 2) :
    ∃ A', storeLocals A i v = some A' ∧ A'.size = A.size ∧ A'[i]? = some (Slot.val v) ∧ A'[i + 1]? = some Slot.second ∧ WF A' ∧
      ∀ k, k ≠ i → k ≠ i + 1 → A'[k]? = A[k]? ∨ (k + 1 = i ∧ A[i]? = some .second) ∨ A[k]? = some .second := by
  -- first as if a word of one slot were stored, then the second half
  obtain ⟨B, b1, b2, b3, b4, b5⟩ := store_c1 (v := .int 0) hw (by omega : i < A.size) rfl
  have hB : ∀ w : Value, w.category = 2 → storeLocals A i w = storeSelf B i w := by
    intro w hw2
    have hi0 : i < A.size := by omega
    cases hc : A[i] with
    | second =>
      simp [storeLocals, storeSelf, setAt, hc, hi0, Value.category] at b1
      obtain ⟨j, u, rfl, hj, hu⟩ := hw.1 i (by rw [Array.getElem?_eq_getElem hi0, hc])
      have hj' : j < A.size := by omega
      simp [hj'] at b1
      obtain ⟨-, rfl⟩ := b1
      simp [storeLocals, storeSelf, setAt, hc, hi0, hj', hw2, Array.setIfInBounds_setIfInBounds]
    | unset =>
      simp [storeLocals, storeSelf, setAt, hc, hi0, Value.category] at b1
      subst b1
      simp [storeLocals, storeSelf, setAt, hc, hi0, hw2, Array.setIfInBounds_setIfInBounds]
    | val old =>
      rcases cat12 old with ho | ho
      · simp [storeLocals, storeSelf, setAt, hc, hi0, Value.category] at b1
        have : ¬ old.category = 2 := by omega
        simp only [Value.category] at this
        simp [this] at b1
        subst b1
        simp [storeLocals, storeSelf, setAt, hc, hi0, hw2, ho, Array.setIfInBounds_setIfInBounds]
      · have hs := hw.2 i old (by rw [Array.getElem?_eq_getElem hi0, hc]) ho
        simp [storeLocals, storeSelf, setAt, hc, hi0, ho, hi] at b1
        simp [Value.category] at b1
        subst b1
        simp [storeLocals, storeSelf, setAt, hc, hi0, hi, hw2, ho, Array.setIfInBounds_setIfInBounds]
  obtain ⟨w1, w2⟩ := b4
  have hiB : i < B.size := by omega
  have hiB' : i + 1 < B.size := by omega
  have hn : B[i + 1]? ≠ some .second := fun z => by
    obtain ⟨j, u, e, g1, g2⟩ := w1 _ z
    have : j = i := by omega
    subst this
    rw [b3] at g1; cases g1; simp [Value.category] at g2
  have hA1 : B[i + 1]? = some B[i + 1] := Array.getElem?_eq_getElem hiB'
  -- the array with both halves, and what else was cleared
  have key : ∀ C : Array Slot, C.size = B.size → C[i]? = some (.val v) → C[i + 1]? = some .second → (∀ k, k ≠ i → k ≠ i + 1 → C[k]? = B[k]? ∨ (C[k]? = some .unset ∧ B[k]? = some .second ∧ k = i + 2)) → (∀ u, B[i + 1]? = some (.val u) → u.category = 2 → C[i + 2]? = some .unset) →
      C.size = A.size ∧ C[i]? = some (.val v) ∧ C[i + 1]? = some .second ∧ WF C ∧ ∀ k, k ≠ i → k ≠ i + 1 → C[k]? = A[k]? ∨ (k + 1 = i ∧ A[i]? = some .second) ∨ A[k]? = some .second := by
    intro C c1 c2 c3 c4 c5
    refine ⟨by omega, c2, c3, ⟨fun k hk => ?_, fun k u hk hu => ?_⟩, fun k k1 k2 => ?_⟩
    · by_cases e1 : k = i
      · subst e1; rw [c2] at hk; cases hk
      · by_cases e2 : k = i + 1
        · exact ⟨i, v, e2, c2, hv⟩
        · rcases c4 k e1 e2 with q | ⟨q, -, -⟩
          · rw [q] at hk
            obtain ⟨j, u, rfl, g1, g2⟩ := w1 k hk
            have n1 : j ≠ i := fun z => by omega
            have n2 : j ≠ i + 1 := fun z => by
              subst z
              have := c5 u g1 g2
              rw [q, hk] at this; cases this
            rcases c4 j n1 n2 with q' | ⟨q', q'', -⟩
            · exact ⟨j, u, rfl, by rw [q']; exact g1, g2⟩
            · rw [g1] at q''; cases q''
          · rw [q] at hk; cases hk
    · by_cases e1 : k = i
      · subst e1; exact c3
      · by_cases e2 : k = i + 1
        · subst e2; rw [c3] at hk; cases hk
        · rcases c4 k e1 e2 with q | ⟨q, -, -⟩
          · rw [q] at hk
            have g := w2 k u hk hu
            have n1 : k + 1 ≠ i := fun z => by rw [z] at g; rw [b3] at g; cases g
            have n2 : k + 1 ≠ i + 1 := fun z => by omega
            rcases c4 (k + 1) n1 n2 with q' | ⟨-, -, q''⟩
            · rw [q']; exact g
            · omega
          · rw [q] at hk; cases hk
    · rcases c4 k k1 k2 with q | ⟨-, q, q'⟩
      · rcases b5 k k1 with z | z | z
        · exact Or.inl (q.trans z)
        · exact Or.inr (Or.inl z)
        · exact Or.inr (Or.inr z)
      · rcases b5 k k1 with z | z | z
        · exact Or.inr (Or.inr (z.symm.trans q))
        · exact Or.inr (Or.inl z)
        · exact Or.inr (Or.inr z)
  cases hc : B[i + 1] with
  | second => rw [hc] at hA1; exact absurd hA1 hn
  | unset =>
    rw [hc] at hA1
    refine ⟨(B.setIfInBounds i (.val v)).setIfInBounds (i + 1) .second, ?_, key _ (by simp) (by simp [hiB]) (by simp [hiB']) (fun k k1 k2 => Or.inl (by rw [Array.getElem?_setIfInBounds_ne (Ne.symm k2), Array.getElem?_setIfInBounds_ne (Ne.symm k1)])) (fun u hu => by rw [hA1] at hu; cases hu)⟩
    rw [hB v hv]; simp [storeSelf, setAt, hiB, hiB', hv, hc, Array.getElem_setIfInBounds]
  | val old =>
    rw [hc] at hA1
    rcases cat12 old with ho | ho
    · refine ⟨(B.setIfInBounds i (.val v)).setIfInBounds (i + 1) .second, ?_, key _ (by simp) (by simp [hiB]) (by simp [hiB']) (fun k k1 k2 => Or.inl (by rw [Array.getElem?_setIfInBounds_ne (Ne.symm k2), Array.getElem?_setIfInBounds_ne (Ne.symm k1)])) (fun u hu hu2 => by rw [hA1] at hu; cases hu; omega)⟩
      rw [hB v hv]; simp [storeSelf, setAt, hiB, hiB', hv, hc, ho, Array.getElem_setIfInBounds]
    · have hs := w2 _ old hA1 ho
      have hi2 : i + 2 < B.size := (Array.getElem?_eq_some_iff.mp hs).1
      refine ⟨((B.setIfInBounds i (.val v)).setIfInBounds (i + 2) .unset).setIfInBounds (i + 1) .second, ?_, key _ (by simp) ?_ (by simp [hiB']) (fun k k1 k2 => ?_) (fun u hu hu2 => ?_)⟩
      · rw [hB v hv]; simp [storeSelf, setAt, hiB, hiB', hi2, hv, hc, ho, Array.getElem_setIfInBounds]
      · rw [Array.getElem?_setIfInBounds_ne (by omega), Array.getElem?_setIfInBounds_ne (by omega)]; simp [hiB]
      · rw [Array.getElem?_setIfInBounds_ne (Ne.symm k2)]
        by_cases e : i + 2 = k
        · subst e; exact Or.inr ⟨by simp [hi2], hs, rfl⟩
        · rw [Array.getElem?_setIfInBounds_ne e, Array.getElem?_setIfInBounds_ne (Ne.symm k1)]; exact Or.inl rfl
      · rw [Array.getElem?_setIfInBounds_ne (by omega)]; simp [hi2]
theorem loc_st2 {ad : Nat → Addr} {L : List (Option Value)} {A : Array Slot} (H : LocOK ad L A) {i : Nat} (hi : i + 1 < L.length) {v : Value} (hv : v.category = 2) :
    ∃ A', storeLocals A i (up ad v) = some A' ∧ LocOK ad (st2 L i v) A' := by
  obtain ⟨h1, h2, h3⟩ := H
  obtain ⟨A', q1, q2, q3, q3', q4, q5⟩ := store_c2 h2 (by omega : i + 1 < A.size) ((up_cat ad v).trans hv)
  refine ⟨A', q1, by rw [q2]; unfold st2; rw [List.length_set, st1_len]; exact h1, q4, fun k u hu => ?_⟩
  unfold st2 at hu
  by_cases e2 : k = i + 1
  · subst e2
    rw [List.getElem?_set_self (by rw [st1_len]; omega)] at hu; cases Option.some.inj hu
  · rw [List.getElem?_set_ne (Ne.symm e2)] at hu
    rcases st1_get hu with ⟨rfl, rfl⟩ | ⟨e, hL, hn⟩
    · exact q3
    · have ha := h3 k u hL
      rcases q5 k e e2 with q | ⟨q, q'⟩ | q
      · rw [q]; exact ha
      · obtain ⟨j, w, g1, g2, g3⟩ := h2.1 i q'
        have : j = k := by omega
        subst this
        rw [ha] at g2; cases g2
        rw [up_cat] at g3
        exact absurd ⟨by omega, g3⟩ hn
      · rw [ha] at q; cases q
/-- fewer known variables -/
def Less (L' L : List (Option Value)) : Prop := L'.length = L.length ∧ ∀ (i : Nat) (v : Value), L'[i]? = some (some v) → L[i]? = some (some v)
def lessB : List (Option Value) → List (Option Value) → Prop
  | [], [] => True
  | a :: r, b :: q => (a = none ∨ a = b) ∧ lessB r q
  | _, _ => False
theorem ls {a : Option Value} {r q : List (Option Value)} (h : lessB r q) : lessB (a :: r) (a :: q) := ⟨Or.inr rfl, h⟩
theorem ln {b : Option Value} {r q : List (Option Value)} (h : lessB r q) : lessB (none :: r) (b :: q) := ⟨Or.inl rfl, h⟩
theorem l0 : lessB [] [] := trivial
theorem lessB.less : ∀ {L' L : List (Option Value)}, lessB L' L → Less L' L
  | [], [], _ => ⟨rfl, fun i v h => by simp at h⟩
  | a :: r, b :: q, h => by
    obtain ⟨h1, h2⟩ := lessB.less h.2
    refine ⟨by simp [h1], fun i v hv => ?_⟩
    cases i with
    | zero =>
      simp only [List.getElem?_cons_zero, Option.some.injEq] at hv ⊢
      rcases h.1 with e | e
      · rw [e] at hv; cases hv
      · rw [← e]; exact hv
    | succ i => simp only [List.getElem?_cons_succ] at hv ⊢; exact h2 i v hv
  | [], _ :: _, h => h.elim
  | _ :: _, [], h => h.elim
theorem LocOK.less {ad : Nat → Addr} {L L' : List (Option Value)} {A : Array Slot} (H : LocOK ad L A) (q : Less L' L) : LocOK ad L' A := ⟨by rw [q.1]; exact H.1, H.2.1, fun i v h => H.2.2 i v (q.2 i v h)⟩
/-! ### the entry frame -/
def ent1 (v : Value) : List (Option Value) := if v.category = 2 then [some v, none] else [some v]
def ent (vs : List Value) (ml : Nat) : List (Option Value) := let q := vs.flatMap ent1; q ++ List.replicate (ml - q.length) none
def entS1 (v : Value) : List Slot := if v.category = 2 then [.val v, .second] else [.val v]
theorem args_list (vs : List Value) : ∀ acc : Array Slot, (vs.foldl (fun acc v => if v.category = 2 then (acc.push (.val v)).push .second else acc.push (.val v)) acc).toList = acc.toList ++ vs.flatMap entS1 := by
  induction vs with
  | nil => intro acc; simp
  | cons v r ih =>
    intro acc
    rw [List.foldl_cons, ih, List.flatMap_cons]
    by_cases h : v.category = 2 <;> simp [h, entS1]
theorem wf_ent (vs : List Value) (n : Nat) : WF (vs.flatMap entS1 ++ List.replicate n Slot.unset).toArray := by
  suffices h : ∀ (q : List Slot), q = vs.flatMap entS1 ++ List.replicate n Slot.unset → (∀ i : Nat, q[i]? = some Slot.second → ∃ (j : Nat) (w : Value), i = j + 1 ∧ q[j]? = some (Slot.val w) ∧ w.category = 2) ∧ ∀ (i : Nat) (w : Value), q[i]? = some (Slot.val w) → w.category = 2 → q[i + 1]? = some Slot.second by
    have := h _ rfl
    simpa [WF] using this
  induction vs with
  | nil =>
    intro q hq
    subst hq
    refine ⟨fun i hi => ?_, fun i w hi => ?_⟩ <;> simp [List.getElem?_replicate] at hi
  | cons v r ih =>
    intro q hq
    obtain ⟨g1, g2⟩ := ih _ rfl
    subst hq
    by_cases h : v.category = 2
    · simp only [List.flatMap_cons, entS1, h, if_true, List.cons_append, List.nil_append]
      refine ⟨fun i hi => ?_, fun i w hi hw => ?_⟩
      · match i with
        | 0 => simp at hi
        | 1 => exact ⟨0, v, rfl, rfl, h⟩
        | i + 2 =>
          obtain ⟨j, w, e, e1, e2⟩ := g1 i (by simpa using hi)
          exact ⟨j + 2, w, by omega, by simpa using e1, e2⟩
      · match i with
        | 0 => rfl
        | 1 => simp at hi
        | i + 2 => simpa using g2 i w (by simpa using hi) hw
    · simp only [List.flatMap_cons, entS1, h, if_false, List.cons_append, List.nil_append]
      refine ⟨fun i hi => ?_, fun i w hi hw => ?_⟩
      · match i with
        | 0 => simp at hi
        | i + 1 =>
          obtain ⟨j, w, e, e1, e2⟩ := g1 i (by simpa using hi)
          exact ⟨j + 1, w, by omega, by simpa using e1, e2⟩
      · match i with
        | 0 => simp at hi; subst hi; exact absurd hw h
        | i + 1 => simpa using g2 i w (by simpa using hi) hw
theorem ent_get (ad : Nat → Addr) (vs : List Value) : ∀ (n : Nat) (i : Nat) (u : Value), (vs.flatMap ent1 ++ List.replicate n none)[i]? = some (some u) → ((vs.map (up ad)).flatMap entS1 ++ List.replicate n Slot.unset)[i]? = some (.val (up ad u)) := by
  induction vs with
  | nil => intro n i u h; simp [List.getElem?_replicate] at h
  | cons v r ih =>
    intro n i u h
    by_cases hc : v.category = 2
    · have hc' : (up ad v).category = 2 := (up_cat ad v).trans hc
      simp only [List.flatMap_cons, List.map_cons, ent1, entS1, hc, hc', if_true, List.cons_append, List.nil_append] at h ⊢
      match i with
      | 0 => simp at h ⊢; rw [h]
      | 1 => simp at h
      | i + 2 => simpa using ih n i u (by simpa using h)
    · have hc' : ¬ (up ad v).category = 2 := by rw [up_cat]; exact hc
      simp only [List.flatMap_cons, List.map_cons, ent1, entS1, hc, hc', if_false, List.cons_append, List.nil_append] at h ⊢
      match i with
      | 0 => simp at h ⊢; rw [h]
      | i + 1 => simpa using ih n i u (by simpa using h)
theorem ent_len (ad : Nat → Addr) (vs : List Value) : ((vs.map (up ad)).flatMap entS1).length = (vs.flatMap ent1).length := by
  induction vs with
  | nil => rfl
  | cons v r ih =>
    have := up_cat ad v
    by_cases hc : v.category = 2 <;> simp [ent1, entS1, hc, this, ih]
theorem loc_ent (ad : Nat → Addr) (vs : List Value) (ml : Nat) : LocOK ad (ent vs ml) (argsToLocals (vs.map (up ad)).toArray ml) := by
  have e : argsToLocals (vs.map (up ad)).toArray ml = ((vs.map (up ad)).flatMap entS1 ++ List.replicate (ml - (vs.flatMap ent1).length) Slot.unset).toArray := by
    have q := args_list (vs.map (up ad)) #[]
    simp only [List.nil_append] at q
    have q3 : ((vs.map (up ad)).toArray.foldl (fun acc v => if v.category = 2 then (acc.push (Slot.val v)).push Slot.second else acc.push (Slot.val v)) #[]) = ((vs.map (up ad)).flatMap entS1).toArray := by
      apply Array.ext'
      rw [List.foldl_toArray]; simpa using q
    unfold argsToLocals
    simp only [q3]
    rw [List.size_toArray, ent_len]
    simp
  rw [e]
  refine ⟨by simp only [ent, List.size_toArray, List.length_append, List.length_replicate, ent_len], wf_ent _ _, fun i u h => ?_⟩
  have := ent_get ad vs (ml - (vs.flatMap ent1).length) i u (by simpa [ent] using h)
  simpa using this
/-! ## small things -/
theorem ifs {α : Type} {c : Prop} [Decidable c] {a b r : α} (h : (if c then a else b) = r) : (c ∧ a = r) ∨ (¬ c ∧ b = r) := by
  by_cases q : c
  · exact Or.inl ⟨q, (if_pos q).symm.trans h⟩
  · exact Or.inr ⟨q, (if_neg q).symm.trans h⟩
theorem ifn {α : Type} {c : Prop} [Decidable c] {a : Option α} {r : α} (h : (if c then a else none) = some r) : c ∧ a = some r := by
  by_cases q : c
  · exact ⟨q, (if_pos q).symm.trans h⟩
  · cases (if_neg q).symm.trans h
theorem ifz {α : Type} {c : Prop} [Decidable c] {a : Option α} {r : α} (h : (if c then none else a) = some r) : ¬ c ∧ a = some r := by
  by_cases q : c
  · cases (if_pos q).symm.trans h
  · exact ⟨q, (if_neg q).symm.trans h⟩
theorem ble {a b : Nat} (h : Nat.ble a b = true) : a ≤ b := Nat.le_of_ble_eq_true h
theorem blt {a b : Nat} (h : Nat.blt a b = true) : a < b := Nat.le_of_ble_eq_true h
theorem cl_lt {x y : Int64} : XT.cmpL x y < 0 ↔ x < y := by
  unfold XT.cmpL; split <;> (try split) <;> simp_all [Int64.lt_iff_toInt_lt, ← Int64.toInt_inj] <;> omega
theorem cl_gt {x y : Int64} : 0 < XT.cmpL x y ↔ y < x := by
  unfold XT.cmpL; split <;> (try split) <;> simp_all [Int64.lt_iff_toInt_lt, ← Int64.toInt_inj] <;> omega
theorem cl_eq {x y : Int64} : XT.cmpL x y = 0 ↔ x = y := by
  unfold XT.cmpL; split <;> (try split) <;> simp_all [Int64.lt_iff_toInt_lt, ← Int64.toInt_inj] <;> omega
/-! ## 3. the machine -/
abbrev Cx (S : Type) : Type := Program × Launch × Env × Room × State × MethodId × Array Value × List Frame × Method × Code × (Nat → Addr) × (S → Heap → Prop) × (S → Nat × Nat) × Nat × Nat × Nat
/-- from here the run ends, returning r -/
def Go {S : Type} (X : Cx S) (r : Option Value × S) (pc : Nat) (L : List (Option Value)) (st : List Value) (x : S) : Prop :=
  match X with
  | (p, l, e, R, s, m, args, below, meth, c, ad, INV, CE, n0, kc, ks) =>
    ∀ (T : State) (locs : List Loc) (A : Array Slot), Stand p l e R s m args below meth c T locs (CE x).1 (CE x).2 → Fr n0 locs → INV x T.heap → LocOK ad L A →
      ∃ s₂, Steps p.tables e below (T.setTop (mkF m pc A (st.map (up ad)))) s₂ ∧ s₂.status = .running ∧ Ended s₂ below (.returned (r.1.map (up ad))) ∧ INV r.2 s₂.heap ∧
        ∃ L', Fr n0 L' ∧ s.WarmedH s₂.vm ∧ s.sameButNew ({ s₂ with vm := s.vm } : State) L' kc ks
def Ctx {S : Type} (X : Cx S) (Z : State) (own nm : String) (code : ByteArray) (ml : Nat) (ret : Option FieldType) : Prop :=
  match X with
  | (p, l, e, R, s, m, args, below, meth, c, ad, INV, CE, n0, kc, ks) =>
    p.tables.exec = Jvm.exec ∧ c.code = code ∧ c.maxLocals = ml ∧ s.vm.findClass own = some m.cls ∧ Z.Warmed39 s.vm ∧ meth.sig.returnType = ret ∧ meth.locks = false ∧ meth.name = nm
def hsz {S : Type} (X : Cx S) : Nat := X.2.2.2.2.1.heap.size
section Rules
variable {S : Type} {X : Cx S} {Z : State} {own nm : String} {code : ByteArray} {ml : Nat} {ret : Option FieldType} {r : Option Value × S} {pc : Nat} {L L' : List (Option Value)} {st : List Value} {x : S}
theorem g_iloadN (K : Ctx X Z own nm code ml ret) {k : Fin 4} {v : Int32} (hd : decode code pc = .ok (.iload_n k, 1)) (hl : L[k.val]? = some (some (.int v))) (h : Go X r (pc + 1) L (.int v :: st) x) : Go X r pc L (st) x := by
  obtain ⟨p, l, e, R, s, m, args, below, meth, c, ad, INV, CE, n0, kc, ks⟩ := X
  obtain ⟨hx, hby, -⟩ := K
  intro T locs A Y N I LO
  obtain ⟨s₂, h1, h2⟩ := h T locs A Y N I LO
  exact ⟨s₂, XS.iloadN Y.here hx rfl (hb hby hd) (LO.2.2 _ _ hl) h1, h2⟩
theorem g_iload (K : Ctx X Z own nm code ml ret) {k : Nat} {v : Int32} (hd : decode code pc = .ok (.iload k, 2)) (hl : L[k]? = some (some (.int v))) (h : Go X r (pc + 2) L (.int v :: st) x) : Go X r pc L (st) x := by
  obtain ⟨p, l, e, R, s, m, args, below, meth, c, ad, INV, CE, n0, kc, ks⟩ := X
  obtain ⟨hx, hby, -⟩ := K
  intro T locs A Y N I LO
  obtain ⟨s₂, h1, h2⟩ := h T locs A Y N I LO
  exact ⟨s₂, XS.iload Y.here hx rfl (hb hby hd) (LO.2.2 _ _ hl) h1, h2⟩
theorem g_aloadN (K : Ctx X Z own nm code ml ret) {k : Fin 4} {v : Nat} (hd : decode code pc = .ok (.aload_n k, 1)) (hl : L[k.val]? = some (some (.ref v))) (h : Go X r (pc + 1) L (.ref v :: st) x) : Go X r pc L (st) x := by
  obtain ⟨p, l, e, R, s, m, args, below, meth, c, ad, INV, CE, n0, kc, ks⟩ := X
  obtain ⟨hx, hby, -⟩ := K
  intro T locs A Y N I LO
  obtain ⟨s₂, h1, h2⟩ := h T locs A Y N I LO
  exact ⟨s₂, XS.aloadN Y.here hx rfl (hb hby hd) (LO.2.2 _ _ hl) rfl h1, h2⟩
theorem g_aload (K : Ctx X Z own nm code ml ret) {k : Nat} {v : Nat} (hd : decode code pc = .ok (.aload k, 2)) (hl : L[k]? = some (some (.ref v))) (h : Go X r (pc + 2) L (.ref v :: st) x) : Go X r pc L (st) x := by
  obtain ⟨p, l, e, R, s, m, args, below, meth, c, ad, INV, CE, n0, kc, ks⟩ := X
  obtain ⟨hx, hby, -⟩ := K
  intro T locs A Y N I LO
  obtain ⟨s₂, h1, h2⟩ := h T locs A Y N I LO
  exact ⟨s₂, XS.aload Y.here hx rfl (hb hby hd) (LO.2.2 _ _ hl) rfl h1, h2⟩
theorem g_lloadN (K : Ctx X Z own nm code ml ret) {k : Fin 4} {v : Int64} (hd : decode code pc = .ok (.lload_n k, 1)) (hl : L[k.val]? = some (some (.long v))) (h : Go X r (pc + 1) L (.long v :: st) x) : Go X r pc L (st) x := by
  obtain ⟨p, l, e, R, s, m, args, below, meth, c, ad, INV, CE, n0, kc, ks⟩ := X
  obtain ⟨hx, hby, -⟩ := K
  intro T locs A Y N I LO
  obtain ⟨s₂, h1, h2⟩ := h T locs A Y N I LO
  exact ⟨s₂, XT.lloadN Y.here hx rfl (hb hby hd) (LO.2.2 _ _ hl) h1, h2⟩
theorem g_lload (K : Ctx X Z own nm code ml ret) {k : Nat} {v : Int64} (hd : decode code pc = .ok (.lload k, 2)) (hl : L[k]? = some (some (.long v))) (h : Go X r (pc + 2) L (.long v :: st) x) : Go X r pc L (st) x := by
  obtain ⟨p, l, e, R, s, m, args, below, meth, c, ad, INV, CE, n0, kc, ks⟩ := X
  obtain ⟨hx, hby, -⟩ := K
  intro T locs A Y N I LO
  obtain ⟨s₂, h1, h2⟩ := h T locs A Y N I LO
  exact ⟨s₂, XT.lload Y.here hx rfl (hb hby hd) (LO.2.2 _ _ hl) h1, h2⟩
theorem g_iconst (K : Ctx X Z own nm code ml ret) {i : Int} {v : Int32} (hd : decode code pc = .ok (.iconst i, 1)) (hv : Int32.ofInt i = v) (h : Go X r (pc + 1) L (.int v :: st) x) : Go X r pc L (st) x := by
  obtain ⟨p, l, e, R, s, m, args, below, meth, c, ad, INV, CE, n0, kc, ks⟩ := X
  obtain ⟨hx, hby, -⟩ := K
  intro T locs A Y N I LO
  subst hv
  have LO₁ := LO
  have ⟨A₁, hA₁⟩ : ∃ A₁, A₁ = A := ⟨_, rfl⟩
  subst hA₁
  obtain ⟨s₂, h1, h2⟩ := h T locs A₁ Y N I LO₁
  exact ⟨s₂, XS.iconst Y.here hx rfl (hb hby hd) h1, h2⟩
theorem g_bipush (K : Ctx X Z own nm code ml ret) {i : Int} {v : Int32} (hd : decode code pc = .ok (.bipush i, 2)) (hv : (Int8.ofInt i).toInt32 = v) (h : Go X r (pc + 2) L (.int v :: st) x) : Go X r pc L (st) x := by
  obtain ⟨p, l, e, R, s, m, args, below, meth, c, ad, INV, CE, n0, kc, ks⟩ := X
  obtain ⟨hx, hby, -⟩ := K
  intro T locs A Y N I LO
  subst hv
  have LO₁ := LO
  have ⟨A₁, hA₁⟩ : ∃ A₁, A₁ = A := ⟨_, rfl⟩
  subst hA₁
  obtain ⟨s₂, h1, h2⟩ := h T locs A₁ Y N I LO₁
  exact ⟨s₂, XS.bipush Y.here hx rfl (hb hby hd) h1, h2⟩
theorem g_sipush (K : Ctx X Z own nm code ml ret) {i : Int} {v : Int32} (hd : decode code pc = .ok (.sipush i, 3)) (hv : (Int16.ofInt i).toInt32 = v) (h : Go X r (pc + 3) L (.int v :: st) x) : Go X r pc L (st) x := by
  obtain ⟨p, l, e, R, s, m, args, below, meth, c, ad, INV, CE, n0, kc, ks⟩ := X
  obtain ⟨hx, hby, -⟩ := K
  intro T locs A Y N I LO
  subst hv
  have LO₁ := LO
  have ⟨A₁, hA₁⟩ : ∃ A₁, A₁ = A := ⟨_, rfl⟩
  subst hA₁
  obtain ⟨s₂, h1, h2⟩ := h T locs A₁ Y N I LO₁
  exact ⟨s₂, XS.sipush Y.here hx rfl (hb hby hd) h1, h2⟩
theorem g_lconst (K : Ctx X Z own nm code ml ret) {k : Fin 2} {v : Int64} (hd : decode code pc = .ok (.lconst k, 1)) (hv : Int64.ofNat k = v) (h : Go X r (pc + 1) L (.long v :: st) x) : Go X r pc L (st) x := by
  obtain ⟨p, l, e, R, s, m, args, below, meth, c, ad, INV, CE, n0, kc, ks⟩ := X
  obtain ⟨hx, hby, -⟩ := K
  intro T locs A Y N I LO
  subst hv
  have LO₁ := LO
  have ⟨A₁, hA₁⟩ : ∃ A₁, A₁ = A := ⟨_, rfl⟩
  subst hA₁
  obtain ⟨s₂, h1, h2⟩ := h T locs A₁ Y N I LO₁
  exact ⟨s₂, XT.lconst Y.here hx rfl (hb hby hd) h1, h2⟩
theorem g_iadd (K : Ctx X Z own nm code ml ret) {v w : Int32} (hd : decode code pc = .ok (.iadd, 1)) (h : Go X r (pc + 1) L (.int (v + w) :: st) x) : Go X r pc L (.int w :: .int v :: st) x := by
  obtain ⟨p, l, e, R, s, m, args, below, meth, c, ad, INV, CE, n0, kc, ks⟩ := X
  obtain ⟨hx, hby, -⟩ := K
  intro T locs A Y N I LO
  obtain ⟨s₂, h1, h2⟩ := h T locs A Y N I LO
  exact ⟨s₂, XS.iadd Y.here hx rfl (hb hby hd) rfl h1, h2⟩
theorem g_isub (K : Ctx X Z own nm code ml ret) {v w : Int32} (hd : decode code pc = .ok (.isub, 1)) (h : Go X r (pc + 1) L (.int (v - w) :: st) x) : Go X r pc L (.int w :: .int v :: st) x := by
  obtain ⟨p, l, e, R, s, m, args, below, meth, c, ad, INV, CE, n0, kc, ks⟩ := X
  obtain ⟨hx, hby, -⟩ := K
  intro T locs A Y N I LO
  obtain ⟨s₂, h1, h2⟩ := h T locs A Y N I LO
  exact ⟨s₂, XS.isub Y.here hx rfl (hb hby hd) rfl h1, h2⟩
theorem g_imul (K : Ctx X Z own nm code ml ret) {v w : Int32} (hd : decode code pc = .ok (.imul, 1)) (h : Go X r (pc + 1) L (.int (v * w) :: st) x) : Go X r pc L (.int w :: .int v :: st) x := by
  obtain ⟨p, l, e, R, s, m, args, below, meth, c, ad, INV, CE, n0, kc, ks⟩ := X
  obtain ⟨hx, hby, -⟩ := K
  intro T locs A Y N I LO
  obtain ⟨s₂, h1, h2⟩ := h T locs A Y N I LO
  exact ⟨s₂, XS.imul Y.here hx rfl (hb hby hd) rfl h1, h2⟩
theorem g_iand (K : Ctx X Z own nm code ml ret) {v w : Int32} (hd : decode code pc = .ok (.iand, 1)) (h : Go X r (pc + 1) L (.int (v &&& w) :: st) x) : Go X r pc L (.int w :: .int v :: st) x := by
  obtain ⟨p, l, e, R, s, m, args, below, meth, c, ad, INV, CE, n0, kc, ks⟩ := X
  obtain ⟨hx, hby, -⟩ := K
  intro T locs A Y N I LO
  obtain ⟨s₂, h1, h2⟩ := h T locs A Y N I LO
  exact ⟨s₂, XS.iand Y.here hx rfl (hb hby hd) rfl h1, h2⟩
theorem g_ior (K : Ctx X Z own nm code ml ret) {v w : Int32} (hd : decode code pc = .ok (.ior, 1)) (h : Go X r (pc + 1) L (.int (v ||| w) :: st) x) : Go X r pc L (.int w :: .int v :: st) x := by
  obtain ⟨p, l, e, R, s, m, args, below, meth, c, ad, INV, CE, n0, kc, ks⟩ := X
  obtain ⟨hx, hby, -⟩ := K
  intro T locs A Y N I LO
  obtain ⟨s₂, h1, h2⟩ := h T locs A Y N I LO
  exact ⟨s₂, XT.ior Y.here hx rfl (hb hby hd) rfl h1, h2⟩
theorem g_ixor (K : Ctx X Z own nm code ml ret) {v w : Int32} (hd : decode code pc = .ok (.ixor, 1)) (h : Go X r (pc + 1) L (.int (v ^^^ w) :: st) x) : Go X r pc L (.int w :: .int v :: st) x := by
  obtain ⟨p, l, e, R, s, m, args, below, meth, c, ad, INV, CE, n0, kc, ks⟩ := X
  obtain ⟨hx, hby, -⟩ := K
  intro T locs A Y N I LO
  obtain ⟨s₂, h1, h2⟩ := h T locs A Y N I LO
  exact ⟨s₂, XT.ixor Y.here hx rfl (hb hby hd) rfl h1, h2⟩
theorem g_ishl (K : Ctx X Z own nm code ml ret) {v w : Int32} (hd : decode code pc = .ok (.ishl, 1)) (h : Go X r (pc + 1) L (.int (v <<< (w &&& 31)) :: st) x) : Go X r pc L (.int w :: .int v :: st) x := by
  obtain ⟨p, l, e, R, s, m, args, below, meth, c, ad, INV, CE, n0, kc, ks⟩ := X
  obtain ⟨hx, hby, -⟩ := K
  intro T locs A Y N I LO
  obtain ⟨s₂, h1, h2⟩ := h T locs A Y N I LO
  exact ⟨s₂, XT.ishl Y.here hx rfl (hb hby hd) rfl h1, h2⟩
theorem g_ishr (K : Ctx X Z own nm code ml ret) {v w : Int32} (hd : decode code pc = .ok (.ishr, 1)) (h : Go X r (pc + 1) L (.int (v >>> (w &&& 31)) :: st) x) : Go X r pc L (.int w :: .int v :: st) x := by
  obtain ⟨p, l, e, R, s, m, args, below, meth, c, ad, INV, CE, n0, kc, ks⟩ := X
  obtain ⟨hx, hby, -⟩ := K
  intro T locs A Y N I LO
  obtain ⟨s₂, h1, h2⟩ := h T locs A Y N I LO
  exact ⟨s₂, XT.ishr Y.here hx rfl (hb hby hd) rfl h1, h2⟩
theorem g_iushr (K : Ctx X Z own nm code ml ret) {v w : Int32} (hd : decode code pc = .ok (.iushr, 1)) (h : Go X r (pc + 1) L (.int (XT.ushr v w) :: st) x) : Go X r pc L (.int w :: .int v :: st) x := by
  obtain ⟨p, l, e, R, s, m, args, below, meth, c, ad, INV, CE, n0, kc, ks⟩ := X
  obtain ⟨hx, hby, -⟩ := K
  intro T locs A Y N I LO
  obtain ⟨s₂, h1, h2⟩ := h T locs A Y N I LO
  exact ⟨s₂, XT.iushr Y.here hx rfl (hb hby hd) rfl h1, h2⟩
theorem g_idiv (K : Ctx X Z own nm code ml ret) {v w : Int32} (hd : decode code pc = .ok (.idiv, 1)) (hw : w ≠ 0) (h : Go X r (pc + 1) L (.int (v / w) :: st) x) : Go X r pc L (.int w :: .int v :: st) x := by
  obtain ⟨p, l, e, R, s, m, args, below, meth, c, ad, INV, CE, n0, kc, ks⟩ := X
  obtain ⟨hx, hby, -⟩ := K
  intro T locs A Y N I LO
  obtain ⟨s₂, h1, h2⟩ := h T locs A Y N I LO
  exact ⟨s₂, XS.idiv Y.here hx rfl (hb hby hd) rfl hw h1, h2⟩
theorem g_irem (K : Ctx X Z own nm code ml ret) {v w : Int32} (hd : decode code pc = .ok (.irem, 1)) (hw : w ≠ 0) (h : Go X r (pc + 1) L (.int (v % w) :: st) x) : Go X r pc L (.int w :: .int v :: st) x := by
  obtain ⟨p, l, e, R, s, m, args, below, meth, c, ad, INV, CE, n0, kc, ks⟩ := X
  obtain ⟨hx, hby, -⟩ := K
  intro T locs A Y N I LO
  obtain ⟨s₂, h1, h2⟩ := h T locs A Y N I LO
  exact ⟨s₂, iremM Y hx rfl (hb hby hd) rfl hw h1, h2⟩
theorem g_ineg (K : Ctx X Z own nm code ml ret) {v : Int32} (hd : decode code pc = .ok (.ineg, 1)) (h : Go X r (pc + 1) L (.int (-v) :: st) x) : Go X r pc L (.int v :: st) x := by
  obtain ⟨p, l, e, R, s, m, args, below, meth, c, ad, INV, CE, n0, kc, ks⟩ := X
  obtain ⟨hx, hby, -⟩ := K
  intro T locs A Y N I LO
  obtain ⟨s₂, h1, h2⟩ := h T locs A Y N I LO
  exact ⟨s₂, XS.ineg Y.here hx rfl (hb hby hd) rfl h1, h2⟩
theorem g_ladd (K : Ctx X Z own nm code ml ret) {v w : Int64} (hd : decode code pc = .ok (.ladd, 1)) (h : Go X r (pc + 1) L (.long (v + w) :: st) x) : Go X r pc L (.long w :: .long v :: st) x := by
  obtain ⟨p, l, e, R, s, m, args, below, meth, c, ad, INV, CE, n0, kc, ks⟩ := X
  obtain ⟨hx, hby, -⟩ := K
  intro T locs A Y N I LO
  obtain ⟨s₂, h1, h2⟩ := h T locs A Y N I LO
  exact ⟨s₂, XT.ladd Y.here hx rfl (hb hby hd) rfl h1, h2⟩
theorem g_lsub (K : Ctx X Z own nm code ml ret) {v w : Int64} (hd : decode code pc = .ok (.lsub, 1)) (h : Go X r (pc + 1) L (.long (v - w) :: st) x) : Go X r pc L (.long w :: .long v :: st) x := by
  obtain ⟨p, l, e, R, s, m, args, below, meth, c, ad, INV, CE, n0, kc, ks⟩ := X
  obtain ⟨hx, hby, -⟩ := K
  intro T locs A Y N I LO
  obtain ⟨s₂, h1, h2⟩ := h T locs A Y N I LO
  exact ⟨s₂, XT.lsub Y.here hx rfl (hb hby hd) rfl h1, h2⟩
theorem g_lmul (K : Ctx X Z own nm code ml ret) {v w : Int64} (hd : decode code pc = .ok (.lmul, 1)) (h : Go X r (pc + 1) L (.long (v * w) :: st) x) : Go X r pc L (.long w :: .long v :: st) x := by
  obtain ⟨p, l, e, R, s, m, args, below, meth, c, ad, INV, CE, n0, kc, ks⟩ := X
  obtain ⟨hx, hby, -⟩ := K
  intro T locs A Y N I LO
  obtain ⟨s₂, h1, h2⟩ := h T locs A Y N I LO
  exact ⟨s₂, XT.lmul Y.here hx rfl (hb hby hd) rfl h1, h2⟩
theorem g_land (K : Ctx X Z own nm code ml ret) {v w : Int64} (hd : decode code pc = .ok (.land, 1)) (h : Go X r (pc + 1) L (.long (v &&& w) :: st) x) : Go X r pc L (.long w :: .long v :: st) x := by
  obtain ⟨p, l, e, R, s, m, args, below, meth, c, ad, INV, CE, n0, kc, ks⟩ := X
  obtain ⟨hx, hby, -⟩ := K
  intro T locs A Y N I LO
  obtain ⟨s₂, h1, h2⟩ := h T locs A Y N I LO
  exact ⟨s₂, XT.land Y.here hx rfl (hb hby hd) rfl h1, h2⟩
theorem g_lor (K : Ctx X Z own nm code ml ret) {v w : Int64} (hd : decode code pc = .ok (.lor, 1)) (h : Go X r (pc + 1) L (.long (v ||| w) :: st) x) : Go X r pc L (.long w :: .long v :: st) x := by
  obtain ⟨p, l, e, R, s, m, args, below, meth, c, ad, INV, CE, n0, kc, ks⟩ := X
  obtain ⟨hx, hby, -⟩ := K
  intro T locs A Y N I LO
  obtain ⟨s₂, h1, h2⟩ := h T locs A Y N I LO
  exact ⟨s₂, XT.lor Y.here hx rfl (hb hby hd) rfl h1, h2⟩
theorem g_lxor (K : Ctx X Z own nm code ml ret) {v w : Int64} (hd : decode code pc = .ok (.lxor, 1)) (h : Go X r (pc + 1) L (.long (v ^^^ w) :: st) x) : Go X r pc L (.long w :: .long v :: st) x := by
  obtain ⟨p, l, e, R, s, m, args, below, meth, c, ad, INV, CE, n0, kc, ks⟩ := X
  obtain ⟨hx, hby, -⟩ := K
  intro T locs A Y N I LO
  obtain ⟨s₂, h1, h2⟩ := h T locs A Y N I LO
  exact ⟨s₂, XT.lxor Y.here hx rfl (hb hby hd) rfl h1, h2⟩
theorem g_lshl (K : Ctx X Z own nm code ml ret) {v : Int64} {w : Int32} (hd : decode code pc = .ok (.lshl, 1)) (h : Go X r (pc + 1) L (.long (v <<< (w.toInt64 &&& 63)) :: st) x) : Go X r pc L (.int w :: .long v :: st) x := by
  obtain ⟨p, l, e, R, s, m, args, below, meth, c, ad, INV, CE, n0, kc, ks⟩ := X
  obtain ⟨hx, hby, -⟩ := K
  intro T locs A Y N I LO
  obtain ⟨s₂, h1, h2⟩ := h T locs A Y N I LO
  exact ⟨s₂, XT.lshl Y.here hx rfl (hb hby hd) rfl h1, h2⟩
theorem g_lshr (K : Ctx X Z own nm code ml ret) {v : Int64} {w : Int32} (hd : decode code pc = .ok (.lshr, 1)) (h : Go X r (pc + 1) L (.long (v >>> (w.toInt64 &&& 63)) :: st) x) : Go X r pc L (.int w :: .long v :: st) x := by
  obtain ⟨p, l, e, R, s, m, args, below, meth, c, ad, INV, CE, n0, kc, ks⟩ := X
  obtain ⟨hx, hby, -⟩ := K
  intro T locs A Y N I LO
  obtain ⟨s₂, h1, h2⟩ := h T locs A Y N I LO
  exact ⟨s₂, XT.lshr Y.here hx rfl (hb hby hd) rfl h1, h2⟩
theorem g_lushr (K : Ctx X Z own nm code ml ret) {v : Int64} {w : Int32} (hd : decode code pc = .ok (.lushr, 1)) (h : Go X r (pc + 1) L (.long (XT.ushrL v w) :: st) x) : Go X r pc L (.int w :: .long v :: st) x := by
  obtain ⟨p, l, e, R, s, m, args, below, meth, c, ad, INV, CE, n0, kc, ks⟩ := X
  obtain ⟨hx, hby, -⟩ := K
  intro T locs A Y N I LO
  obtain ⟨s₂, h1, h2⟩ := h T locs A Y N I LO
  exact ⟨s₂, XT.lushr Y.here hx rfl (hb hby hd) rfl h1, h2⟩
theorem g_ldiv (K : Ctx X Z own nm code ml ret) {v w : Int64} (hd : decode code pc = .ok (.ldiv, 1)) (hw : w ≠ 0) (h : Go X r (pc + 1) L (.long (v / w) :: st) x) : Go X r pc L (.long w :: .long v :: st) x := by
  obtain ⟨p, l, e, R, s, m, args, below, meth, c, ad, INV, CE, n0, kc, ks⟩ := X
  obtain ⟨hx, hby, -⟩ := K
  intro T locs A Y N I LO
  obtain ⟨s₂, h1, h2⟩ := h T locs A Y N I LO
  exact ⟨s₂, XT.ldiv Y.here hx rfl (hb hby hd) rfl hw h1, h2⟩
theorem g_lrem (K : Ctx X Z own nm code ml ret) {v w : Int64} (hd : decode code pc = .ok (.lrem, 1)) (hw : w ≠ 0) (h : Go X r (pc + 1) L (.long (v % w) :: st) x) : Go X r pc L (.long w :: .long v :: st) x := by
  obtain ⟨p, l, e, R, s, m, args, below, meth, c, ad, INV, CE, n0, kc, ks⟩ := X
  obtain ⟨hx, hby, -⟩ := K
  intro T locs A Y N I LO
  obtain ⟨s₂, h1, h2⟩ := h T locs A Y N I LO
  exact ⟨s₂, XT.lrem Y.here hx rfl (hb hby hd) rfl hw (lrem_mod v w ▸ h1), h2⟩
theorem g_lneg (K : Ctx X Z own nm code ml ret) {v : Int64} (hd : decode code pc = .ok (.lneg, 1)) (h : Go X r (pc + 1) L (.long (-v) :: st) x) : Go X r pc L (.long v :: st) x := by
  obtain ⟨p, l, e, R, s, m, args, below, meth, c, ad, INV, CE, n0, kc, ks⟩ := X
  obtain ⟨hx, hby, -⟩ := K
  intro T locs A Y N I LO
  obtain ⟨s₂, h1, h2⟩ := h T locs A Y N I LO
  exact ⟨s₂, XT.lneg Y.here hx rfl (hb hby hd) rfl h1, h2⟩
theorem g_i2l (K : Ctx X Z own nm code ml ret) {v : Int32} (hd : decode code pc = .ok (.i2l, 1)) (h : Go X r (pc + 1) L (.long v.toInt64 :: st) x) : Go X r pc L (.int v :: st) x := by
  obtain ⟨p, l, e, R, s, m, args, below, meth, c, ad, INV, CE, n0, kc, ks⟩ := X
  obtain ⟨hx, hby, -⟩ := K
  intro T locs A Y N I LO
  obtain ⟨s₂, h1, h2⟩ := h T locs A Y N I LO
  exact ⟨s₂, XT.i2l Y.here hx rfl (hb hby hd) rfl h1, h2⟩
theorem g_l2i (K : Ctx X Z own nm code ml ret) {v : Int64} (hd : decode code pc = .ok (.l2i, 1)) (h : Go X r (pc + 1) L (.int v.toInt32 :: st) x) : Go X r pc L (.long v :: st) x := by
  obtain ⟨p, l, e, R, s, m, args, below, meth, c, ad, INV, CE, n0, kc, ks⟩ := X
  obtain ⟨hx, hby, -⟩ := K
  intro T locs A Y N I LO
  obtain ⟨s₂, h1, h2⟩ := h T locs A Y N I LO
  exact ⟨s₂, XT.l2i Y.here hx rfl (hb hby hd) rfl h1, h2⟩
theorem g_i2b (K : Ctx X Z own nm code ml ret) {v : Int32} (hd : decode code pc = .ok (.i2b, 1)) (h : Go X r (pc + 1) L (.int (nar .byte v) :: st) x) : Go X r pc L (.int v :: st) x := by
  obtain ⟨p, l, e, R, s, m, args, below, meth, c, ad, INV, CE, n0, kc, ks⟩ := X
  obtain ⟨hx, hby, -⟩ := K
  intro T locs A Y N I LO
  obtain ⟨s₂, h1, h2⟩ := h T locs A Y N I LO
  exact ⟨s₂, XT.i2b Y.here hx rfl (hb hby hd) rfl h1, h2⟩
theorem g_i2c (K : Ctx X Z own nm code ml ret) {v : Int32} (hd : decode code pc = .ok (.i2c, 1)) (h : Go X r (pc + 1) L (.int (nar .char v) :: st) x) : Go X r pc L (.int v :: st) x := by
  obtain ⟨p, l, e, R, s, m, args, below, meth, c, ad, INV, CE, n0, kc, ks⟩ := X
  obtain ⟨hx, hby, -⟩ := K
  intro T locs A Y N I LO
  obtain ⟨s₂, h1, h2⟩ := h T locs A Y N I LO
  exact ⟨s₂, XT.i2c Y.here hx rfl (hb hby hd) rfl h1, h2⟩
theorem g_lcmp (K : Ctx X Z own nm code ml ret) {v w : Int64} (hd : decode code pc = .ok (.lcmp, 1)) (h : Go X r (pc + 1) L (.int (XT.cmpL v w) :: st) x) : Go X r pc L (.long w :: .long v :: st) x := by
  obtain ⟨p, l, e, R, s, m, args, below, meth, c, ad, INV, CE, n0, kc, ks⟩ := X
  obtain ⟨hx, hby, -⟩ := K
  intro T locs A Y N I LO
  obtain ⟨s₂, h1, h2⟩ := h T locs A Y N I LO
  exact ⟨s₂, XT.lcmp Y.here hx rfl (hb hby hd) rfl h1, h2⟩
theorem g_pop (K : Ctx X Z own nm code ml ret) {v : Value} (hd : decode code pc = .ok (.pop, 1)) (hc : v.category = 1) (h : Go X r (pc + 1) L (st) x) : Go X r pc L (v :: st) x := by
  obtain ⟨p, l, e, R, s, m, args, below, meth, c, ad, INV, CE, n0, kc, ks⟩ := X
  obtain ⟨hx, hby, -⟩ := K
  intro T locs A Y N I LO
  obtain ⟨s₂, h1, h2⟩ := h T locs A Y N I LO
  exact ⟨s₂, XT.pop Y.here hx rfl (hb hby hd) rfl ((up_cat _ _).trans hc) h1, h2⟩
theorem g_dup (K : Ctx X Z own nm code ml ret) {v : Value} (hd : decode code pc = .ok (.dup, 1)) (hc : v.category = 1) (h : Go X r (pc + 1) L (v :: v :: st) x) : Go X r pc L (v :: st) x := by
  obtain ⟨p, l, e, R, s, m, args, below, meth, c, ad, INV, CE, n0, kc, ks⟩ := X
  obtain ⟨hx, hby, -⟩ := K
  intro T locs A Y N I LO
  obtain ⟨s₂, h1, h2⟩ := h T locs A Y N I LO
  exact ⟨s₂, XS.dup Y.here hx rfl (hb hby hd) rfl ((up_cat _ _).trans hc) h1, h2⟩
theorem g_dup2 (K : Ctx X Z own nm code ml ret) {v w : Value} (hd : decode code pc = .ok (.dup2, 1)) (hc : v.category = 1) (hc' : w.category = 1) (h : Go X r (pc + 1) L (v :: w :: v :: w :: st) x) : Go X r pc L (v :: w :: st) x := by
  obtain ⟨p, l, e, R, s, m, args, below, meth, c, ad, INV, CE, n0, kc, ks⟩ := X
  obtain ⟨hx, hby, -⟩ := K
  intro T locs A Y N I LO
  obtain ⟨s₂, h1, h2⟩ := h T locs A Y N I LO
  exact ⟨s₂, XT.dup2 Y.here hx rfl (hb hby hd) rfl ((up_cat _ _).trans hc) ((up_cat _ _).trans hc') h1, h2⟩
theorem g_istoreN (K : Ctx X Z own nm code ml ret) {k : Fin 4} {v : Int32} (hd : decode code pc = .ok (.istore_n k, 1)) (hk : k.val < L.length) (hL : st1 L k.val (.int v) = L') (h : Go X r (pc + 1) L' (st) x) : Go X r pc L (.int v :: st) x := by
  obtain ⟨p, l, e, R, s, m, args, below, meth, c, ad, INV, CE, n0, kc, ks⟩ := X
  obtain ⟨hx, hby, -⟩ := K
  intro T locs A Y N I LO
  subst hL
  obtain ⟨A₁, hA₁, LO₁⟩ := loc_st1 LO hk (v := .int v) rfl
  obtain ⟨s₂, h1, h2⟩ := h T locs A₁ Y N I LO₁
  exact ⟨s₂, XS.istoreN Y.here hx rfl (hb hby hd) rfl hA₁ h1, h2⟩
theorem g_istore (K : Ctx X Z own nm code ml ret) {k : Nat} {v : Int32} (hd : decode code pc = .ok (.istore k, 2)) (hk : k < L.length) (hL : st1 L k (.int v) = L') (h : Go X r (pc + 2) L' (st) x) : Go X r pc L (.int v :: st) x := by
  obtain ⟨p, l, e, R, s, m, args, below, meth, c, ad, INV, CE, n0, kc, ks⟩ := X
  obtain ⟨hx, hby, -⟩ := K
  intro T locs A Y N I LO
  subst hL
  obtain ⟨A₁, hA₁, LO₁⟩ := loc_st1 LO hk (v := .int v) rfl
  obtain ⟨s₂, h1, h2⟩ := h T locs A₁ Y N I LO₁
  exact ⟨s₂, XS.istore Y.here hx rfl (hb hby hd) rfl hA₁ h1, h2⟩
theorem g_astoreN (K : Ctx X Z own nm code ml ret) {k : Fin 4} {v : Nat} (hd : decode code pc = .ok (.astore_n k, 1)) (hk : k.val < L.length) (hL : st1 L k.val (.ref v) = L') (h : Go X r (pc + 1) L' (st) x) : Go X r pc L (.ref v :: st) x := by
  obtain ⟨p, l, e, R, s, m, args, below, meth, c, ad, INV, CE, n0, kc, ks⟩ := X
  obtain ⟨hx, hby, -⟩ := K
  intro T locs A Y N I LO
  subst hL
  obtain ⟨A₁, hA₁, LO₁⟩ := loc_st1 LO hk (v := .ref v) rfl
  obtain ⟨s₂, h1, h2⟩ := h T locs A₁ Y N I LO₁
  exact ⟨s₂, XS.astoreN Y.here hx rfl (hb hby hd) rfl rfl hA₁ h1, h2⟩
theorem g_astore (K : Ctx X Z own nm code ml ret) {k : Nat} {v : Nat} (hd : decode code pc = .ok (.astore k, 2)) (hk : k < L.length) (hL : st1 L k (.ref v) = L') (h : Go X r (pc + 2) L' (st) x) : Go X r pc L (.ref v :: st) x := by
  obtain ⟨p, l, e, R, s, m, args, below, meth, c, ad, INV, CE, n0, kc, ks⟩ := X
  obtain ⟨hx, hby, -⟩ := K
  intro T locs A Y N I LO
  subst hL
  obtain ⟨A₁, hA₁, LO₁⟩ := loc_st1 LO hk (v := .ref v) rfl
  obtain ⟨s₂, h1, h2⟩ := h T locs A₁ Y N I LO₁
  exact ⟨s₂, XS.astore Y.here hx rfl (hb hby hd) rfl rfl hA₁ h1, h2⟩
theorem g_lstoreN (K : Ctx X Z own nm code ml ret) {k : Fin 4} {v : Int64} (hd : decode code pc = .ok (.lstore_n k, 1)) (hk : k.val + 1 < L.length) (hL : st2 L k.val (.long v) = L') (h : Go X r (pc + 1) L' (st) x) : Go X r pc L (.long v :: st) x := by
  obtain ⟨p, l, e, R, s, m, args, below, meth, c, ad, INV, CE, n0, kc, ks⟩ := X
  obtain ⟨hx, hby, -⟩ := K
  intro T locs A Y N I LO
  subst hL
  obtain ⟨A₁, hA₁, LO₁⟩ := loc_st2 LO hk (v := .long v) rfl
  obtain ⟨s₂, h1, h2⟩ := h T locs A₁ Y N I LO₁
  exact ⟨s₂, XT.lstoreN Y.here hx rfl (hb hby hd) rfl hA₁ h1, h2⟩
theorem g_lstore (K : Ctx X Z own nm code ml ret) {k : Nat} {v : Int64} (hd : decode code pc = .ok (.lstore k, 2)) (hk : k + 1 < L.length) (hL : st2 L k (.long v) = L') (h : Go X r (pc + 2) L' (st) x) : Go X r pc L (.long v :: st) x := by
  obtain ⟨p, l, e, R, s, m, args, below, meth, c, ad, INV, CE, n0, kc, ks⟩ := X
  obtain ⟨hx, hby, -⟩ := K
  intro T locs A Y N I LO
  subst hL
  obtain ⟨A₁, hA₁, LO₁⟩ := loc_st2 LO hk (v := .long v) rfl
  obtain ⟨s₂, h1, h2⟩ := h T locs A₁ Y N I LO₁
  exact ⟨s₂, XT.lstore Y.here hx rfl (hb hby hd) rfl hA₁ h1, h2⟩
theorem g_iinc (K : Ctx X Z own nm code ml ret) {k : Nat} {i : Int} {v w : Int32} (hd : decode code pc = .ok (.iinc k i, 3)) (hl : L[k]? = some (some (.int v))) (hv : Int32.ofInt i = w) (hL : st1 L k (.int (v + w)) = L') (h : Go X r (pc + 3) L' (st) x) : Go X r pc L (st) x := by
  obtain ⟨p, l, e, R, s, m, args, below, meth, c, ad, INV, CE, n0, kc, ks⟩ := X
  obtain ⟨hx, hby, -⟩ := K
  intro T locs A Y N I LO
  subst hL
  subst hv
  obtain ⟨A₁, hA₁, LO₁⟩ := loc_st1 LO (List.getElem?_eq_some_iff.mp hl).1 (v := .int (v + Int32.ofInt i)) rfl
  obtain ⟨s₂, h1, h2⟩ := h T locs A₁ Y N I LO₁
  exact ⟨s₂, XS.iinc Y.here hx rfl (hb hby hd) (LO.2.2 _ _ hl) hA₁ h1, h2⟩
theorem g_goto (K : Ctx X Z own nm code ml ret) {o : Int} {pc' : Nat} (hd : decode code pc = .ok (.goto o, 3)) (hp : (pc : Int) + o = (pc' : Nat)) (h : Go X r (pc') L (st) x) : Go X r pc L (st) x := by
  obtain ⟨p, l, e, R, s, m, args, below, meth, c, ad, INV, CE, n0, kc, ks⟩ := X
  obtain ⟨hx, hby, -⟩ := K
  intro T locs A Y N I LO
  have ho : 0 ≤ (pc : Int) + o := by omega
  have hq : ((pc : Int) + o).toNat = pc' := by omega
  have LO₁ := LO
  have ⟨A₁, hA₁⟩ : ∃ A₁, A₁ = A := ⟨_, rfl⟩
  subst hA₁
  obtain ⟨s₂, h1, h2⟩ := h T locs A₁ Y N I LO₁
  exact ⟨s₂, XS.goto Y.here hx rfl rfl (hb hby hd) ho hq h1, h2⟩
theorem g_ifT (K : Ctx X Z own nm code ml ret) {cd : ClassFile.Cond} {v : Int32} {o : Int} {pc' : Nat} (hd : decode code pc = .ok (.ifCond cd o, 3)) (hp : (pc : Int) + o = (pc' : Nat)) (hc : ifCond.holds cd v = true) (h : Go X r (pc') L (st) x) : Go X r pc L (.int v :: st) x := by
  obtain ⟨p, l, e, R, s, m, args, below, meth, c, ad, INV, CE, n0, kc, ks⟩ := X
  obtain ⟨hx, hby, -⟩ := K
  intro T locs A Y N I LO
  have ho : 0 ≤ (pc : Int) + o := by omega
  have hq : ((pc : Int) + o).toNat = pc' := by omega
  have LO₁ := LO
  have ⟨A₁, hA₁⟩ : ∃ A₁, A₁ = A := ⟨_, rfl⟩
  subst hA₁
  obtain ⟨s₂, h1, h2⟩ := h T locs A₁ Y N I LO₁
  exact ⟨s₂, XS.ifYes Y.here hx rfl rfl (hb hby hd) rfl hc ho hq h1, h2⟩
theorem g_ifF (K : Ctx X Z own nm code ml ret) {cd : ClassFile.Cond} {v : Int32} {o : Int} (hd : decode code pc = .ok (.ifCond cd o, 3)) (hc : ifCond.holds cd v = false) (h : Go X r (pc + 3) L (st) x) : Go X r pc L (.int v :: st) x := by
  obtain ⟨p, l, e, R, s, m, args, below, meth, c, ad, INV, CE, n0, kc, ks⟩ := X
  obtain ⟨hx, hby, -⟩ := K
  intro T locs A Y N I LO
  obtain ⟨s₂, h1, h2⟩ := h T locs A Y N I LO
  exact ⟨s₂, XS.ifNo Y.here hx rfl (hb hby hd) rfl hc h1, h2⟩
theorem g_icT (K : Ctx X Z own nm code ml ret) {cd : ClassFile.Cond} {v w : Int32} {o : Int} {pc' : Nat} (hd : decode code pc = .ok (.if_icmp cd o, 3)) (hp : (pc : Int) + o = (pc' : Nat)) (hc : if_icmp.holds cd v w = true) (h : Go X r (pc') L (st) x) : Go X r pc L (.int w :: .int v :: st) x := by
  obtain ⟨p, l, e, R, s, m, args, below, meth, c, ad, INV, CE, n0, kc, ks⟩ := X
  obtain ⟨hx, hby, -⟩ := K
  intro T locs A Y N I LO
  have ho : 0 ≤ (pc : Int) + o := by omega
  have hq : ((pc : Int) + o).toNat = pc' := by omega
  have LO₁ := LO
  have ⟨A₁, hA₁⟩ : ∃ A₁, A₁ = A := ⟨_, rfl⟩
  subst hA₁
  obtain ⟨s₂, h1, h2⟩ := h T locs A₁ Y N I LO₁
  exact ⟨s₂, XS.icmpYes Y.here hx rfl rfl (hb hby hd) rfl hc ho hq h1, h2⟩
theorem g_icF (K : Ctx X Z own nm code ml ret) {cd : ClassFile.Cond} {v w : Int32} {o : Int} (hd : decode code pc = .ok (.if_icmp cd o, 3)) (hc : if_icmp.holds cd v w = false) (h : Go X r (pc + 3) L (st) x) : Go X r pc L (.int w :: .int v :: st) x := by
  obtain ⟨p, l, e, R, s, m, args, below, meth, c, ad, INV, CE, n0, kc, ks⟩ := X
  obtain ⟨hx, hby, -⟩ := K
  intro T locs A Y N I LO
  obtain ⟨s₂, h1, h2⟩ := h T locs A Y N I LO
  exact ⟨s₂, XS.icmpNo Y.here hx rfl (hb hby hd) rfl hc h1, h2⟩
theorem g_tswIn (K : Ctx X Z own nm code ml ret) {df lo hi : Int} {offs : Array Int} {len : Nat} {v : Int32} {o : Int} {pc' : Nat} (hd : decode code pc = .ok (.tableswitch df lo hi offs, len)) (hi' : ¬ (v.toInt < lo ∨ v.toInt > hi)) (hoff : offs[(v.toInt - lo).toNat]? = some o) (hp : (pc : Int) + o = (pc' : Nat)) (h : Go X r (pc') L (st) x) : Go X r pc L (.int v :: st) x := by
  obtain ⟨p, l, e, R, s, m, args, below, meth, c, ad, INV, CE, n0, kc, ks⟩ := X
  obtain ⟨hx, hby, -⟩ := K
  intro T locs A Y N I LO
  have ho : 0 ≤ (pc : Int) + o := by omega
  have hq : ((pc : Int) + o).toNat = pc' := by omega
  have LO₁ := LO
  have ⟨A₁, hA₁⟩ : ∃ A₁, A₁ = A := ⟨_, rfl⟩
  subst hA₁
  obtain ⟨s₂, h1, h2⟩ := h T locs A₁ Y N I LO₁
  exact ⟨s₂, XS.tswIn Y.here hx rfl rfl (hb hby hd) rfl hi' hoff ho hq h1, h2⟩
theorem g_tswOut (K : Ctx X Z own nm code ml ret) {df lo hi : Int} {offs : Array Int} {len : Nat} {v : Int32} {pc' : Nat} (hd : decode code pc = .ok (.tableswitch df lo hi offs, len)) (hi' : v.toInt < lo ∨ v.toInt > hi) (hp : (pc : Int) + df = (pc' : Nat)) (h : Go X r (pc') L (st) x) : Go X r pc L (.int v :: st) x := by
  obtain ⟨p, l, e, R, s, m, args, below, meth, c, ad, INV, CE, n0, kc, ks⟩ := X
  obtain ⟨hx, hby, -⟩ := K
  intro T locs A Y N I LO
  have ho : 0 ≤ (pc : Int) + df := by omega
  have hq : ((pc : Int) + df).toNat = pc' := by omega
  have LO₁ := LO
  have ⟨A₁, hA₁⟩ : ∃ A₁, A₁ = A := ⟨_, rfl⟩
  subst hA₁
  obtain ⟨s₂, h1, h2⟩ := h T locs A₁ Y N I LO₁
  exact ⟨s₂, XS.tswOut Y.here hx rfl rfl (hb hby hd) rfl hi' ho hq h1, h2⟩
end Rules
section Rules2
variable {S : Type} {X : Cx S} {Z : State} {own nm : String} {code : ByteArray} {ml : Nat} {ret : Option FieldType} {r : Option Value × S} {pc : Nat} {L L' : List (Option Value)} {st : List Value} {x : S}
theorem g_less (h : Go X r pc L' st x) (q : lessB L' L) : Go X r pc L st x := by
  obtain ⟨p, l, e, R, s, m, args, below, meth, c, ad, INV, CE, n0, kc, ks⟩ := X
  intro T locs A Y N I LO
  exact h T locs A Y N I (LO.less q.less)
theorem retI {p : Program} {l : Launch} {e : Env} {R : Room} {s : State} {m : MethodId} {args : Array Value} {below : List Frame} {meth : Method} {c : Code} {T : State} {locs : List Loc} {cells slots : Nat}
    (X : Stand p l e R s m args below meth c T locs cells slots) (hx : p.tables.exec = Jvm.exec) {pc : Nat} {Ls : Array Slot} {z : Int32} {rest : List Value} (hret : meth.sig.returnType = some .int) (hd : decode c.code pc = .ok (.ireturn, 1)) {fs : List Frame}
    (hl : ∀ (f : JFrame) (acts : List Action), f.method = m → f.locked = none → f.entered = [] → (doReturn e (T.setTop f) acts (some (.int z))).1 = T.setFrames fs) : Steps p.tables e below (T.setTop (mkF m pc Ls (.int z :: rest))) (T.setFrames fs) := by
  have hm' : T.vm.method? m = some meth := X.method'
  have hn : narrow .int (.int z) = .int z := rfl
  show Steps p.tables e below (T.setTop { method := m, pc := pc, locals := Ls, stack := _ :: rest, locked := none }) _
  jvm_step X.here [X.here.top, hx, hd, hm', hret, hn]
  first | (intro acts; rw [hl _ acts rfl rfl rfl]) | rw [hl _ _ rfl rfl rfl]
  exact Steps.refl _
/-- the figures of the frame -/
def Cap (X : Cx S) (x : S) : Prop :=
  match X with
  | (p, l, e, R, s, m, args, below, meth, c, ad, INV, CE, n0, kc, ks) => (CE x).1 ≤ kc ∧ (CE x).2 ≤ ks
theorem g_ireturn (K : Ctx X Z own nm code ml (some .int)) {v : Int32} (hd : decode code pc = .ok (.ireturn, 1)) (hk : Cap X x) : Go X (some (.int v), x) pc L (.int v :: st) x := by
  obtain ⟨p, l, e, R, s, m, args, below, meth, c, ad, INV, CE, n0, kc, ks⟩ := X
  obtain ⟨hx, hby, -, -, -, hret, hlk, -⟩ := K
  intro T locs A Y N I LO
  obtain ⟨fs, hr, hrun, hended, hW, hsame⟩ := Y.leave (v := some (.int v)) (fun h => by rw [hret] at h; cases h) hlk
  exact ⟨_, retI Y hx hret (hb hby hd) hr, hrun, hended, I, locs, N, hW, hsame.mono hk.1 hk.2⟩
theorem g_ireturnN (K : Ctx X Z own nm code ml ret) {v w : Int32} {t : FieldType} (hret' : ret = some t) (ht : t = .boolean ∨ t = .byte ∨ t = .char ∨ t = .short) (hd : decode code pc = .ok (.ireturn, 1)) (hw : nar t v = w) (hk : Cap X x) : Go X (some (.int w), x) pc L (.int v :: st) x := by
  obtain ⟨p, l, e, R, s, m, args, below, meth, c, ad, INV, CE, n0, kc, ks⟩ := X
  subst hret'
  subst hw
  obtain ⟨hx, hby, -, -, -, hret, hlk, -⟩ := K
  intro T locs A Y N I LO
  obtain ⟨fs, hr, hrun, hended, hW, hsame⟩ := Y.leave (v := some (.int (nar t v))) (fun h => by rw [hret] at h; cases h) hlk
  exact ⟨_, retN Y hx hret ht (hb hby hd) hr, hrun, hended, I, locs, N, hW, hsame.mono hk.1 hk.2⟩
theorem g_lreturn (K : Ctx X Z own nm code ml (some .long)) {v : Int64} (hd : decode code pc = .ok (.lreturn, 1)) (hk : Cap X x) : Go X (some (.long v), x) pc L [.long v] x := by
  obtain ⟨p, l, e, R, s, m, args, below, meth, c, ad, INV, CE, n0, kc, ks⟩ := X
  obtain ⟨hx, hby, -, -, -, hret, hlk, -⟩ := K
  intro T locs A Y N I LO
  obtain ⟨fs, hr, hrun, hended, hW, hsame⟩ := Y.leave (v := some (.long v)) (fun h => by rw [hret] at h; cases h) hlk
  exact ⟨_, Y.lreturnOut hx hret (hb hby hd) hr, hrun, hended, I, locs, N, hW, hsame.mono hk.1 hk.2⟩
theorem g_return (K : Ctx X Z own nm code ml none) (hd : decode code pc = .ok (.return_, 1)) (hk : Cap X x) : Go X (none, x) pc L [] x := by
  obtain ⟨p, l, e, R, s, m, args, below, meth, c, ad, INV, CE, n0, kc, ks⟩ := X
  obtain ⟨hx, hby, -, -, -, hret, hlk, -⟩ := K
  intro T locs A Y N I LO
  obtain ⟨fs, hr, hrun, hended, hW, hsame⟩ := Y.leave (v := none) (fun _ => rfl) hlk
  exact ⟨_, Y.returnOut hx hret (hb hby hd) hr, hrun, hended, I, locs, N, hW, hsame.mono hk.1 hk.2⟩
theorem g_ldc {a0 : Array Value} (K : Ctx X Z own nm code ml ret) {idx : Nat} {v : Int32} (hd : decode code pc = .ok (.ldc idx, 2)) (w : (Cond.constant own idx v).before a0 Z = true) (h : Go X r (pc + 2) L (.int v :: st) x) : Go X r pc L st x := by
  obtain ⟨p, l, e, R, s, m, args, below, meth, c, ad, INV, CE, n0, kc, ks⟩ := X
  obtain ⟨hx, hby, -, hown, hZ, -⟩ := K
  intro T locs A Y N I LO
  obtain ⟨s₂, h1, h2⟩ := h T locs A Y N I LO
  exact ⟨s₂, Y.ldcI hx hown (mv hZ w) rfl (hb hby hd) h1, h2⟩
theorem g_ldcw {a0 : Array Value} (K : Ctx X Z own nm code ml ret) {idx : Nat} {v : Int32} (hd : decode code pc = .ok (.ldc_w idx, 3)) (w : (Cond.constant own idx v).before a0 Z = true) (h : Go X r (pc + 3) L (.int v :: st) x) : Go X r pc L st x := by
  obtain ⟨p, l, e, R, s, m, args, below, meth, c, ad, INV, CE, n0, kc, ks⟩ := X
  obtain ⟨hx, hby, -, hown, hZ, -⟩ := K
  intro T locs A Y N I LO
  obtain ⟨s₂, h1, h2⟩ := h T locs A Y N I LO
  exact ⟨s₂, Y.ldcWI hx hown (mv hZ w) rfl (hb hby hd) h1, h2⟩
theorem g_ldc2 {a0 : Array Value} (K : Ctx X Z own nm code ml ret) {idx : Nat} {v : Int64} (hd : decode code pc = .ok (.ldc2_w idx, 3)) (w : (Cond.constantLong own idx v).before a0 Z = true) (h : Go X r (pc + 3) L (.long v :: st) x) : Go X r pc L st x := by
  obtain ⟨p, l, e, R, s, m, args, below, meth, c, ad, INV, CE, n0, kc, ks⟩ := X
  obtain ⟨hx, hby, -, hown, hZ, -⟩ := K
  intro T locs A Y N I LO
  obtain ⟨s₂, h1, h2⟩ := h T locs A Y N I LO
  exact ⟨s₂, Y.ldc2J hx hown (mv hZ w) rfl (hb hby hd) h1, h2⟩
end Rules2
/-! ## 4. one object: what stands in the heap -/
abbrev FSpec : Type := Nat × String × String × Nat
abbrev ASpec : Type := Nat × FieldType × Nat
def fval (a : Nat) (j : Nat) (σ : St) (f : FSpec) : Value :=
  match f.2.2.2 with
  | 0 => .int (gI σ f.1)
  | 1 => .long (gL σ f.1)
  | _ => if f.1 ≤ j then .ref (a + f.1) else .null
def ArI (Z : State) (h : Heap) (b : Nat) (ty : FieldType) (n : Nat) (g : Int → Int32) : Prop := ∃ c : Cell, Arr Z h b c ty ∧ c.slots.size = n ∧ ∀ i : Nat, i < n → c.slots[i]? = some (.int (g (i : Int)))
def Rep (Z : State) (C : String) (FS : List FSpec) (FA : List ASpec) (a : Nat) (j : Nat) (h : Heap) (σ : St) : Prop :=
  Exa Z h a C ∧ (∀ f ∈ FS, Fld Z h a C f.2.1 f.2.2.1 (fval a j σ f)) ∧ ∀ q ∈ FA, q.1 ≤ j → ArI Z h (a + q.1) q.2.1 q.2.2 (gA σ q.1)
def LayW (Z : State) (a0 : Array Value) (C : String) (FS : List FSpec) (kk : Nat) : Prop := (∀ f ∈ FS, Laid Z a0 C C f.2.1 f.2.2.1) ∧ (Cond.instantiable C kk).before a0 Z = true ∧ (Cond.initialized C).before a0 Z = true
/-- the layout is sound: names and numbers unlike, descriptors read, arrays numbered from 1 -/
def layGood (FS : List FSpec) (FA : List ASpec) (nA : Nat) : Bool :=
  decide ((FS.map fun f => f.2.1).Nodup) && decide ((FS.map fun f => f.1).Nodup) && decide ((FA.map fun q => q.1).Nodup) &&
  FS.all (fun f => decide ((parseFieldDescriptor f.2.2.1).map defaultValue = some (fval 0 0 z0 f)) && (f.2.2.2 != 2 || decide (1 ≤ f.1))) &&
  FA.all (fun q => decide (1 ≤ q.1) && decide (q.1 ≤ nA) && decide (q.2.2 < 2 ^ 31))
theorem nodup_key {α β : Type} {f : α → β} : ∀ {l : List α}, (l.map f).Nodup → ∀ {x y : α}, x ∈ l → y ∈ l → f x = f y → x = y
  | [], _, _, _, hx, _, _ => nomatch hx
  | a :: l, h, x, y, hx, hy, e => by
    rw [List.map_cons, List.nodup_cons] at h
    rcases List.mem_cons.mp hx with rfl | hx' <;> rcases List.mem_cons.mp hy with rfl | hy'
    · rfl
    · exact absurd (List.mem_map.mpr ⟨y, hy', e.symm⟩) h.1
    · exact absurd (List.mem_map.mpr ⟨x, hx', e⟩) h.1
    · exact nodup_key h.2 hx' hy' e
section One
variable {Z : State} {a0 : Array Value} {C : String} {FS : List FSpec} {FA : List ASpec} {a : Nat} {j kk nA : Nat} {h h' : Heap} {σ : St}
theorem lay_names (G : layGood FS FA nA = true) {f g : FSpec} (hf : f ∈ FS) (hg : g ∈ FS) (e : f.2.1 = g.2.1) : f = g := by
  simp only [layGood, Bool.and_eq_true, decide_eq_true_eq] at G
  exact nodup_key G.1.1.1.1 hf hg e
theorem lay_keys (G : layGood FS FA nA = true) {f g : FSpec} (hf : f ∈ FS) (hg : g ∈ FS) (e : f.1 = g.1) : f = g := by
  simp only [layGood, Bool.and_eq_true, decide_eq_true_eq] at G
  exact nodup_key G.1.1.1.2 hf hg e
theorem lay_arr (G : layGood FS FA nA = true) {f g : ASpec} (hf : f ∈ FA) (hg : g ∈ FA) (e : f.1 = g.1) : f = g := by
  simp only [layGood, Bool.and_eq_true, decide_eq_true_eq] at G
  exact nodup_key G.1.1.2 hf hg e
theorem lay_desc (G : layGood FS FA nA = true) {f : FSpec} (hf : f ∈ FS) : ∃ t, parseFieldDescriptor f.2.2.1 = some t ∧ defaultValue t = fval 0 0 z0 f := by
  simp only [layGood, Bool.and_eq_true, decide_eq_true_eq] at G
  have q := List.all_eq_true.mp G.1.2 f hf
  simp only [Bool.and_eq_true, decide_eq_true_eq, Option.map_eq_some_iff] at q
  exact q.1
theorem lay_one (G : layGood FS FA nA = true) {f : FSpec} (hf : f ∈ FS) (hk : f.2.2.2 = 2) : 1 ≤ f.1 := by
  simp only [layGood, Bool.and_eq_true, decide_eq_true_eq] at G
  have q := List.all_eq_true.mp G.1.2 f hf
  simp only [Bool.and_eq_true, Bool.or_eq_true, bne_iff_ne, ne_eq, decide_eq_true_eq] at q
  exact q.2.resolve_left (fun z => z hk)
theorem lay_pos (G : layGood FS FA nA = true) {q : ASpec} (hq : q ∈ FA) : 1 ≤ q.1 ∧ q.1 ≤ nA ∧ q.2.2 < 2 ^ 31 := by
  simp only [layGood, Bool.and_eq_true, decide_eq_true_eq] at G
  have := List.all_eq_true.mp G.2 q hq
  simp only [Bool.and_eq_true, decide_eq_true_eq] at this
  exact ⟨this.1.1, this.1.2, this.2⟩
theorem ArI.other {b : Nat} {ty : FieldType} {n sl : Nat} {v : Value} {g : Int → Int32} {x : Nat} (F : ArI Z h b ty n g) (W : Wr h h' x sl v) (q : b ≠ x) : ArI Z h' b ty n g := by
  obtain ⟨c, A, r⟩ := F; exact ⟨c, A.other W q, r⟩
theorem ArI.keep {b : Nat} {ty : FieldType} {n : Nat} {g : Int → Int32} {ws : List Addr} (F : ArI Z h b ty n g) (K : Keep h h' ws) (q : b ∉ ws) : ArI Z h' b ty n g := by
  obtain ⟨c, A, r⟩ := F; exact ⟨c, ⟨K.2.1 b c A.1 q, A.2⟩, r⟩
theorem ArI.ext {b : Nat} {ty : FieldType} {n : Nat} {g : Int → Int32} (F : ArI Z h b ty n g) (E : Ext h h') : ArI Z h' b ty n g := by
  obtain ⟨c, A, r⟩ := F; exact ⟨c, A.ext E, r⟩
/-- a field is written -/
theorem Rep.put (G : layGood FS FA nA = true) (hL : LayW Z a0 C FS kk) (Rp : Rep Z C FS FA a j h σ) {f : FSpec} (hf : f ∈ FS) {v : Value} (W : Wr h h' a (RoadKit.slotOf Z C f.2.1 f.2.2.1) v) {j' : Nat} {σ' : St}
    (hv : fval a j' σ' f = v) (ho : ∀ g ∈ FS, g ≠ f → fval a j' σ' g = fval a j σ g) (hA : ∀ q ∈ FA, q.1 ≤ j' → ArI Z h (a + q.1) q.2.1 q.2.2 (gA σ' q.1)) : Rep Z C FS FA a j' h' σ' := by
  obtain ⟨r1, r2, r3⟩ := Rp
  refine ⟨r1.wr W, fun g hg => ?_, fun q hq hqj => (hA q hq hqj).other W (by have := (lay_pos G hq).1; omega)⟩
  by_cases e : g = f
  · subst e; rw [hv]; exact (r2 g hg).same W
  · rw [ho g hg e]
    obtain ⟨t, ht, -⟩ := lay_desc G hg
    obtain ⟨t', ht', -⟩ := lay_desc G hf
    exact (r2 g hg).other W (Or.inr (slot_ne (hL.1 g hg) (hL.1 f hf) (fun z => e (lay_names G hg hf z)) ht ht'))
theorem Rep.putI (G : layGood FS FA nA = true) (hL : LayW Z a0 C FS kk) (Rp : Rep Z C FS FA a j h σ) {k : Nat} {n d : String} (hf : (k, n, d, 0) ∈ FS) {v : Int32} (W : Wr h h' a (RoadKit.slotOf Z C n d) (.int v)) : Rep Z C FS FA a j h' (sI σ k v) := by
  refine Rp.put G hL hf W (by simp [fval, gI_sI]) (fun g hg ne => ?_) Rp.2.2
  have hk : g.1 ≠ k := fun z => ne (lay_keys G hg hf z)
  unfold fval
  split <;> simp [gI_sI, gL_sI, hk]
theorem Rep.putL (G : layGood FS FA nA = true) (hL : LayW Z a0 C FS kk) (Rp : Rep Z C FS FA a j h σ) {k : Nat} {n d : String} (hf : (k, n, d, 1) ∈ FS) {v : Int64} (W : Wr h h' a (RoadKit.slotOf Z C n d) (.long v)) : Rep Z C FS FA a j h' (sL σ k v) := by
  refine Rp.put G hL hf W (by simp [fval, gL_sL]) (fun g hg ne => ?_) Rp.2.2
  have hk : g.1 ≠ k := fun z => ne (lay_keys G hg hf z)
  unfold fval
  split <;> simp [gI_sL, gL_sL, hk]
/-- an array's component is written -/
theorem Rep.set (G : layGood FS FA nA = true) (Rp : Rep Z C FS FA a j h σ) {k : Nat} {ty : FieldType} {n : Nat} (hq : (k, ty, n) ∈ FA) (hk : k ≤ j) {i : Int32} (h0 : 0 ≤ i.toInt) (h1 : i.toInt < n) {v : Int32} (W : Wr h h' (a + k) i.toNatClampNeg (.int v)) : Rep Z C FS FA a j h' (sA σ k i.toInt v) := by
  obtain ⟨r1, r2, r3⟩ := Rp
  have hp := (lay_pos G hq).1
  refine ⟨r1.wr W, fun g hg => ?_, fun q hq' hqj => ?_⟩
  · have e : fval a j (sA σ k i.toInt v) g = fval a j σ g := by unfold fval; split <;> simp [gI_sA, gL_sA]
    rw [e]; exact (r2 g hg).other W (Or.inl (Nat.ne_of_lt (Nat.lt_add_of_pos_right hp)))
  · by_cases e : q.1 = k
    · have := lay_arr G hq' hq e
      subst this
      obtain ⟨c, A, s1, s2⟩ := r3 _ hq' hqj
      refine ⟨_, A.same W, by rw [sz_set]; exact s1, fun x hx => ?_⟩
      simp only [gA_sA, true_and]
      have hi : (i.toNatClampNeg : Int) = i.toInt := by simp only [Int32.toNatClampNeg]; omega
      by_cases u : (x : Int) = i.toInt
      · have : i.toNatClampNeg = x := by omega
        subst this
        simp only [hi, if_true]
        simp [Cell.setSlot, s1, hx]
      · have : i.toNatClampNeg ≠ x := by omega
        simp only [u, if_false]
        simp only [Cell.setSlot]
        rw [Array.getElem?_setIfInBounds_ne this]; exact s2 x hx
    · have eq : gA (sA σ k i.toInt v) q.1 = gA σ q.1 := by funext y; simp [gA_sA, e]
      rw [eq]; exact (r3 q hq' hqj).other W (by omega)
theorem Rep.keep (Rp : Rep Z C FS FA a j h σ) {ws : List Addr} (K : Keep h h' ws) (q : ∀ k, a + k ∉ ws) : Rep Z C FS FA a j h' σ := by
  obtain ⟨r1, r2, r3⟩ := Rp
  exact ⟨r1.keep K, fun f hf => (r2 f hf).keep K (q 0), fun x hx hj => (r3 x hx hj).keep K (q _)⟩
theorem Rep.ext (Rp : Rep Z C FS FA a j h σ) (E : Ext h h') : Rep Z C FS FA a j h' σ := by
  obtain ⟨r1, r2, r3⟩ := Rp
  exact ⟨r1.ext E, fun f hf => (r2 f hf).ext E, fun x hx hj => (r3 x hx hj).ext E⟩
theorem Rep.keep' (G : layGood FS FA nA = true) (Rp : Rep Z C FS FA a j h σ) {ws : List Addr} (K : Keep h h' ws) (q : ∀ k, k ≤ nA → a + k ∉ ws) : Rep Z C FS FA a j h' σ := by
  obtain ⟨r1, r2, r3⟩ := Rp
  exact ⟨r1.keep K, fun f hf => (r2 f hf).keep K (q 0 (Nat.zero_le _)), fun x hx hj => (r3 x hx hj).keep K (q _ (lay_pos G hx).2.1)⟩
end One
/-! ## 5. the rules of a method's body that works on its own object ('this' is reference 0, its arrays 1, 2 ..) -/
def wsOf (a : Nat) (nA : Nat) : List Addr := (List.range (nA + 1)).map fun k => a + k
theorem mem_ws {a : Nat} {nA k : Nat} (h : k ≤ nA) : a + k ∈ wsOf a nA := List.mem_map.mpr ⟨k, List.mem_range.mpr (by omega), rfl⟩
theorem of_ws {a x : Nat} {nA : Nat} (h : x ∈ wsOf a nA) : a ≤ x ∧ x ≤ a + nA := by
  obtain ⟨k, hk, rfl⟩ := List.mem_map.mp h
  have := List.mem_range.mp hk; omega
def INVc (Z : State) (C : String) (FS : List FSpec) (FA : List ASpec) (nA : Nat) (a : Nat) (h0 : Heap) (ce : Nat → Nat × Nat) : St × Nat → Heap → Prop := fun x h => Rep Z C FS FA a x.2 h x.1 ∧ Keep h0 h (wsOf a nA) ∧ h.size = h0.size + (ce x.2).1
def CtxC (X : Cx (St × Nat)) (Z : State) (a0 : Array Value) (C : String) (FS : List FSpec) (FA : List ASpec) (nA kk : Nat) (l0 : Launch) (n1 : Nat) (a : Nat) (h0 : Heap) (ce : Nat → Nat × Nat) (rm : Room) (nm : String) (code : ByteArray) (ml : Nat) (ret : Option FieldType) : Prop :=
  Ctx X Z C nm code ml ret ∧ LayW Z a0 C FS kk ∧ layGood FS FA nA = true ∧
  match X with
  | (p, l, e, R, s, m, args, below, meth, c, ad, INV, CE, n0, kc, ks) => ad = (fun k => a + k) ∧ INV = INVc Z C FS FA nA a h0 ce ∧ CE = (fun x => ce x.2) ∧ n0 = n1 ∧ n1 ≤ a ∧ l = l0 ∧ R = rm ∧ kc = rm.cells ∧ ks = rm.slots ∧ ce nA = (rm.cells, rm.slots) ∧ s.heap = h0
theorem fits_int (v : Int32) : fits .int (.int v) = true := rfl
theorem fits_bool (v : Int32) : fits .boolean (.int (nar .boolean v)) = true := by
  simp only [fits, nar, Bool.or_eq_true, beq_iff_eq]
  have h := c_mask v 1 1 (by decide) (by decide)
  have h2 : v.toInt % 2 = 0 ∨ v.toInt % 2 = 1 := by omega
  rcases h2 with q | q
  · left; apply Int32.toInt_inj.mp; rw [h]; simpa using q
  · right; apply Int32.toInt_inj.mp; rw [h]; simpa using q
section RulesC
variable {X : Cx (St × Nat)} {Z : State} {a0 : Array Value} {C : String} {FS : List FSpec} {FA : List ASpec} {nA kk : Nat} {l0 : Launch} {n1 : Nat} {a : Nat} {h0 : Heap} {ce : Nat → Nat × Nat} {rm : Room} {nm : String} {code : ByteArray} {ml : Nat} {ret : Option FieldType} {r : Option Value × (St × Nat)} {pc : Nat} {L : List (Option Value)} {st : List Value} {σ : St} {j : Nat}
theorem capC (K : CtxC X Z a0 C FS FA nA kk l0 n1 a h0 ce rm nm code ml ret) : Cap X (σ, nA) := by
  obtain ⟨p, l, e, R, s, m, args, below, meth, c, ad, INV, CE, n0, kc, ks⟩ := X
  obtain ⟨-, -, -, rfl, rfl, rfl, rfl, -, rfl, rfl, rfl, rfl, hce, hs0⟩ := K
  show (ce nA).1 ≤ _ ∧ (ce nA).2 ≤ _
  rw [hce]; exact ⟨Nat.le_refl _, Nat.le_refl _⟩
theorem ctx_le (K : CtxC X Z a0 C FS FA nA kk l0 n1 a h0 ce rm nm code ml ret) : n1 ≤ a := by
  obtain ⟨p, l, e, R, s, m, args, below, meth, c, ad, INV, CE, n0, kc, ks⟩ := X
  obtain ⟨-, -, -, rfl, rfl, rfl, rfl, hn, -⟩ := K
  exact hn
theorem g_getX (K : CtxC X Z a0 C FS FA nA kk l0 n1 a h0 ce rm nm code ml ret) {idx k : Nat} {n d : String} {q : Nat} (hd : decode code pc = .ok (.getfield idx, 3)) (w : (Cond.fieldLink C idx C n d).before a0 Z = true) (hf : (k, n, d, q) ∈ FS) {v : Value} (hv : up (fun k => a + k) v = fval a j σ (k, n, d, q))
    (h : Go X r (pc + 3) L (v :: st) (σ, j)) : Go X r pc L (.ref 0 :: st) (σ, j) := by
  obtain ⟨p, l, e, R, s, m, args, below, meth, c, ad, INV, CE, n0, kc, ks⟩ := X
  obtain ⟨⟨hx, hby, -, hown, hZ, -⟩, hL, G, rfl, rfl, rfl, rfl, hn, rfl, rfl, rfl, rfl, hce, hs0⟩ := K
  intro T locs A Y N I LO
  obtain ⟨T', Y', e', st'⟩ := getF Y hx hZ hown (host := "") (Or.inl w) Via.refl rfl (I.1.2.1 _ hf) (g := mkF m pc A ((Value.ref 0 :: st).map (up fun k => a + k))) rfl rfl (hb hby hd)
  obtain ⟨s₂, h1, h2⟩ := h T' locs A Y' N (by rw [e']; exact I) LO
  refine ⟨s₂, st' _ ?_, h2⟩
  rw [List.map_cons, hv] at h1
  exact h1
theorem g_getI (K : CtxC X Z a0 C FS FA nA kk l0 n1 a h0 ce rm nm code ml ret) {idx k : Nat} {n d : String} (hd : decode code pc = .ok (.getfield idx, 3)) (w : (Cond.fieldLink C idx C n d).before a0 Z = true) (hf : (k, n, d, 0) ∈ FS)
    (h : Go X r (pc + 3) L (.int (gI σ k) :: st) (σ, j)) : Go X r pc L (.ref 0 :: st) (σ, j) := g_getX K hd w hf rfl h
theorem g_getL (K : CtxC X Z a0 C FS FA nA kk l0 n1 a h0 ce rm nm code ml ret) {idx k : Nat} {n d : String} (hd : decode code pc = .ok (.getfield idx, 3)) (w : (Cond.fieldLink C idx C n d).before a0 Z = true) (hf : (k, n, d, 1) ∈ FS)
    (h : Go X r (pc + 3) L (.long (gL σ k) :: st) (σ, j)) : Go X r pc L (.ref 0 :: st) (σ, j) := g_getX K hd w hf rfl h
theorem g_getA (K : CtxC X Z a0 C FS FA nA kk l0 n1 a h0 ce rm nm code ml ret) {idx k : Nat} {n d : String} (hd : decode code pc = .ok (.getfield idx, 3)) (w : (Cond.fieldLink C idx C n d).before a0 Z = true) (hf : (k, n, d, 2) ∈ FS) (hk : Nat.ble k j = true)
    (h : Go X r (pc + 3) L (.ref k :: st) (σ, j)) : Go X r pc L (.ref 0 :: st) (σ, j) := g_getX K hd w hf (by simp [up, fval, Nat.le_of_ble_eq_true hk]) h
theorem g_putI (K : CtxC X Z a0 C FS FA nA kk l0 n1 a h0 ce rm nm code ml ret) {idx k : Nat} {n d : String} {t : FieldType} (hd : decode code pc = .ok (.putfield idx, 3)) (w : (Cond.fieldLink C idx C n d).before a0 Z = true) (hf : (k, n, d, 0) ∈ FS)
    (wl : (Cond.lays C C n d).before a0 Z = true ∨ ((Cond.laysFinal C C n d).before a0 Z = true ∧ nm = "<init>")) (ht : parseFieldDescriptor d = some t) {v v' : Int32} (hn : narrow t (.int v) = .int v') (hfi : fits t (.int v') = true)
    (h : Go X r (pc + 3) L st (sI σ k v', j)) : Go X r pc L (.int v :: .ref 0 :: st) (σ, j) := by
  obtain ⟨p, l, e, R, s, m, args, below, meth, c, ad, INV, CE, n0, kc, ks⟩ := X
  obtain ⟨⟨hx, hby, -, hown, hZ, -, -, hnm⟩, hL, G, rfl, rfl, rfl, rfl, hge, rfl, rfl, rfl, rfl, hce, hs0⟩ := K
  intro T locs A Y N I LO
  obtain ⟨T', h', Y', e', W, st'⟩ := putFN Y hx hZ hown w Via.refl rfl (I.1.2.1 _ hf) I.1.1 (wl.imp id fun q => ⟨q.1, rfl, hnm.trans q.2⟩) hL.2.1 ht hn hfi (g := mkF m pc A ((Value.int v :: .ref 0 :: st).map (up fun k => a + k))) rfl rfl (hb hby hd)
  obtain ⟨s₂, h1, h2⟩ := h T' _ A Y' (N.app fun y hy => by cases List.mem_singleton.mp hy; exact hge) (by rw [e']; exact ⟨I.1.putI G hL hf W, I.2.1.wr W (Or.inl (mem_ws (k := 0) (Nat.zero_le _))), by rw [W.size]; exact I.2.2⟩) LO
  exact ⟨s₂, st' _ h1, h2⟩
theorem g_putL (K : CtxC X Z a0 C FS FA nA kk l0 n1 a h0 ce rm nm code ml ret) {idx k : Nat} {n d : String} (hd : decode code pc = .ok (.putfield idx, 3)) (w : (Cond.fieldLink C idx C n d).before a0 Z = true) (hf : (k, n, d, 1) ∈ FS)
    (wl : (Cond.lays C C n d).before a0 Z = true ∨ ((Cond.laysFinal C C n d).before a0 Z = true ∧ nm = "<init>")) (ht : parseFieldDescriptor d = some .long) {v : Int64}
    (h : Go X r (pc + 3) L st (sL σ k v, j)) : Go X r pc L (.long v :: .ref 0 :: st) (σ, j) := by
  obtain ⟨p, l, e, R, s, m, args, below, meth, c, ad, INV, CE, n0, kc, ks⟩ := X
  obtain ⟨⟨hx, hby, -, hown, hZ, -, -, hnm⟩, hL, G, rfl, rfl, rfl, rfl, hge, rfl, rfl, rfl, rfl, hce, hs0⟩ := K
  intro T locs A Y N I LO
  obtain ⟨T', h', Y', e', W, st'⟩ := putFN Y hx hZ hown w Via.refl rfl (I.1.2.1 _ hf) I.1.1 (wl.imp id fun q => ⟨q.1, rfl, hnm.trans q.2⟩) hL.2.1 ht (v := .long v) (v' := .long v) rfl rfl (g := mkF m pc A ((Value.long v :: .ref 0 :: st).map (up fun k => a + k))) rfl rfl (hb hby hd)
  obtain ⟨s₂, h1, h2⟩ := h T' _ A Y' (N.app fun y hy => by cases List.mem_singleton.mp hy; exact hge) (by rw [e']; exact ⟨I.1.putL G hL hf W, I.2.1.wr W (Or.inl (mem_ws (k := 0) (Nat.zero_le _))), by rw [W.size]; exact I.2.2⟩) LO
  exact ⟨s₂, st' _ h1, h2⟩
theorem inb {c : Cell} {n : Nat} {i : Int32} (S : c.slots.size = n) (h0 : 0 ≤ i.toInt) (h1 : i.toInt < n) : ¬ (i < 0 ∨ c.slots.size ≤ i.toNatClampNeg) := by
  have e0 : (0 : Int32).toInt = 0 := rfl
  rw [S, Int32.lt_iff_toInt_lt, e0]; simp only [Int32.toNatClampNeg]; omega
theorem at_arr {c : Cell} {n : Nat} {g : Int → Int32} (H : ∀ i : Nat, i < n → c.slots[i]? = some (.int (g (i : Int)))) {i : Int32} (h0 : 0 ≤ i.toInt) (h1 : i.toInt < n) : c.slots[i.toNatClampNeg]? = some (.int (g i.toInt)) := by
  have e : (i.toNatClampNeg : Int) = i.toInt := by simp only [Int32.toNatClampNeg]; omega
  have := H i.toNatClampNeg (by omega)
  rw [e] at this; exact this
theorem g_iaload (K : CtxC X Z a0 C FS FA nA kk l0 n1 a h0 ce rm nm code ml ret) {k n : Nat} {i : Int32} (hd : decode code pc = .ok (.iaload, 1)) (hq : (k, .int, n) ∈ FA) (hk : Nat.ble k j = true) (hi : 0 ≤ i.toInt ∧ i.toInt < (n : Nat))
    (h : Go X r (pc + 1) L (.int (gA σ k i.toInt) :: st) (σ, j)) : Go X r pc L (.int i :: .ref k :: st) (σ, j) := by
  obtain ⟨p, l, e, R, s, m, args, below, meth, c, ad, INV, CE, n0, kc, ks⟩ := X
  obtain ⟨⟨hx, hby, -, hown, hZ, -⟩, hL, G, rfl, rfl, rfl, rfl, hn, rfl, rfl, rfl, rfl, hce, hs0⟩ := K
  intro T locs A Y N I LO
  obtain ⟨cl, F1, F2, F3⟩ := I.1.2.2 _ hq (Nat.le_of_ble_eq_true hk)
  obtain ⟨s₂, h1, h2⟩ := h T locs A Y N I LO
  exact ⟨s₂, Y.iaload hx F1.1 (State.isArrayOf_alike hZ.alike F1.2.1) F1.2.2 (inb F2 hi.1 hi.2) (at_arr F3 hi.1 hi.2) (g := mkF m pc A ((Value.int i :: .ref k :: st).map (up fun k => a + k))) rfl rfl (hb hby hd) _ h1, h2⟩
theorem g_baload (K : CtxC X Z a0 C FS FA nA kk l0 n1 a h0 ce rm nm code ml ret) {k n : Nat} {i : Int32} (hd : decode code pc = .ok (.baload, 1)) (hq : (k, .boolean, n) ∈ FA) (hk : Nat.ble k j = true) (hi : 0 ≤ i.toInt ∧ i.toInt < (n : Nat))
    (h : Go X r (pc + 1) L (.int (gA σ k i.toInt) :: st) (σ, j)) : Go X r pc L (.int i :: .ref k :: st) (σ, j) := by
  obtain ⟨p, l, e, R, s, m, args, below, meth, c, ad, INV, CE, n0, kc, ks⟩ := X
  obtain ⟨⟨hx, hby, -, hown, hZ, -⟩, hL, G, rfl, rfl, rfl, rfl, hn, rfl, rfl, rfl, rfl, hce, hs0⟩ := K
  intro T locs A Y N I LO
  obtain ⟨cl, F1, F2, F3⟩ := I.1.2.2 _ hq (Nat.le_of_ble_eq_true hk)
  obtain ⟨s₂, h1, h2⟩ := h T locs A Y N I LO
  exact ⟨s₂, Y.baloadBooleans hx F1.1 (State.isArrayOf_alike hZ.alike F1.2.1) F1.2.2 (inb F2 hi.1 hi.2) (at_arr F3 hi.1 hi.2) (g := mkF m pc A ((Value.int i :: .ref k :: st).map (up fun k => a + k))) rfl rfl (hb hby hd) _ h1, h2⟩
theorem g_caload (K : CtxC X Z a0 C FS FA nA kk l0 n1 a h0 ce rm nm code ml ret) {k n : Nat} {i : Int32} (hd : decode code pc = .ok (.caload, 1)) (hq : (k, .char, n) ∈ FA) (hk : Nat.ble k j = true) (hi : 0 ≤ i.toInt ∧ i.toInt < (n : Nat))
    (h : Go X r (pc + 1) L (.int (gA σ k i.toInt) :: st) (σ, j)) : Go X r pc L (.int i :: .ref k :: st) (σ, j) := by
  obtain ⟨p, l, e, R, s, m, args, below, meth, c, ad, INV, CE, n0, kc, ks⟩ := X
  obtain ⟨⟨hx, hby, -, hown, hZ, -⟩, hL, G, rfl, rfl, rfl, rfl, hn, rfl, rfl, rfl, rfl, hce, hs0⟩ := K
  intro T locs A Y N I LO
  obtain ⟨cl, F1, F2, F3⟩ := I.1.2.2 _ hq (Nat.le_of_ble_eq_true hk)
  obtain ⟨s₂, h1, h2⟩ := h T locs A Y N I LO
  exact ⟨s₂, Y.caload hx F1.1 (State.isArrayOf_alike hZ.alike F1.2.1) F1.2.2 (inb F2 hi.1 hi.2) (at_arr F3 hi.1 hi.2) (g := mkF m pc A ((Value.int i :: .ref k :: st).map (up fun k => a + k))) rfl rfl (hb hby hd) _ h1, h2⟩
theorem g_arraylength (K : CtxC X Z a0 C FS FA nA kk l0 n1 a h0 ce rm nm code ml ret) {k n : Nat} {ty : FieldType} {v : Int32} (hd : decode code pc = .ok (.arraylength, 1)) (hq : (k, ty, n) ∈ FA) (hk : Nat.ble k j = true) (hv : n.toInt32 = v)
    (h : Go X r (pc + 1) L (.int v :: st) (σ, j)) : Go X r pc L (.ref k :: st) (σ, j) := by
  obtain ⟨p, l, e, R, s, m, args, below, meth, c, ad, INV, CE, n0, kc, ks⟩ := X
  obtain ⟨⟨hx, hby, -, hown, hZ, -⟩, hL, G, rfl, rfl, rfl, rfl, hn, rfl, rfl, rfl, rfl, hce, hs0⟩ := K
  intro T locs A Y N I LO
  obtain ⟨cl, F1, F2, F3⟩ := I.1.2.2 _ hq (Nat.le_of_ble_eq_true hk)
  obtain ⟨s₂, h1, h2⟩ := h T locs A Y N I LO
  subst hv
  simp only at F2
  subst F2
  exact ⟨s₂, Y.arraylength hx F1.1 (State.isArrayOf_alike hZ.alike F1.2.1) (g := mkF m pc A ((Value.ref k :: st).map (up fun k => a + k))) rfl rfl (hb hby hd) _ h1, h2⟩
theorem g_iastore (K : CtxC X Z a0 C FS FA nA kk l0 n1 a h0 ce rm nm code ml ret) {k n : Nat} {i v : Int32} (hd : decode code pc = .ok (.iastore, 1)) (hq : (k, .int, n) ∈ FA) (hk : Nat.ble k j = true) (hi : 0 ≤ i.toInt ∧ i.toInt < (n : Nat))
    (h : Go X r (pc + 1) L st (sA σ k i.toInt v, j)) : Go X r pc L (.int v :: .int i :: .ref k :: st) (σ, j) := by
  obtain ⟨p, l, e, R, s, m, args, below, meth, c, ad, INV, CE, n0, kc, ks⟩ := X
  obtain ⟨⟨hx, hby, -, hown, hZ, -⟩, hL, G, rfl, rfl, rfl, rfl, hge, rfl, rfl, rfl, rfl, hce, hs0⟩ := K
  intro T locs A Y N I LO
  obtain ⟨cl, F1, F2, F3⟩ := I.1.2.2 _ hq (Nat.le_of_ble_eq_true hk)
  obtain ⟨T', h', Y', e', W, st'⟩ := stI Y hx hZ rfl F1 (x := v) (inb F2 hi.1 hi.2) (g := mkF m pc A ((Value.int v :: .int i :: .ref k :: st).map (up fun k => a + k))) rfl rfl (hb hby hd)
  obtain ⟨s₂, h1, h2⟩ := h T' _ A Y' (N.app fun y hy => by cases List.mem_singleton.mp hy; exact Nat.le_trans hge (Nat.le_add_right _ _)) (by rw [e']; exact ⟨I.1.set G hq (Nat.le_of_ble_eq_true hk) hi.1 hi.2 W, I.2.1.wr W (Or.inl (mem_ws (lay_pos G hq).2.1)), by rw [W.size]; exact I.2.2⟩) LO
  exact ⟨s₂, st' _ h1, h2⟩
theorem g_bastore (K : CtxC X Z a0 C FS FA nA kk l0 n1 a h0 ce rm nm code ml ret) {k n : Nat} {i v v' : Int32} (hd : decode code pc = .ok (.bastore, 1)) (hq : (k, .boolean, n) ∈ FA) (hk : Nat.ble k j = true) (hi : 0 ≤ i.toInt ∧ i.toInt < (n : Nat)) (hv : nar .boolean v = v')
    (h : Go X r (pc + 1) L st (sA σ k i.toInt v', j)) : Go X r pc L (.int v :: .int i :: .ref k :: st) (σ, j) := by
  obtain ⟨p, l, e, R, s, m, args, below, meth, c, ad, INV, CE, n0, kc, ks⟩ := X
  obtain ⟨⟨hx, hby, -, hown, hZ, -⟩, hL, G, rfl, rfl, rfl, rfl, hge, rfl, rfl, rfl, rfl, hce, hs0⟩ := K
  subst hv
  intro T locs A Y N I LO
  obtain ⟨cl, F1, F2, F3⟩ := I.1.2.2 _ hq (Nat.le_of_ble_eq_true hk)
  obtain ⟨T', h', Y', e', W, st'⟩ := stZ Y hx hZ rfl F1 (x := v) (inb F2 hi.1 hi.2) (g := mkF m pc A ((Value.int v :: .int i :: .ref k :: st).map (up fun k => a + k))) rfl rfl (hb hby hd)
  obtain ⟨s₂, h1, h2⟩ := h T' _ A Y' (N.app fun y hy => by cases List.mem_singleton.mp hy; exact Nat.le_trans hge (Nat.le_add_right _ _)) (by rw [e']; exact ⟨I.1.set G hq (Nat.le_of_ble_eq_true hk) hi.1 hi.2 W, I.2.1.wr W (Or.inl (mem_ws (lay_pos G hq).2.1)), by rw [W.size]; exact I.2.2⟩) LO
  exact ⟨s₂, st' _ h1, h2⟩
theorem g_castore (K : CtxC X Z a0 C FS FA nA kk l0 n1 a h0 ce rm nm code ml ret) {k n : Nat} {i v v' : Int32} (hd : decode code pc = .ok (.castore, 1)) (hq : (k, .char, n) ∈ FA) (hk : Nat.ble k j = true) (hi : 0 ≤ i.toInt ∧ i.toInt < (n : Nat)) (hv : nar .char v = v')
    (h : Go X r (pc + 1) L st (sA σ k i.toInt v', j)) : Go X r pc L (.int v :: .int i :: .ref k :: st) (σ, j) := by
  obtain ⟨p, l, e, R, s, m, args, below, meth, c, ad, INV, CE, n0, kc, ks⟩ := X
  obtain ⟨⟨hx, hby, -, hown, hZ, -⟩, hL, G, rfl, rfl, rfl, rfl, hge, rfl, rfl, rfl, rfl, hce, hs0⟩ := K
  subst hv
  intro T locs A Y N I LO
  obtain ⟨cl, F1, F2, F3⟩ := I.1.2.2 _ hq (Nat.le_of_ble_eq_true hk)
  obtain ⟨T', h', Y', e', W, st'⟩ := stC Y hx hZ rfl F1 (x := v) (inb F2 hi.1 hi.2) (g := mkF m pc A ((Value.int v :: .int i :: .ref k :: st).map (up fun k => a + k))) rfl rfl (hb hby hd)
  obtain ⟨s₂, h1, h2⟩ := h T' _ A Y' (N.app fun y hy => by cases List.mem_singleton.mp hy; exact Nat.le_trans hge (Nat.le_add_right _ _)) (by rw [e']; exact ⟨I.1.set G hq (Nat.le_of_ble_eq_true hk) hi.1 hi.2 W, I.2.1.wr W (Or.inl (mem_ws (lay_pos G hq).2.1)), by rw [W.size]; exact I.2.2⟩) LO
  exact ⟨s₂, st' _ h1, h2⟩
/-! ### the constructor's own steps -/
theorem g_objinit (K : CtxC X Z a0 C FS FA nA kk l0 n1 a h0 ce rm nm code ml ret) {idx k : Nat} (hd : decode code pc = .ok (.invokespecial idx, 3)) (w1 : (Cond.methodLink C idx Lib.objectInit).before a0 Z = true) (w2 : (Cond.instanceMethod Lib.objectInit).before a0 Z = true)
    (w3 : (Cond.code Lib.objectInit ⟨#[0xb1]⟩ 1 none).before a0 Z = true) (hml : L.length = ml) (hr1 : 1 ≤ rm.frames) (hr2 : (st.map fun v => v.category).sum + 12 ≤ rm.locals) (h : Go X r (pc + 3) L st (σ, j)) : Go X r pc L (.ref k :: st) (σ, j) := by
  obtain ⟨p, l, e, R, s, m, args, below, meth, c, ad, INV, CE, n0, kc, ks⟩ := X
  obtain ⟨⟨hx, hby, hcm, hown, hZ, -⟩, hL, G, rfl, rfl, rfl, rfl, hge, rfl, rfl, rfl, rfl, hce, hs0⟩ := K
  intro T locs A Y N I LO
  obtain ⟨T', Y', e', st'⟩ := initO Y hx hZ hown w1 w2 w3 rfl (g := mkF m pc A ((Value.ref k :: st).map (up fun k => a + k))) rfl (by rw [hcm, ← hml]; exact LO.1) rfl (hb hby hd) hr1 (W := (st.map fun v => v.category).sum) (by rw [up_cats]; show 2 * 0 + _ ≤ _; omega) hr2
  obtain ⟨s₂, h1, h2⟩ := h T' locs A Y' N (by rw [e']; exact I) LO
  exact ⟨s₂, st' _ h1, h2⟩
/-- newarray and, behind it, putfield: the next array of the object -/
theorem g_newput (K : CtxC X Z a0 C FS FA nA kk l0 n1 a h0 ce rm nm code ml ret) {aty : ArrayType} {idx : Nat} {n d : String} {len : Int32} {t : FieldType} (hd : decode code pc = .ok (.newarray aty, 2)) (hd2 : decode code (pc + 2) = .ok (.putfield idx, 3)) (wa : (Cond.arrayClass (newarray.typeOf aty)).before a0 Z = true) (w : (Cond.fieldLink C idx C n d).before a0 Z = true)
    (hf : (j + 1, n, d, 2) ∈ FS) (wl : (Cond.lays C C n d).before a0 Z = true ∨ ((Cond.laysFinal C C n d).before a0 Z = true ∧ nm = "<init>")) (ht : parseFieldDescriptor d = some t) (hn : ∀ x, narrow t (.ref x) = .ref x) (hfi : ∀ x, fits t (.ref x) = true)
    (hint : newarray.typeOf aty = .int ∨ newarray.typeOf aty = .boolean ∨ newarray.typeOf aty = .char) {q : ASpec} (hq : q ∈ FA) (hq1 : q.1 = j + 1) (hq2 : q.2.1 = newarray.typeOf aty) (hq3 : q.2.2 = len.toNatClampNeg) (hlen : ¬ len < 0) (hcap : len.toNatClampNeg * 8 ≤ 536870912)
    (hh : h0.size = a + 1) (hce1 : ce j = (j, (ce j).2)) (hce2 : ce (j + 1) = (j + 1, (ce j).2 + len.toNatClampNeg)) (hc1 : j + 1 ≤ rm.cells) (hc2 : (ce j).2 + len.toNatClampNeg ≤ rm.slots) (hz : ∀ i, gA σ (j + 1) i = 0)
    (h : Go X r (pc + 5) L st (σ, j + 1)) : Go X r pc L (.int len :: .ref 0 :: st) (σ, j) := by
  obtain ⟨p, l, e, R, s, m, args, below, meth, c, ad, INV, CE, n0, kc, ks⟩ := X
  obtain ⟨⟨hx, hby, -, hown, hZ, -, -, hnm⟩, hL, G, rfl, rfl, rfl, rfl, hge, rfl, rfl, rfl, rfl, hce, hs0⟩ := K
  intro T locs A Y N I LO
  have hY : Stand p l e R s m args below meth c T locs j (ce j).2 := by
    have := Y; simp only at this; rw [hce1] at this; exact this
  have hsz : T.heap.size = a + 1 + j := by have := I.2.2; simp only at this; rw [hce1] at this; omega
  obtain ⟨T1, h1, cA, Y1, e1, E1, A1, st1'⟩ := newP hY hx hZ wa rfl (g := mkF m pc A ((Value.int len :: .ref 0 :: st).map (up fun k => a + k))) rfl (hb hby hd) rfl hlen (Nat.le_refl _) hcap hc1 hc2
  rw [hsz] at A1 st1'
  have eA : a + 1 + j = a + (j + 1) := by omega
  rw [eA] at A1 st1'
  have R1 : Rep Z C FS FA a j h1 σ := I.1.ext E1
  obtain ⟨T2, h2, Y2, e2, W, st2'⟩ := putFN Y1 hx hZ hown w Via.refl e1 (R1.2.1 _ hf) R1.1 (wl.imp id fun q => ⟨q.1, rfl, hnm.trans q.2⟩) hL.2.1 ht (hn _) (hfi _) (g := mkF m (pc + 2) A (.ref (a + (j + 1)) :: ((Value.ref 0 :: st).map (up fun k => a + k)))) rfl rfl (hb hby hd2)
  have R2 : Rep Z C FS FA a (j + 1) h2 σ := by
    refine R1.put G hL hf W (by simp [fval]) (fun g hg ne => ?_) (fun q' hq' hj => ?_)
    · have hk : g.1 ≠ j + 1 := fun z => ne (lay_keys G hg hf z)
      unfold fval
      split
      · rfl
      · rfl
      · by_cases z : g.1 ≤ j
        · rw [if_pos z, if_pos (by omega)]
        · rw [if_neg z, if_neg (by omega)]
    · by_cases z : q'.1 ≤ j
      · exact R1.2.2 q' hq' z
      · have : q' = q := lay_arr G hq' hq (by omega)
        subst this
        rw [hq1, hq2, hq3]
        refine ⟨_, A1, sz_new _ _ _, fun i hi => ?_⟩
        rw [hz]
        rcases hint with e | e | e <;> rw [e] <;> simp [newA, hi, defaultValue]
  have hs1 : h1.size = a + 1 + (j + 1) := by
    have q1 := E1.1
    have q2 : T1.heap.size ≤ s.heap.size + (j + 1) := Y1.heapSize
    have q3 := A1.lt
    rw [e1, hs0, hh] at q2
    have q5 : a + (j + 1) < h1.size := q3
    have q6 : h1.size ≤ a + 1 + (j + 1) := q2
    omega
  obtain ⟨s₂, g1, g2⟩ := h T2 _ A (by show Stand _ _ _ _ _ _ _ _ _ _ _ _ (ce (j + 1)).1 (ce (j + 1)).2; rw [hce2]; exact Y2) (N.app fun y hy => by cases List.mem_singleton.mp hy; exact hge)
    (by rw [e2]; exact ⟨R2, (I.2.1.ext E1).wr W (Or.inl (mem_ws (k := 0) (Nat.zero_le _))), by rw [W.size, hs1, hh]; show _ = _ + (ce (j + 1)).1; rw [hce2]⟩) LO
  exact ⟨s₂, st1' _ (st2' _ g1), g2⟩
end RulesC
/-! ## 6. contracts of methods, and calls on the own object -/
def MetP (l : Launch) (Z : State) (y : MethodName) (code : ByteArray) (ml : Nat) (ret : Option FieldType) (rm : Room) (ws : List Jvm.Cond) (n0 : Nat) (h1 : Heap) (as : Array Value) (v : Option Value) (POST : Heap → Prop) : Prop :=
  MetFree l y (head1 (Jvm.Cond.code y code ml ret :: ws) rm) (fun b U => b = as ∧ Z.Warmed39 U.vm ∧ U.heap = h1) (fun _ _ _ _ _ => True) (fun _ U o U' => ∃ w L, o = .returned w ∧ (w = v ∧ Fr n0 L ∧ POST U'.heap) ∧ FrameEnd U o U' L rm.cells rm.slots)
/-- a body that goes to its end meets its contract -/
theorem met_of_go {S : Type} {l : Launch} {Z : State} {y : MethodName} {code : ByteArray} {ml : Nat} {ret : Option FieldType} {rm : Room} {ws : List Jvm.Cond} {n0 : Nat} {h1 : Heap} {ad : Nat → Addr} {INV : S → Heap → Prop} {CE : S → Nat × Nat} {vs : List Value} {v : Option Value} {x x' : S} {L : List (Option Value)}
    (hp : plainName y.cls = true) (hL : ent vs ml = L) (hI : INV x h1) (hce : CE x = (0, 0))
    (H : ∀ (p : Program) (e : Env) (s : State) (m : MethodId) (below : List Frame) (meth : Method) (c : Code), s.heap = h1 → Ctx (S := S) (p, l, e, rm, s, m, (vs.map (up ad)).toArray, below, meth, c, ad, INV, CE, n0, rm.cells, rm.slots) Z y.cls y.name code ml ret →
      Go (S := S) (p, l, e, rm, s, m, (vs.map (up ad)).toArray, below, meth, c, ad, INV, CE, n0, rm.cells, rm.slots) (v, x') 0 L [] x) :
    MetP l Z y code ml ret rm ws n0 h1 (vs.map (up ad)).toArray (v.map (up ad)) (INV x') := by
  refine MetFree.of_bodySF (plainFor_of_name hp) hisR ?_
  intro p e s m args below meth c s₁ Bd hml0 hP hK
  obtain ⟨rfl, hZ, hh⟩ := hP
  have hown : s.vm.findClass y.cls = some m.cls := findClass_of_methodNamed Bd.named
  have hnm := (name_of_methodNamed Bd.named Bd.method).1
  have X0 : Stand p l e rm s m (vs.map (up ad)).toArray below meth c s₁ [] 0 0 := Stand.of_body Bd
  have e0 : s₁.heap = h1 := by rw [← hh, Bd.state]; rfl
  subst hL
  obtain ⟨s₂, g1, g2, g3, g4, L', g5, g6, g7⟩ := H p e s m below meth c hh ⟨Bd.exec, Bd.bytes, hml0, hown, hZ, Bd.returns, Bd.notSynchronized, hnm⟩ s₁ [] _ (by rw [hce]; exact X0) (Fr.nil n0) (by rw [e0]; exact hI) (loc_ent ad vs ml)
  exact ⟨s₂, _, g1, g2, g3, _, L', rfl, ⟨rfl, g5, g4⟩, ⟨_, rfl⟩, g6, g7⟩
theorem MetP.mono {l : Launch} {Z : State} {y : MethodName} {code : ByteArray} {ml : Nat} {ret : Option FieldType} {rm : Room} {ws : List Jvm.Cond} {n0 : Nat} {h1 : Heap} {as : Array Value} {v : Option Value} {P Q : Heap → Prop}
    (H : MetP l Z y code ml ret rm ws n0 h1 as v P) (hPQ : ∀ h, P h → Q h) : MetP l Z y code ml ret rm ws n0 h1 as v Q := by
  intro p e ha hc hk s m args below hf happ hP hK
  obtain ⟨n, o, q1, q2, q3, w, L, q4, ⟨q5, q6, q7⟩, q8⟩ := H p e ha hc hk s m args below hf happ hP hK
  exact ⟨n, o, q1, q2, q3, w, L, q4, ⟨q5, q6, hPQ _ q7⟩, q8⟩
theorem MetP.back {p : Program} {l : Launch} {e : Env} {R : Room} {s : State} {args : Array Value} {below : List Frame} {Z : State} {a0 : Array Value} {y : MethodName} {code : ByteArray} {ml : Nat} {ret : Option FieldType} {rm : Room} {n0 : Nat} {h1 : Heap} {as : Array Value} {v : Option Value} {POST : Heap → Prop} {len W : Nat}
    (H : MetP l Z y code ml ret rm [] n0 h1 as v POST) (hZ : Z.Warmed39 s.vm) (wc : (Jvm.Cond.code y code ml ret).before a0 Z = true) (wz : (Cond.initialized y.cls).before a0 Z = true) (hf : rm.frames + 1 ≤ R.frames) (hl : W + (ml + 11) + rm.locals ≤ R.locals) :
    Back l R p e below s args y len W (fun A b => b = as ∧ A.U.heap = h1 ∧ A.cells + rm.cells ≤ R.cells ∧ A.slots + rm.slots ≤ R.slots)
      (fun A _ w B => ∃ L, (w = v ∧ Fr n0 L ∧ POST B.U.heap) ∧ B.locs = A.locs ++ L ∧ B.cells = A.cells + rm.cells ∧ B.slots = A.slots + rm.slots) :=
  backOf (Q := fun w h' L => w = v ∧ Fr n0 L ∧ POST h') H hZ wc wz hf hl
/-- a method of the class on the object at a: from σ to σ', giving v -/
def Con (l : Launch) (Z : State) (C : String) (FS : List FSpec) (FA : List ASpec) (nA : Nat) (n0 : Nat) (a : Nat) (y : MethodName) (code : ByteArray) (ml : Nat) (ret : Option FieldType) (rm : Room) (vs : List Value) (σ : St) (v : Option Value) (σ' : St) : Prop :=
  ∀ (ws : List Jvm.Cond) (h1 : Heap), Rep Z C FS FA a nA h1 σ → MetP l Z y code ml ret rm ws n0 h1 (vs.map (up fun k => a + k)).toArray (v.map (up fun k => a + k)) (fun h' => Rep Z C FS FA a nA h' σ' ∧ Keep h1 h' (wsOf a nA) ∧ h'.size = h1.size)
def ce0 : Nat → Nat × Nat := fun _ => (0, 0)
theorem con_of_go {l : Launch} {Z : State} {a0 : Array Value} {C : String} {FS : List FSpec} {FA : List ASpec} {nA kk n0 : Nat} {a : Nat} {n d : String} {code : ByteArray} {ml : Nat} {ret : Option FieldType} {fr lo : Nat} {vs : List Value} {σ : St} {v : Option Value} {σ' : St} {L : List (Option Value)}
    (hp : plainName C = true) (hL : ent vs ml = L) (lw : LayW Z a0 C FS kk) (lg : layGood FS FA nA = true) (hge : n0 ≤ a)
    (H : ∀ (X : Cx (St × Nat)) (h1 : Heap), CtxC X Z a0 C FS FA nA kk l n0 a h1 ce0 ⟨fr, 0, 0, lo⟩ n code ml ret → Go X (v, (σ', nA)) 0 L [] (σ, nA)) :
    Con l Z C FS FA nA n0 a ⟨C, n, d⟩ code ml ret ⟨fr, 0, 0, lo⟩ vs σ v σ' := by
  intro ws h1 hR
  refine (met_of_go (S := St × Nat) (INV := INVc Z C FS FA nA a h1 ce0) (CE := fun x => ce0 x.2) (x := (σ, nA)) (x' := (σ', nA)) hp hL ⟨hR, Keep.refl _ _, rfl⟩ rfl ?_).mono (fun h q => ⟨q.1, q.2.1, q.2.2⟩)
  intro p e s m below meth c hs K
  exact H _ h1 ⟨K, lw, lg, rfl, rfl, rfl, rfl, hge, rfl, rfl, rfl, rfl, rfl, hs⟩
section Calls
variable {X : Cx (St × Nat)} {Z : State} {a0 : Array Value} {C : String} {FS : List FSpec} {FA : List ASpec} {nA kk : Nat} {l0 : Launch} {n1 : Nat} {a : Nat} {h0 : Heap} {ce : Nat → Nat × Nat} {rm rm' : Room} {nm : String} {code code' : ByteArray} {ml ml' : Nat} {ret ret' : Option FieldType} {r : Option Value × (St × Nat)} {pc : Nat} {L : List (Option Value)} {st st0 : List Value} {σ σ' : St}
/-- a call of a private method on 'this' -/
theorem g_callP (K : CtxC X Z a0 C FS FA nA kk l0 n1 a h0 ce rm nm code ml ret) {idx : Nat} {n d : String} {ps : List FieldType} {rt : Option FieldType} (hd : decode code pc = .ok (.invokevirtual idx, 3)) (w1 : (Cond.methodLink C idx ⟨C, n, d⟩).before a0 Z = true) (w2 : (Cond.instanceMethod ⟨C, n, d⟩).before a0 Z = true)
    (w3 : (Cond.privateMethod ⟨C, n, d⟩).before a0 Z = true) (w4 : (Jvm.Cond.code ⟨C, n, d⟩ code' ml' ret').before a0 Z = true) (hy : C ≠ "java/lang/invoke/MethodHandle" ∧ C ≠ "java/lang/invoke/VarHandle") (hpd : parseMethodDescriptor d = some ⟨ps, rt⟩) {vs : List Value} (hst : vs.reverse ++ .ref 0 :: st = st0) (hlen : vs.length = ps.length)
    {v : Option Value} (con : Con l0 Z C FS FA nA n1 a ⟨C, n, d⟩ code' ml' ret' rm' (.ref 0 :: vs) σ v σ') (hml : L.length = ml) (hr1 : rm'.frames + 1 ≤ rm.frames) (hr2 : (st.map fun v => v.category).sum + (ml' + 11) + rm'.locals ≤ rm.locals) (hr3 : rm'.cells = 0) (hr4 : rm'.slots = 0)
    (h : Go X r (pc + 3) L (v.toList ++ st) (σ', nA)) : Go X r pc L st0 (σ, nA) := by
  obtain ⟨p, l, e, R, s, m, args, below, meth, c, ad, INV, CE, n0, kc, ks⟩ := X
  obtain ⟨⟨hx, hby, hcm, hown, hZ, -⟩, hL, G, rfl, rfl, rfl, rfl, hge, rfl, rfl, rfl, rfl, hce, hs0⟩ := K
  intro T locs A Y N I LO
  subst hst
  obtain ⟨cell, hcell, hobj⟩ := I.1.1.cell
  obtain ⟨ci, ki, i1, i2, i3, i4, -⟩ := Cond.instantiable_spec (mvT (args := #[]) hZ hL.2.1)
  have hni : ki.isInterface = false := by simp only [Bool.or_eq_false_iff] at i4; exact i4.1
  have hpr : s.PrivateAt ⟨C, n, d⟩ := Cond.privateMethod_at (mvP hZ w3 (args := #[]))
  have hsel : (Cond.selects C ⟨C, n, d⟩ ⟨C, n, d⟩).before args s = true := selects_self_of_private (y := ⟨C, n, d⟩) i1 i2 hni hpr (mvT hZ w2) hy
  have hcA : (ce nA).1 + rm'.cells ≤ R.cells := by rw [hce, hr3]; exact Nat.le_refl _
  have hsA : (ce nA).2 + rm'.slots ≤ R.slots := by rw [hce, hr4]; exact Nat.le_refl _
  obtain ⟨w, vm₁, ⟨T', L', k', n'⟩, -, Y', ⟨Lc, ⟨q1, q2, q3, q4, q5⟩, l', y', z'⟩, st'⟩ := Y.privateBack hx (y := ⟨C, n, d⟩) hown (mvT hZ w1) (mvT hZ w2) hsel hpr (mvT hZ w4) hy
    (MetP.back (W := (st.map fun v => v.category).sum) (con [] T.heap I.1) hZ w4 hL.2.2 hr1 hr2) (g := mkF m pc A ((vs.reverse ++ .ref 0 :: st).map (up fun k => a + k))) rfl (by rw [hcm, ← hml]; exact LO.1) (Steps.refl _) (a := a) hcell hobj
    (argsL := vs.map (up fun k => a + k)) (rest := st.map (up fun k => a + k)) (lenOf hpd (by rw [List.length_map]; exact hlen)) (by simp [up]) (by rw [up_cats]; show 2 * 0 + _ ≤ _; omega) (hb hby hd) (fun _ _ => ⟨by simp [up], rfl, hcA, hsA⟩)
  dsimp only [Pt.U, Pt.locs, Pt.cells, Pt.slots] at Y' l' y' z' st' q1 q3 q4 q5
  subst l' y' z' q1
  obtain ⟨s₂, h1, h2⟩ := h T' _ A (by show Stand _ _ _ _ _ _ _ _ _ _ _ _ (ce nA).1 (ce nA).2; simpa [hr3, hr4] using Y') (N.app q2) ⟨q3, I.2.1.trans q4 (fun x hx => Or.inl hx), by rw [q5]; exact I.2.2⟩ LO
  refine ⟨s₂, st'.trans ?_, h2⟩
  have e1 : (v.toList ++ st).map (up fun k => a + k) = (v.map (up fun k => a + k)).toList ++ st.map (up fun k => a + k) := by cases v <;> simp
  rw [e1] at h1
  exact h1
/-- a call of a public method on 'this' -/
theorem g_callV (K : CtxC X Z a0 C FS FA nA kk l0 n1 a h0 ce rm nm code ml ret) {idx : Nat} {n d : String} {ps : List FieldType} {rt : Option FieldType} (hd : decode code pc = .ok (.invokevirtual idx, 3)) (w1 : (Cond.methodLink C idx ⟨C, n, d⟩).before a0 Z = true) (w2 : (Cond.instanceMethod ⟨C, n, d⟩).before a0 Z = true)
    (w3 : (Cond.declares ⟨C, n, d⟩).before a0 Z = true) (w3' : (Cond.selects C ⟨C, n, d⟩ ⟨C, n, d⟩).before a0 Z = true) (w4 : (Jvm.Cond.code ⟨C, n, d⟩ code' ml' ret').before a0 Z = true) (hy : C ≠ "java/lang/invoke/MethodHandle" ∧ C ≠ "java/lang/invoke/VarHandle") (hpd : parseMethodDescriptor d = some ⟨ps, rt⟩) {vs : List Value} (hst : vs.reverse ++ .ref 0 :: st = st0) (hlen : vs.length = ps.length)
    {v : Option Value} (con : Con l0 Z C FS FA nA n1 a ⟨C, n, d⟩ code' ml' ret' rm' (.ref 0 :: vs) σ v σ') (hml : L.length = ml) (hr1 : rm'.frames + 1 ≤ rm.frames) (hr2 : (st.map fun v => v.category).sum + (ml' + 11) + rm'.locals ≤ rm.locals) (hr3 : rm'.cells = 0) (hr4 : rm'.slots = 0)
    (h : Go X r (pc + 3) L (v.toList ++ st) (σ', nA)) : Go X r pc L st0 (σ, nA) := by
  obtain ⟨p, l, e, R, s, m, args, below, meth, c, ad, INV, CE, n0, kc, ks⟩ := X
  obtain ⟨⟨hx, hby, hcm, hown, hZ, -⟩, hL, G, rfl, rfl, rfl, rfl, hge, rfl, rfl, rfl, rfl, hce, hs0⟩ := K
  intro T locs A Y N I LO
  subst hst
  obtain ⟨cq, kq, qa, qb, qc⟩ := isOf hZ rfl I.1.1
  have hcA : (ce nA).1 + rm'.cells ≤ R.cells := by rw [hce, hr3]; exact Nat.le_refl _
  have hsA : (ce nA).2 + rm'.slots ≤ R.slots := by rw [hce, hr4]; exact Nat.le_refl _
  obtain ⟨w, vm₁, ⟨T', L', k', n'⟩, -, Y', ⟨Lc, ⟨q1, q2, q3, q4, q5⟩, l', y', z'⟩, st'⟩ := Y.virtualBack hx (y := ⟨C, n, d⟩) (z := ⟨C, n, d⟩) hown (mvT hZ w1) (mvT hZ w3) (notFace_of_selects (args := #[]) (mvT hZ w3')) (mvT hZ w3') (mvT hZ w2) hy
    (MetP.back (W := (st.map fun v => v.category).sum) (con [] T.heap I.1) hZ w4 hL.2.2 hr1 hr2) qa qc (g := mkF m pc A ((vs.reverse ++ .ref 0 :: st).map (up fun k => a + k))) rfl (by rw [hcm, ← hml]; exact LO.1) (Steps.refl _)
    (argsL := vs.map (up fun k => a + k)) (rest := st.map (up fun k => a + k)) (lenOf hpd (by rw [List.length_map]; exact hlen)) (by simp [up]) (by rw [up_cats]; show 2 * 0 + _ ≤ _; omega) (hb hby hd) (fun _ _ => ⟨by simp [up], rfl, hcA, hsA⟩)
  dsimp only [Pt.U, Pt.locs, Pt.cells, Pt.slots] at Y' l' y' z' st' q1 q3 q4 q5
  subst l' y' z' q1
  obtain ⟨s₂, h1, h2⟩ := h T' _ A (by show Stand _ _ _ _ _ _ _ _ _ _ _ _ (ce nA).1 (ce nA).2; simpa [hr3, hr4] using Y') (N.app q2) ⟨q3, I.2.1.trans q4 (fun x hx => Or.inl hx), by rw [q5]; exact I.2.2⟩ LO
  refine ⟨s₂, st'.trans ?_, h2⟩
  have e1 : (v.toList ++ st).map (up fun k => a + k) = (v.map (up fun k => a + k)).toList ++ st.map (up fun k => a + k) := by cases v <;> simp
  rw [e1] at h1
  exact h1
end Calls
/-- the constructor's contract: a new object, its fields at their first values -/
def ConI (l : Launch) (Z : State) (C : String) (FS : List FSpec) (FA : List ASpec) (nA : Nat) (n0 : Nat) (a : Nat) (y : MethodName) (code : ByteArray) (ml : Nat) (rm : Room) (vs : List Value) (σ' : St) : Prop :=
  ∀ (ws : List Jvm.Cond) (h1 : Heap), h1.size = a + 1 → Rep Z C FS FA a 0 h1 z0 → MetP l Z y code ml none rm ws n0 h1 (vs.map (up fun k => a + k)).toArray none (fun h' => Rep Z C FS FA a nA h' σ' ∧ Keep h1 h' (wsOf a nA) ∧ h'.size = h1.size + nA)
def ceI (FA : List ASpec) : Nat → Nat × Nat := fun j => (j, ((FA.filter fun q => decide (q.1 ≤ j)).map fun q => q.2.2).sum)
theorem coni_of_go {l : Launch} {Z : State} {a0 : Array Value} {C : String} {FS : List FSpec} {FA : List ASpec} {nA kk n0 : Nat} {a : Nat} {d : String} {code : ByteArray} {ml : Nat} {fr lo sl : Nat} {vs : List Value} {σ' : St} {L : List (Option Value)}
    (hp : plainName C = true) (hL : ent vs ml = L) (lw : LayW Z a0 C FS kk) (lg : layGood FS FA nA = true) (hge : n0 ≤ a) (hce : ceI FA nA = (nA, sl)) (hc0 : ceI FA 0 = (0, 0))
    (H : ∀ (X : Cx (St × Nat)) (h1 : Heap), h1.size = a + 1 → CtxC X Z a0 C FS FA nA kk l n0 a h1 (ceI FA) ⟨fr, nA, sl, lo⟩ "<init>" code ml none → Go X (none, (σ', nA)) 0 L [] (z0, 0)) :
    ConI l Z C FS FA nA n0 a ⟨C, "<init>", d⟩ code ml ⟨fr, nA, sl, lo⟩ vs σ' := by
  intro ws h1 hsz hR
  refine (met_of_go (S := St × Nat) (INV := INVc Z C FS FA nA a h1 (ceI FA)) (CE := fun x => ceI FA x.2) (x := (z0, 0)) (x' := (σ', nA)) (v := none) hp hL ⟨hR, Keep.refl _ _, by rw [hc0]; rfl⟩ hc0 ?_).mono (fun h q => ⟨q.1, q.2.1, by rw [q.2.2, hce]⟩)
  intro p e s m below meth c hs K
  exact H _ h1 hsz ⟨K, lw, lg, rfl, rfl, rfl, rfl, hge, rfl, rfl, rfl, rfl, hce, hs⟩
/-! ## 7. the law: static code that makes objects and calls them; object i is reference i, the script is reference 100 -/
def adL (sc n0 nA : Nat) : Nat → Addr := fun i => if i = 100 then sc else n0 + i * (nA + 1)
def sizeW (W : List (St × Nat)) : Nat := (W.map fun x => 1 + x.2).sum
def INVl (Z : State) (C : String) (FS : List FSpec) (FA : List ASpec) (nA : Nat) (n0 : Nat) (H0 : Heap) : List (St × Nat) → Heap → Prop := fun W h => (∀ i x, W[i]? = some x → Rep Z C FS FA (n0 + i * (nA + 1)) x.2 h x.1) ∧ h.size = n0 + sizeW W ∧ Ext H0 h
/-- the script: its length and its values, as they stood at the start -/
def Script (Z : State) (H0 : Heap) (sc : Nat) (z : Int32) (f : Int → Int32) : Prop := ∃ c : Cell, Arr Z H0 sc c .int ∧ c.slots.size = z.toNatClampNeg ∧ 0 ≤ z.toInt ∧ ∀ i : Nat, i < z.toNatClampNeg → c.slots[i]? = some (.int (f (i : Int)))
def CtxL (X : Cx (List (St × Nat))) (Z : State) (a0 : Array Value) (C : String) (FS : List FSpec) (FA : List ASpec) (nA kk : Nat) (l0 : Launch) (n1 : Nat) (sc : Nat) (H0 : Heap) (ce : List (St × Nat) → Nat × Nat) (rm : Room) (kc1 ks1 : Nat) (own nm : String) (code : ByteArray) (ml : Nat) (ret : Option FieldType) : Prop :=
  Ctx X Z own nm code ml ret ∧ LayW Z a0 C FS kk ∧ layGood FS FA nA = true ∧
  match X with
  | (p, l, e, R, s, m, args, below, meth, c, ad, INV, CE, n0, kc, ks) => ad = adL sc n1 nA ∧ INV = INVl Z C FS FA nA n1 H0 ∧ CE = ce ∧ n0 = n1 ∧ H0.size = n1 ∧ l = l0 ∧ R = rm ∧ kc = kc1 ∧ ks = ks1
def ceJ (kk : Nat) (FA : List ASpec) (js : List Nat) : Nat × Nat := ((js.map fun j => 1 + j).sum, (js.map fun j => kk + (ceI FA j).2).sum)
def ceL (kk : Nat) (FA : List ASpec) : List (St × Nat) → Nat × Nat := fun W => ceJ kk FA (W.map Prod.snd)
theorem ceL_1 (kk : Nat) (FA : List ASpec) (W : List (St × Nat)) : (ceL kk FA W).1 = sizeW W := by simp [ceL, ceJ, sizeW, Function.comp_def]
theorem ceL_eq {kk : Nat} {FA : List ASpec} {W W' : List (St × Nat)} (h : W'.map Prod.snd = W.map Prod.snd) : ceL kk FA W' = ceL kk FA W := congrArg (ceJ kk FA) h
theorem capJ1 {kk c d : Nat} {FA : List ASpec} {W : List (St × Nat)} {js : List Nat} (h : (ceJ kk FA js).1 ≤ c ∧ (ceJ kk FA js).2 ≤ d) (hj : W.map Prod.snd = js) : (ceL kk FA W).1 ≤ c := by subst hj; exact h.1
theorem capJ2 {kk c d : Nat} {FA : List ASpec} {W : List (St × Nat)} {js : List Nat} (h : (ceJ kk FA js).1 ≤ c ∧ (ceJ kk FA js).2 ≤ d) (hj : W.map Prod.snd = js) : (ceL kk FA W).2 ≤ d := by subst hj; exact h.2
theorem capN1 {kk c d : Nat} {FA : List ASpec} {W : List (St × Nat)} {js : List Nat} (h : (ceJ kk FA js).1 + 1 ≤ c ∧ (ceJ kk FA js).2 + kk ≤ d) (hj : W.map Prod.snd = js) : (ceL kk FA W).1 + 1 ≤ c := by subst hj; exact h.1
theorem capN2 {kk c d : Nat} {FA : List ASpec} {W : List (St × Nat)} {js : List Nat} (h : (ceJ kk FA js).1 + 1 ≤ c ∧ (ceJ kk FA js).2 + kk ≤ d) (hj : W.map Prod.snd = js) : (ceL kk FA W).2 + kk ≤ d := by subst hj; exact h.2
/-- a static method of the law's class -/
def ConL (l : Launch) (Z : State) (C : String) (FS : List FSpec) (FA : List ASpec) (nA : Nat) (n0 : Nat) (sc : Nat) (H0 : Heap) (y : MethodName) (code : ByteArray) (ml : Nat) (ret : Option FieldType) (rm : Room) (vs : List Value) (W : List (St × Nat)) (v : Option Value) (W' : List (St × Nat)) : Prop :=
  ∀ (ws : List Jvm.Cond) (h1 : Heap), INVl Z C FS FA nA n0 H0 W h1 → MetP l Z y code ml ret rm ws n0 h1 (vs.map (up (adL sc n0 nA))).toArray (v.map (up (adL sc n0 nA))) (INVl Z C FS FA nA n0 H0 W')
def ceS : List (St × Nat) → Nat × Nat := fun _ => (0, 0)
theorem conl_of_go {l : Launch} {Z : State} {a0 : Array Value} {C : String} {FS : List FSpec} {FA : List ASpec} {nA kk n0 : Nat} {sc : Nat} {H0 : Heap} {own n d : String} {code : ByteArray} {ml : Nat} {ret : Option FieldType} {fr lo : Nat} {vs : List Value} {W : List (St × Nat)} {v : Option Value} {W' : List (St × Nat)} {L : List (Option Value)}
    (hp : plainName own = true) (hL : ent vs ml = L) (lw : LayW Z a0 C FS kk) (lg : layGood FS FA nA = true) (hH : H0.size = n0)
    (H : ∀ (X : Cx (List (St × Nat))), CtxL X Z a0 C FS FA nA kk l n0 sc H0 ceS ⟨fr, 0, 0, lo⟩ 0 0 own n code ml ret → Go X (v, W') 0 L [] W) :
    ConL l Z C FS FA nA n0 sc H0 ⟨own, n, d⟩ code ml ret ⟨fr, 0, 0, lo⟩ vs W v W' := by
  intro ws h1 hR
  refine met_of_go (S := List (St × Nat)) (INV := INVl Z C FS FA nA n0 H0) (CE := ceS) (x := W) (x' := W') hp hL hR rfl ?_
  intro p e s m below meth c hs K
  exact H _ ⟨K, lw, lg, rfl, rfl, rfl, rfl, hH, rfl, rfl, rfl, rfl⟩
section RulesL
variable {X : Cx (List (St × Nat))} {Z : State} {a0 : Array Value} {C : String} {FS : List FSpec} {FA : List ASpec} {nA kk : Nat} {l0 : Launch} {n1 : Nat} {sc : Nat} {H0 : Heap} {ce : List (St × Nat) → Nat × Nat} {rm rm' : Room} {kc1 ks1 : Nat} {own nm : String} {code code' : ByteArray} {ml ml' : Nat} {ret ret' : Option FieldType} {r : Option Value × List (St × Nat)} {pc : Nat} {L : List (Option Value)} {st st0 : List Value} {W W' : List (St × Nat)}
theorem capL (K : CtxL X Z a0 C FS FA nA kk l0 n1 sc H0 ce rm kc1 ks1 own nm code ml ret) (h1 : (ce W).1 ≤ kc1) (h2 : (ce W).2 ≤ ks1) : Cap X W := by
  obtain ⟨p, l, e, R, s, m, args, below, meth, c, ad, INV, CE, n0, kc, ks⟩ := X
  obtain ⟨-, -, -, rfl, rfl, rfl, rfl, -, rfl, rfl, rfl, rfl⟩ := K
  exact ⟨h1, h2⟩
theorem ctxl_sz (K : CtxL X Z a0 C FS FA nA kk l0 n1 sc H0 ce rm kc1 ks1 own nm code ml ret) : H0.size = n1 := by
  obtain ⟨p, l, e, R, s, m, args, below, meth, c, ad, INV, CE, n0, kc, ks⟩ := X
  obtain ⟨-, -, -, rfl, rfl, rfl, rfl, hH, -⟩ := K
  exact hH
theorem ws_ne {n0 nA i i' k x : Nat} (hi : i ≠ i') (hk : k ≤ nA) (hx : x ∈ wsOf (n0 + i' * (nA + 1)) nA) : n0 + i * (nA + 1) + k ≠ x := by
  have := of_ws hx
  intro e
  subst e
  rcases Nat.lt_or_gt_of_ne hi with q | q
  · have : (i + 1) * (nA + 1) ≤ i' * (nA + 1) := Nat.mul_le_mul_right _ q
    rw [Nat.add_mul] at this; omega
  · have : (i' + 1) * (nA + 1) ≤ i * (nA + 1) := Nat.mul_le_mul_right _ q
    rw [Nat.add_mul] at this; omega
theorem sizeW_set {i : Nat} {x y : St × Nat} (hi : W[i]? = some x) (hxy : y.2 = x.2) : sizeW (W.set i y) = sizeW W := by
  induction W generalizing i with
  | nil => simp at hi
  | cons w r ih =>
    cases i with
    | zero => simp at hi; subst hi; simp [sizeW, hxy]
    | succ i => simp at hi; have := ih hi; simp [sizeW] at this ⊢; omega
/-- object i, at its last stage or in the making, is changed by a call that keeps to its own cells -/
theorem INVl.upd (G : layGood FS FA nA = true) {h h' : Heap} (I : INVl Z C FS FA nA n1 H0 W h) {i : Nat} {x y : St × Nat} (hi : W[i]? = some x) (hR : Rep Z C FS FA (n1 + i * (nA + 1)) y.2 h' y.1) (hK : Keep h h' (wsOf (n1 + i * (nA + 1)) nA)) (hs : h'.size = n1 + sizeW (W.set i y)) (hH : H0.size = n1) : INVl Z C FS FA nA n1 H0 (W.set i y) h' := by
  obtain ⟨g1, g2, g3⟩ := I
  refine ⟨fun k z hz => ?_, hs, ?_⟩
  · by_cases e : k = i
    · subst e
      rw [List.getElem?_set_self (List.getElem?_eq_some_iff.mp hi).1] at hz
      cases hz; exact hR
    · rw [List.getElem?_set_ne (Ne.symm e)] at hz
      exact (g1 k z hz).keep' G hK fun q hq hm => ws_ne e hq hm rfl
  · refine ⟨Nat.le_trans g3.1 hK.1, fun x c hx => hK.2.1 x c (g3.2 x c hx) fun hm => ?_⟩
    have := of_ws hm
    have := (Array.getElem?_eq_some_iff.mp hx).1
    have : n1 ≤ n1 + i * (nA + 1) := Nat.le_add_right _ _
    omega
theorem l_new (K : CtxL X Z a0 C FS FA nA kk l0 n1 sc H0 (ceL kk FA) rm kc1 ks1 own nm code ml ret) {idx : Nat} (hd : decode code pc = .ok (.new idx, 3)) (w : (Cond.classLink own idx C).before a0 Z = true) (hW : sizeW W = W.length * (nA + 1)) (hl : W.length ≠ 100) (hs : hsz X = n1)
    (hc0 : (ceI FA 0).2 = 0) (hr1 : (ceL kk FA W).1 + 1 ≤ rm.cells) (hr2 : (ceL kk FA W).2 + kk ≤ rm.slots) {i : Nat} (hi : W.length = i) (h : Go X r (pc + 3) L (.ref i :: st) (W ++ [(z0, 0)])) : Go X r pc L st W := by
  obtain ⟨p, l, e, R, s, m, args, below, meth, c, ad, INV, CE, n0, kc, ks⟩ := X
  have hs0 : s.heap.size = n1 := hs
  obtain ⟨⟨hx, hby, hcm, hown, hZ, -⟩, hL, G, rfl, rfl, rfl, rfl, hH, rfl, rfl, rfl, rfl⟩ := K
  subst hi
  intro T locs A Y N I LO
  obtain ⟨T', h', Y', e', E', A', D', -, st'⟩ := newO Y hx hZ hown w hL.2.1 hL.2.2 rfl (g := mkF m pc A (st.map (up (adL sc n0 nA)))) rfl (hb hby hd) hr1 hr2
  have hsz : T.heap.size = n0 + W.length * (nA + 1) := by rw [← hW]; exact I.2.1
  rw [hsz] at A' D' st'
  have hR : Rep Z C FS FA (n0 + W.length * (nA + 1)) 0 h' z0 := by
    refine ⟨A', fun f hf => ?_, fun q hq hq0 => absurd (lay_pos G hq).1 (by omega)⟩
    obtain ⟨t, ht, hdv⟩ := lay_desc G hf
    have := D' (hL.1 f hf) ht
    rw [hdv] at this
    have e1 : fval (n0 + W.length * (nA + 1)) 0 z0 f = fval 0 0 z0 f := by
      unfold fval
      split
      · rfl
      · rfl
      · rename_i hk0 hk1
        by_cases z : f.1 ≤ 0
        · exfalso
          have hd2 := lay_desc G hf
          obtain ⟨t2, ht2, hv2⟩ := hd2
          unfold fval at hv2
          split at hv2
          · contradiction
          · contradiction
          · rw [if_pos z] at hv2; cases t2 <;> simp [defaultValue] at hv2
        · rw [if_neg z, if_neg z]
    rw [e1]; exact this
  have hs2 : h'.size = n0 + sizeW (W ++ [(z0, 0)]) := by
    have q1 : T'.heap.size ≤ s.heap.size + ((ceL kk FA W).1 + 1) := Y'.heapSize
    have q2 : n0 + W.length * (nA + 1) < h'.size := A'.lt
    have q3 : (ceL kk FA W).1 = W.length * (nA + 1) := (ceL_1 _ _ _).trans hW
    rw [e', hs0, q3] at q1
    have q4 : sizeW (W ++ [(z0, 0)]) = sizeW W + 1 := by simp [sizeW]
    rw [q4, hW]
    generalize W.length * (nA + 1) = P at q1 q2 ⊢
    have q5 : h'.size ≤ n0 + (P + 1) := q1
    omega
  obtain ⟨s₂, h1, h2⟩ := h T' locs A (by
      have q1 : (ceL kk FA (W ++ [(z0, 0)])) = ((ceL kk FA W).1 + 1, (ceL kk FA W).2 + kk) := by simp [ceL, ceJ, hc0]
      rw [q1]; exact Y') N (by
      rw [e']
      refine ⟨fun k z hz => ?_, hs2, ⟨Nat.le_trans I.2.2.1 E'.1, fun x c hx => E'.2 x c (I.2.2.2 x c hx)⟩⟩
      by_cases q : k < W.length
      · rw [List.getElem?_append_left q] at hz; exact (I.1 k z hz).ext E'
      · rw [List.getElem?_append_right (Nat.le_of_not_lt q)] at hz
        have : k - W.length = 0 := by
          have := (List.getElem?_eq_some_iff.mp hz).1; simpa using this
        have hk : k = W.length := by omega
        subst hk
        simp at hz; subst hz; exact hR) LO
  refine ⟨s₂, st' _ ?_, h2⟩
  have e2 : up (adL sc n0 nA) (.ref W.length) = .ref (n0 + W.length * (nA + 1)) := by simp [up, adL, hl]
  rw [List.map_cons, e2] at h1
  exact h1
theorem l_init (K : CtxL X Z a0 C FS FA nA kk l0 n1 sc H0 (ceL kk FA) rm kc1 ks1 own nm code ml ret) {idx : Nat} {d : String} {ps : List FieldType} {rt : Option FieldType} (hd : decode code pc = .ok (.invokespecial idx, 3)) (w1 : (Cond.methodLink own idx ⟨C, "<init>", d⟩).before a0 Z = true) (w2 : (Cond.instanceMethod ⟨C, "<init>", d⟩).before a0 Z = true)
    (w4 : (Jvm.Cond.code ⟨C, "<init>", d⟩ code' ml' none).before a0 Z = true) (hy : C ≠ "java/lang/invoke/MethodHandle" ∧ C ≠ "java/lang/invoke/VarHandle") (hpd : parseMethodDescriptor d = some ⟨ps, rt⟩) {vs : List Value} (hvs : ∀ v ∈ vs, v.isRef = false) {i : Nat} (hst : vs.reverse ++ .ref i :: st = st0) (hlen : vs.length = ps.length) {σ' : St} {W0 : List (St × Nat)} (hW : W = W0 ++ [(z0, 0)]) (hi : W0.length = i) (hi' : i ≠ 100) (hsz : sizeW W0 = i * (nA + 1)) (hW' : W0 ++ [(σ', nA)] = W')
    (con : ConI l0 Z C FS FA nA n1 (n1 + i * (nA + 1)) ⟨C, "<init>", d⟩ code' ml' rm' (.ref 0 :: vs) σ') (hml : L.length = ml) (hr1 : rm'.frames + 1 ≤ rm.frames) (hr2 : (st.map fun v => v.category).sum + (ml' + 11) + rm'.locals ≤ rm.locals) (hr3 : rm'.cells = nA) (hr4 : rm'.slots = (ceI FA nA).2) (hc0 : (ceI FA 0).2 = 0) (hr5 : (ceL kk FA W').1 ≤ rm.cells) (hr6 : (ceL kk FA W').2 ≤ rm.slots)
    (h : Go X r (pc + 3) L st W') : Go X r pc L st0 W := by
  obtain ⟨p, l, e, R, s, m, args, below, meth, c, ad, INV, CE, n0, kc, ks⟩ := X
  obtain ⟨⟨hx, hby, hcm, hown, hZ, -⟩, hL, G, rfl, rfl, rfl, rfl, hH, rfl, rfl, rfl, rfl⟩ := K
  subst hi hW hst hW'
  intro T locs A Y N I LO
  have hWi : (W0 ++ [(z0, 0)])[W0.length]? = some (z0, 0) := by simp
  have hR := I.1 _ _ hWi
  have hT : T.heap.size = n0 + W0.length * (nA + 1) + 1 := by
    have q1 := I.2.1
    have q4 : sizeW (W0 ++ [(z0, 0)]) = sizeW W0 + 1 := by simp [sizeW]
    omega
  have c1 : ceL kk FA (W0 ++ [(σ', nA)]) = ((ceL kk FA (W0 ++ [(z0, 0)])).1 + nA, (ceL kk FA (W0 ++ [(z0, 0)])).2 + (ceI FA nA).2) := by
    simp [ceL, ceJ, hc0]; omega
  have hup : ∀ v ∈ vs, up (adL sc n0 nA) v = up (fun k => n0 + W0.length * (nA + 1) + k) v := fun v hv => by
    have := hvs v hv
    cases v <;> simp [Value.isRef, up] at this ⊢
  have eup : vs.map (up (adL sc n0 nA)) = vs.map (up (fun k => n0 + W0.length * (nA + 1) + k)) := List.map_congr_left hup
  have e0 : up (adL sc n0 nA) (.ref W0.length) = .ref (n0 + W0.length * (nA + 1)) := by simp [up, adL, hi']
  obtain ⟨w, vm₁, ⟨T', L', k', n'⟩, -, Y', ⟨Lc, ⟨q1, q2, q3, q4, q5⟩, l', y', z'⟩, st'⟩ := Y.specialBack hx (y := ⟨C, "<init>", d⟩) rfl hown (mvT hZ w1) (mvT hZ w2) (mvT hZ w4) hy
    (MetP.back (W := (st.map fun v => v.category).sum) (con [] T.heap hT hR) hZ w4 hL.2.2 hr1 hr2) (g := mkF m pc A ((vs.reverse ++ .ref W0.length :: st).map (up (adL sc n0 nA)))) rfl (by rw [hcm, ← hml]; exact LO.1) (Steps.refl _) (a := n0 + W0.length * (nA + 1))
    (argsL := vs.map (up (adL sc n0 nA))) (rest := st.map (up (adL sc n0 nA))) (lenOf hpd (by rw [List.length_map]; exact hlen)) (by simp [e0]) (by rw [up_cats]; show 2 * 0 + _ ≤ _; omega) (hb hby hd) (fun _ _ => ⟨by rw [eup]; simp [up], rfl, by show _ + rm'.cells ≤ _; rw [hr3]; rw [c1] at hr5; exact hr5, by show _ + rm'.slots ≤ _; rw [hr4]; rw [c1] at hr6; exact hr6⟩)
  dsimp only [Pt.U, Pt.locs, Pt.cells, Pt.slots] at Y' l' y' z' st' q1 q3 q4 q5
  subst l' y' z' q1
  have eW : (W0 ++ [(z0, 0)]).set W0.length (σ', nA) = W0 ++ [(σ', nA)] := by simp
  obtain ⟨s₂, h1, h2⟩ := h T' _ A (by rw [c1]; simpa [hr3, hr4] using Y') (N.app q2) (by
      have := I.upd G hWi (y := (σ', nA)) q3 q4 (by rw [q5, hT, eW]; simp [sizeW] at hsz ⊢; omega) hH
      rw [eW] at this; exact this) LO
  exact ⟨s₂, st'.trans h1, h2⟩
theorem l_call (K : CtxL X Z a0 C FS FA nA kk l0 n1 sc H0 ce rm kc1 ks1 own nm code ml ret) {idx : Nat} {n d : String} {ps : List FieldType} {rt : Option FieldType} (hd : decode code pc = .ok (.invokevirtual idx, 3)) (w1 : (Cond.methodLink own idx ⟨C, n, d⟩).before a0 Z = true) (w2 : (Cond.instanceMethod ⟨C, n, d⟩).before a0 Z = true)
    (w3 : (Cond.declares ⟨C, n, d⟩).before a0 Z = true) (w3' : (Cond.selects C ⟨C, n, d⟩ ⟨C, n, d⟩).before a0 Z = true) (w4 : (Jvm.Cond.code ⟨C, n, d⟩ code' ml' ret').before a0 Z = true) (hy : C ≠ "java/lang/invoke/MethodHandle" ∧ C ≠ "java/lang/invoke/VarHandle") (hpd : parseMethodDescriptor d = some ⟨ps, rt⟩) {vs : List Value} (hvs : ∀ v ∈ vs, v.isRef = false) {i : Nat} (hi' : i ≠ 100) (hst : vs.reverse ++ .ref i :: st = st0) (hlen : vs.length = ps.length)
    {v : Option Value} (hv : ∀ u, v = some u → u.isRef = false) {σ σ' : St} (hi : W[i]? = some (σ, nA)) (hW' : W.set i (σ', nA) = W') (con : Con l0 Z C FS FA nA n1 (n1 + i * (nA + 1)) ⟨C, n, d⟩ code' ml' ret' rm' (.ref 0 :: vs) σ v σ') (hml : L.length = ml) (hr1 : rm'.frames + 1 ≤ rm.frames) (hr2 : (st.map fun v => v.category).sum + (ml' + 11) + rm'.locals ≤ rm.locals) (hr3 : rm'.cells = 0) (hr4 : rm'.slots = 0)
    (hce : ce W' = ce W) (hr5 : (ce W).1 ≤ rm.cells) (hr6 : (ce W).2 ≤ rm.slots) (h : Go X r (pc + 3) L (v.toList ++ st) W') : Go X r pc L st0 W := by
  obtain ⟨p, l, e, R, s, m, args, below, meth, c, ad, INV, CE, n0, kc, ks⟩ := X
  obtain ⟨⟨hx, hby, hcm, hown, hZ, -⟩, hL, G, rfl, rfl, rfl, rfl, hH, rfl, rfl, rfl, rfl⟩ := K
  subst hst hW'
  intro T locs A Y N I LO
  have hR := I.1 _ _ hi
  obtain ⟨cq, kq, qa, qb, qc⟩ := isOf hZ rfl hR.1
  have hup : ∀ v ∈ vs, up (adL sc n0 nA) v = up (fun k => n0 + i * (nA + 1) + k) v := fun v hv => by
    have := hvs v hv
    cases v <;> simp [Value.isRef, up] at this ⊢
  have eup : vs.map (up (adL sc n0 nA)) = vs.map (up (fun k => n0 + i * (nA + 1) + k)) := List.map_congr_left hup
  have e0 : up (adL sc n0 nA) (.ref i) = .ref (n0 + i * (nA + 1)) := by simp [up, adL, hi']
  obtain ⟨w, vm₁, ⟨T', L', k', n'⟩, -, Y', ⟨Lc, ⟨q1, q2, q3, q4, q5⟩, l', y', z'⟩, st'⟩ := Y.virtualBack hx (y := ⟨C, n, d⟩) (z := ⟨C, n, d⟩) hown (mvT hZ w1) (mvT hZ w3) (notFace_of_selects (args := #[]) (mvT hZ w3')) (mvT hZ w3') (mvT hZ w2) hy
    (MetP.back (W := (st.map fun v => v.category).sum) (con [] T.heap hR) hZ w4 hL.2.2 hr1 hr2) qa qc (g := mkF m pc A ((vs.reverse ++ .ref i :: st).map (up (adL sc n0 nA)))) rfl (by rw [hcm, ← hml]; exact LO.1) (Steps.refl _)
    (argsL := vs.map (up (adL sc n0 nA))) (rest := st.map (up (adL sc n0 nA))) (lenOf hpd (by rw [List.length_map]; exact hlen)) (by simp [e0]) (by rw [up_cats]; show 2 * 0 + _ ≤ _; omega) (hb hby hd) (fun _ _ => ⟨by rw [eup]; simp [up], rfl, by show _ + rm'.cells ≤ _; rw [hr3]; exact hr5, by show _ + rm'.slots ≤ _; rw [hr4]; exact hr6⟩)
  dsimp only [Pt.U, Pt.locs, Pt.cells, Pt.slots] at Y' l' y' z' st' q1 q3 q4 q5
  subst l' y' z' q1
  obtain ⟨s₂, h1, h2⟩ := h T' _ A (by rw [hce]; simpa [hr3, hr4] using Y') (N.app q2) (I.upd G hi (y := (σ', nA)) q3 q4 (by rw [q5, sizeW_set (y := (σ', nA)) hi rfl]; exact I.2.1) hH) LO
  refine ⟨s₂, st'.trans ?_, h2⟩
  have e1 : (v.toList ++ st).map (up (adL sc n0 nA)) = (v.map (up fun k => n0 + i * (nA + 1) + k)).toList ++ st.map (up (adL sc n0 nA)) := by
    cases v with
    | none => simp
    | some u => have := hv u rfl; cases u <;> simp [Value.isRef, up] at this ⊢
  rw [e1] at h1
  exact h1
theorem l_static (K : CtxL X Z a0 C FS FA nA kk l0 n1 sc H0 ce rm kc1 ks1 own nm code ml ret) {idx : Nat} {n d : String} {ps : List FieldType} {rt : Option FieldType} (hd : decode code pc = .ok (.invokestatic idx, 3)) (w1 : (Cond.methodLink own idx ⟨own, n, d⟩).before a0 Z = true) (w2 : (Cond.static ⟨own, n, d⟩).before a0 Z = true)
    (wz : (Cond.initialized own).before a0 Z = true) (w4 : (Jvm.Cond.code ⟨own, n, d⟩ code' ml' ret').before a0 Z = true) (hy : own ≠ "java/lang/invoke/MethodHandle" ∧ own ≠ "java/lang/invoke/VarHandle") (hpd : parseMethodDescriptor d = some ⟨ps, rt⟩) {vs : List Value} (hst : vs.reverse ++ st = st0) (hlen : vs.length = ps.length)
    {v : Option Value} (con : ConL l0 Z C FS FA nA n1 sc H0 ⟨own, n, d⟩ code' ml' ret' rm' vs W v W') (hml : L.length = ml) (hr1 : rm'.frames + 1 ≤ rm.frames) (hr2 : (st.map fun v => v.category).sum + (ml' + 11) + rm'.locals ≤ rm.locals) (hr3 : rm'.cells = 0) (hr4 : rm'.slots = 0)
    (hce : ce W' = ce W) (hr5 : (ce W).1 ≤ rm.cells) (hr6 : (ce W).2 ≤ rm.slots) (h : Go X r (pc + 3) L (v.toList ++ st) W') : Go X r pc L st0 W := by
  obtain ⟨p, l, e, R, s, m, args, below, meth, c, ad, INV, CE, n0, kc, ks⟩ := X
  obtain ⟨⟨hx, hby, hcm, hown, hZ, -⟩, hL, G, rfl, rfl, rfl, rfl, hH, rfl, rfl, rfl, rfl⟩ := K
  subst hst
  intro T locs A Y N I LO
  obtain ⟨w, vm₁, ⟨T', L', k', n'⟩, -, Y', ⟨Lc, ⟨q1, q2, q3⟩, l', y', z'⟩, st'⟩ := Jvm.LawKit.callS Y hx (y := ⟨own, n, d⟩) hown (mvT hZ w1) (mvT hZ w2) (mvT hZ wz) (mvT hZ w4) hy
    (MetP.back (W := (st.map fun v => v.category).sum) (con [] T.heap I) hZ w4 wz hr1 hr2) (g := mkF m pc A ((vs.reverse ++ st).map (up (adL sc n0 nA)))) rfl (by rw [hcm, ← hml]; exact LO.1)
    (argsL := vs.map (up (adL sc n0 nA))) (rest := st.map (up (adL sc n0 nA))) (lenOf hpd (by rw [List.length_map]; exact hlen)) (by simp) (by rw [up_cats]; show 2 * 0 + _ ≤ _; omega) (hb hby hd) (fun _ _ => ⟨rfl, rfl, by show _ + rm'.cells ≤ _; rw [hr3]; exact hr5, by show _ + rm'.slots ≤ _; rw [hr4]; exact hr6⟩)
  dsimp only [Pt.U, Pt.locs, Pt.cells, Pt.slots] at Y' l' y' z' st' q1 q3
  subst l' y' z' q1
  obtain ⟨s₂, h1, h2⟩ := h T' _ A (by rw [hce]; simpa [hr3, hr4] using Y') (N.app q2) q3 LO
  refine ⟨s₂, st' _ ?_, h2⟩
  have e1 : (v.toList ++ st).map (up (adL sc n0 nA)) = (v.map (up (adL sc n0 nA))).toList ++ st.map (up (adL sc n0 nA)) := by cases v <;> simp
  rw [e1] at h1
  exact h1
theorem l_len (K : CtxL X Z a0 C FS FA nA kk l0 n1 sc H0 ce rm kc1 ks1 own nm code ml ret) {z : Int32} {f : Int → Int32} (hS : Script Z H0 sc z f) (hd : decode code pc = .ok (.arraylength, 1)) (h : Go X r (pc + 1) L (.int z :: st) W) : Go X r pc L (.ref 100 :: st) W := by
  obtain ⟨p, l, e, R, s, m, args, below, meth, c, ad, INV, CE, n0, kc, ks⟩ := X
  obtain ⟨⟨hx, hby, hcm, hown, hZ, -⟩, hL, G, rfl, rfl, rfl, rfl, hH, rfl, rfl, rfl, rfl⟩ := K
  intro T locs A Y N I LO
  obtain ⟨cl, F1, F2, F3, F4⟩ := hS
  obtain ⟨s₂, h1, h2⟩ := h T locs A Y N I LO
  have ez : cl.slots.size.toInt32 = z := by
    rw [F2]; exact (back32 (by rw [Int32.lt_iff_toInt_lt]; have e0 : (0 : Int32).toInt = 0 := rfl; omega)).1
  refine ⟨s₂, Y.arraylength hx (I.2.2.2 _ _ F1.1) (State.isArrayOf_alike hZ.alike F1.2.1) (g := mkF m pc A ((Value.ref 100 :: st).map (up (adL sc n0 nA)))) rfl rfl (hb hby hd) _ ?_, h2⟩
  rw [ez]; exact h1
theorem l_iaload (K : CtxL X Z a0 C FS FA nA kk l0 n1 sc H0 ce rm kc1 ks1 own nm code ml ret) {z i : Int32} {f : Int → Int32} (hS : Script Z H0 sc z f) (hd : decode code pc = .ok (.iaload, 1)) (hi : 0 ≤ i.toInt ∧ i.toInt < z.toInt) (h : Go X r (pc + 1) L (.int (f i.toInt) :: st) W) : Go X r pc L (.int i :: .ref 100 :: st) W := by
  obtain ⟨p, l, e, R, s, m, args, below, meth, c, ad, INV, CE, n0, kc, ks⟩ := X
  obtain ⟨⟨hx, hby, hcm, hown, hZ, -⟩, hL, G, rfl, rfl, rfl, rfl, hH, rfl, rfl, rfl, rfl⟩ := K
  intro T locs A Y N I LO
  obtain ⟨cl, F1, F2, F3, F4⟩ := hS
  obtain ⟨s₂, h1, h2⟩ := h T locs A Y N I LO
  have hz : (z.toNatClampNeg : Int) = z.toInt := by simp only [Int32.toNatClampNeg]; omega
  exact ⟨s₂, Y.iaload hx (I.2.2.2 _ _ F1.1) (State.isArrayOf_alike hZ.alike F1.2.1) F1.2.2 (inb F2 hi.1 (by omega)) (at_arr F4 hi.1 (by omega)) (g := mkF m pc A ((Value.int i :: .ref 100 :: st).map (up (adL sc n0 nA)))) rfl rfl (hb hby hd) _ h1, h2⟩
end RulesL
theorem Script.le0 {Z : State} {H0 : Heap} {sc : Nat} {z : Int32} {f : Int → Int32} (h : Script Z H0 sc z f) : 0 ≤ z.toInt := by obtain ⟨_, -, -, q, -⟩ := h; exact q
theorem script_start {s : State} {args : Array Value} {sc : Nat} {n : Int32} (hf : Fit s) (esc : (Term.arg 0).eval args s none [] s = some (.ref sc)) (nA : (Cond.arrayOf (.arg 0) .int).value args s none s [] = some true) (nL : (Cond.le (.length (.arg 0)) (.int n)).value args s none s [] = some true) :
    ∃ (z : Int32) (f : Int → Int32), Script s s.heap sc z f ∧ z.toInt ≤ n.toInt := by
  obtain ⟨cl, A⟩ := Arr.start esc nA
  obtain ⟨x, y, ex, ey, -, -⟩ := cmp_v (r := true) (Or.inr (Or.inr nL))
  obtain ⟨sd, SA, hev, harrAt, -⟩ := Term.length_spec ex
  cases esc.symm.trans hev
  have h31 := SBG.length_lt hev harrAt ex
  have e1 := A.fin (Vm.Alike.refl _)
  cases e1.symm.trans harrAt
  obtain ⟨z, hz, S⟩ := Scr.start hf A h31
  obtain ⟨-, S2, S3, S4⟩ := S
  have e0 : (0 : Int32).toInt = 0 := rfl
  rw [Int32.lt_iff_toInt_lt, e0] at S3
  refine ⟨z, fun i => atv cl (Int32.ofInt i), ⟨cl, A, S2, by omega, fun i hi => ?_⟩, ?_⟩
  · have hi2 : (i : Int) < 2 ^ 31 := by have := z.toInt_lt; simp only [Int32.toNatClampNeg] at hi; omega
    have e2 : (Int32.ofInt (i : Int)).toInt = i := Int32.toInt_ofInt_of_le (by omega) (by omega)
    have e3 : (Int32.ofInt (i : Int)).toNatClampNeg = i := by simp [Int32.toNatClampNeg, e2]
    have := S4 (Int32.ofInt (i : Int)) (by rw [Int32.lt_iff_toInt_lt, e0, e2, e3]; omega)
    rw [e3] at this; exact this
  · have q1 := len_f hev harrAt h31
    have q2 := gotT (Cond.le_ints q1 (Term.int_eval n)) nL
    rw [← hz] at q2
    exact Int32.le_iff_toInt_le.mp q2
end Jvm.OwnFlat
namespace Jvm.OwnFlat
open Jvm Jvm.ClassFile Jvm.RoadKit
/-! ## 8. ints -/
theorem lt_i {x y : Int32} : x < y ↔ x.toInt < y.toInt := Int32.lt_iff_toInt_lt
theorem eq_i32 {x y : Int32} : x = y ↔ x.toInt = y.toInt := Int32.toInt_inj.symm
theorem i_add {x y : Int32} (h1 : -2147483648 ≤ x.toInt + y.toInt) (h2 : x.toInt + y.toInt < 2147483648) : (x + y).toInt = x.toInt + y.toInt := by
  have q := c_iadd x y; have r := rng32 (x + y); omega
theorem i_sub {x y : Int32} (h1 : -2147483648 ≤ x.toInt - y.toInt) (h2 : x.toInt - y.toInt < 2147483648) : (x - y).toInt = x.toInt - y.toInt := by
  have q := c_isub x y; have r := rng32 (x - y); omega
theorem i_inc {x : Int32} (h : x.toInt < 2147483647) : (x + 1).toInt = x.toInt + 1 := by
  have e : (1 : Int32).toInt = 1 := rfl
  have r := rng32 x
  rw [i_add (by omega) (by omega), e]
theorem nar0 : nar .boolean 0 = 0 := by decide
theorem nar1 : nar .boolean 1 = 1 := by decide
theorem narc0 : nar .char 0 = 0 := by decide
/-- a loop that counts up to N -/
theorem loop_up {A R : Type} {l : Nat → Int32 → A → Option R} {w : (Int32 → A → Option R) → Int32 → A → Option R} (hl : ∀ n i x, l (n + 1) i x = w (l n) i x) (N : Int) (hN : N < 2147483648) (P : Int → A → Prop) (Q : Option R → Prop)
    (step : ∀ (k : Int32 → A → Option R) i x, 0 ≤ i.toInt → i.toInt < N → P i.toInt x → (∀ x', P (i.toInt + 1) x' → Q (k (i + 1) x')) → Q (w k i x))
    (done : ∀ (k : Int32 → A → Option R) i x, i.toInt = N → P N x → Q (w k i x)) :
    ∀ (n : Nat) (i : Int32) (x : A), 0 ≤ i.toInt → i.toInt ≤ N → P i.toInt x → N - i.toInt < n → Q (l n i x) := by
  intro n
  induction n with
  | zero => intro i x h0 h1 hp hn; omega
  | succ n ih =>
    intro i x h0 h1 hp hn
    rw [hl]
    by_cases h : i.toInt < N
    · refine step _ i x h0 h hp fun x' hx' => ?_
      have e := i_inc (x := i) (by omega)
      refine ih (i + 1) x' (by omega) (by omega) (by rw [e]; exact hx') (by omega)
    · have : i.toInt = N := by omega
      exact done _ i x this (this ▸ hp)
/-- n rounds of a loop's body -/
def iterS (body : Int → St → St) : Nat → St → St
  | 0, σ => σ
  | n + 1, σ => body n (iterS body n σ)
theorem for_loop {R : Type} {l : Nat → Int32 → St → Option R} {w : (Int32 → St → Option R) → Int32 → St → Option R} (hl : ∀ n i x, l (n + 1) i x = w (l n) i x) (N : Nat) (hN : (N : Int) < 2147483648) (body : Int → St → St) (fin : St → Option R)
    (hw : ∀ (k : Int32 → St → Option R) (i : Int32) (σ : St), 0 ≤ i.toInt → i.toInt < N → w k i σ = k (i + 1) (body i.toInt σ)) (hd : ∀ (k : Int32 → St → Option R) (i : Int32) (σ : St), i.toInt = N → w k i σ = fin σ) (NF : Nat) (hF : N < NF) (σ : St) : l NF 0 σ = fin (iterS body N σ) := by
  refine loop_up hl N hN (fun i x => x = iterS body i.toNat σ) (fun o => o = fin (iterS body N σ)) ?_ ?_ NF 0 σ (by decide) (by have e : (0 : Int32).toInt = 0 := rfl; omega) rfl (by have e : (0 : Int32).toInt = 0 := rfl; omega)
  · intro k i x h0 h1 hp ih
    rw [hw k i x h0 h1]
    refine ih _ ?_
    subst hp
    have e : (i.toInt + 1).toNat = i.toInt.toNat + 1 := by omega
    rw [e]
    show _ = body _ _
    rw [Int.toNat_of_nonneg h0]
  · intro k i x hi hp
    rw [hd k i x hi, hp]; rfl
/-- one array filled from 0 -/
def fillS (σ : St) (k : Nat) (N : Int) (g : Int → Int32) : St := (σ.1, σ.2.1, fun q j => if q = k ∧ 0 ≤ j ∧ j < N then g j else σ.2.2 q j)
theorem gI_fill (σ : St) (k q : Nat) (N : Int) (g : Int → Int32) : gI (fillS σ k N g) q = gI σ q := rfl
theorem gL_fill (σ : St) (k q : Nat) (N : Int) (g : Int → Int32) : gL (fillS σ k N g) q = gL σ q := rfl
theorem gA_fill (σ : St) (k q : Nat) (N j : Int) (g : Int → Int32) : gA (fillS σ k N g) q j = if q = k ∧ 0 ≤ j ∧ j < N then g j else gA σ q j := rfl
theorem fill_iter (σ : St) (k : Nat) (g : Int → Int32) (N : Nat) : iterS (fun i σ => sA σ k i (g i)) N σ = fillS σ k N g := by
  induction N with
  | zero =>
    show σ = _
    obtain ⟨a, b, c⟩ := σ
    simp only [fillS]
    congr 2
    funext q j
    rw [if_neg]; intro h; have := h.2.1; have := h.2.2; omega
  | succ n ih =>
    show sA (iterS _ n σ) k n (g n) = _
    rw [ih]
    simp only [fillS, sA]
    congr 2
    funext q j
    by_cases h1 : q = k
    · subst h1
      by_cases h2 : j = n
      · subst h2; simp; omega
      · simp only [h2, and_false, if_false, true_and]
        by_cases h3 : 0 ≤ j ∧ j < (n : Int)
        · rw [if_pos h3, if_pos (by omega)]
        · rw [if_neg h3, if_neg (by omega)]
    · simp [h1]
theorem fill_loop {R : Type} {l : Nat → Int32 → St → Option R} {w : (Int32 → St → Option R) → Int32 → St → Option R} (hl : ∀ n i x, l (n + 1) i x = w (l n) i x) (N : Nat) (hN : (N : Int) < 2147483648) (k : Nat) (g : Int → Int32) (fin : St → Option R)
    (hw : ∀ (kk : Int32 → St → Option R) (i : Int32) (σ : St), 0 ≤ i.toInt → i.toInt < N → w kk i σ = kk (i + 1) (sA σ k i.toInt (g i.toInt))) (hd : ∀ (kk : Int32 → St → Option R) (i : Int32) (σ : St), i.toInt = N → w kk i σ = fin σ) (NF : Nat) (hF : N < NF) (σ : St) : l NF 0 σ = fin (fillS σ k N g) := by
  rw [for_loop hl N hN (fun i σ => sA σ k i (g i)) fin hw hd NF hF σ, fill_iter]
end Jvm.OwnFlat
namespace Jvm.Pilot.@@N@@
open Jvm Jvm.ClassFile Sem Op Lib Jvm.Free Jvm.Stand Jvm.LawKit Jvm.RoadKit Jvm.OwnFlat Jvm.Pilot.@@N@@.Jvm.D
set_option maxRecDepth 65536
set_option maxHeartbeats 40000000
/-! class NtruToy: f=1; g=2; m=3; r=4; c=5; kf=6; fp=7; fq=8; h=9; a=10; d=11; mat=12; invP=13; invQ=14; lift=15; lift2=16; n=121; q=122; bound=123; keyed=124; keys=125; selInvP=142; selInvQ=143; selLift=144; selLift2=145 -/
def HW (a0 : Array Value) (Z : State) : Prop := ∀ d ∈ tables_1, d.before a0 Z = true
theorem w0 {a0 : Array Value} {Z : State} (hw : HW a0 Z) : (Jvm.Cond.classLink "NtruToyL5" 7 "NtruToy").before a0 Z = true := hw _ (List.mem_of_getElem? (i := 0) rfl)
theorem w1 {a0 : Array Value} {Z : State} (hw : HW a0 Z) : (Jvm.Cond.instantiable "NtruToy" 25).before a0 Z = true := hw _ (List.mem_of_getElem? (i := 1) rfl)
theorem w2 {a0 : Array Value} {Z : State} (hw : HW a0 Z) : (Jvm.Cond.initialized "NtruToy").before a0 Z = true := hw _ (List.mem_of_getElem? (i := 2) rfl)
theorem w3 {a0 : Array Value} {Z : State} (hw : HW a0 Z) : (Jvm.Cond.methodLink "NtruToyL5" 9 ⟨"NtruToy", "<init>", "(II)V"⟩).before a0 Z = true := hw _ (List.mem_of_getElem? (i := 3) rfl)
theorem w4 {a0 : Array Value} {Z : State} (hw : HW a0 Z) : (Jvm.Cond.instanceMethod ⟨"NtruToy", "<init>", "(II)V"⟩).before a0 Z = true := hw _ (List.mem_of_getElem? (i := 4) rfl)
theorem w5 {a0 : Array Value} {Z : State} (hw : HW a0 Z) : (Jvm.Cond.code ⟨"NtruToy", "<init>", "(II)V"⟩ prog_1_method_1_code 5 none).before a0 Z = true := hw _ (List.mem_of_getElem? (i := 5) rfl)
theorem w6 {a0 : Array Value} {Z : State} (hw : HW a0 Z) : (Jvm.Cond.methodLink "NtruToy" 1 ⟨"java/lang/Object", "<init>", "()V"⟩).before a0 Z = true := hw _ (List.mem_of_getElem? (i := 6) rfl)
theorem w7 {a0 : Array Value} {Z : State} (hw : HW a0 Z) : (Jvm.Cond.instanceMethod ⟨"java/lang/Object", "<init>", "()V"⟩).before a0 Z = true := hw _ (List.mem_of_getElem? (i := 7) rfl)
theorem w8 {a0 : Array Value} {Z : State} (hw : HW a0 Z) : (Jvm.Cond.code ⟨"java/lang/Object", "<init>", "()V"⟩ object_method_1_code 1 none).before a0 Z = true := hw _ (List.mem_of_getElem? (i := 8) rfl)
theorem w9 {a0 : Array Value} {Z : State} (hw : HW a0 Z) : (Jvm.Cond.arrayClass Jvm.ClassFile.FieldType.int).before a0 Z = true := hw _ (List.mem_of_getElem? (i := 9) rfl)
theorem w10 {a0 : Array Value} {Z : State} (hw : HW a0 Z) : (Jvm.Cond.fieldLink "NtruToy" 7 "NtruToy" "f" "[I").before a0 Z = true := hw _ (List.mem_of_getElem? (i := 10) rfl)
theorem w11 {a0 : Array Value} {Z : State} (hw : HW a0 Z) : (Jvm.Cond.lays "NtruToy" "NtruToy" "f" "[I").before a0 Z = true := hw _ (List.mem_of_getElem? (i := 11) rfl)
theorem w12 {a0 : Array Value} {Z : State} (hw : HW a0 Z) : (Jvm.Cond.fieldLink "NtruToy" 13 "NtruToy" "g" "[I").before a0 Z = true := hw _ (List.mem_of_getElem? (i := 12) rfl)
theorem w13 {a0 : Array Value} {Z : State} (hw : HW a0 Z) : (Jvm.Cond.lays "NtruToy" "NtruToy" "g" "[I").before a0 Z = true := hw _ (List.mem_of_getElem? (i := 13) rfl)
theorem w14 {a0 : Array Value} {Z : State} (hw : HW a0 Z) : (Jvm.Cond.fieldLink "NtruToy" 16 "NtruToy" "m" "[I").before a0 Z = true := hw _ (List.mem_of_getElem? (i := 14) rfl)
theorem w15 {a0 : Array Value} {Z : State} (hw : HW a0 Z) : (Jvm.Cond.lays "NtruToy" "NtruToy" "m" "[I").before a0 Z = true := hw _ (List.mem_of_getElem? (i := 15) rfl)
theorem w16 {a0 : Array Value} {Z : State} (hw : HW a0 Z) : (Jvm.Cond.fieldLink "NtruToy" 19 "NtruToy" "r" "[I").before a0 Z = true := hw _ (List.mem_of_getElem? (i := 16) rfl)
theorem w17 {a0 : Array Value} {Z : State} (hw : HW a0 Z) : (Jvm.Cond.lays "NtruToy" "NtruToy" "r" "[I").before a0 Z = true := hw _ (List.mem_of_getElem? (i := 17) rfl)
theorem w18 {a0 : Array Value} {Z : State} (hw : HW a0 Z) : (Jvm.Cond.fieldLink "NtruToy" 22 "NtruToy" "c" "[I").before a0 Z = true := hw _ (List.mem_of_getElem? (i := 18) rfl)
theorem w19 {a0 : Array Value} {Z : State} (hw : HW a0 Z) : (Jvm.Cond.lays "NtruToy" "NtruToy" "c" "[I").before a0 Z = true := hw _ (List.mem_of_getElem? (i := 19) rfl)
theorem w20 {a0 : Array Value} {Z : State} (hw : HW a0 Z) : (Jvm.Cond.fieldLink "NtruToy" 25 "NtruToy" "kf" "[I").before a0 Z = true := hw _ (List.mem_of_getElem? (i := 20) rfl)
theorem w21 {a0 : Array Value} {Z : State} (hw : HW a0 Z) : (Jvm.Cond.lays "NtruToy" "NtruToy" "kf" "[I").before a0 Z = true := hw _ (List.mem_of_getElem? (i := 21) rfl)
theorem w22 {a0 : Array Value} {Z : State} (hw : HW a0 Z) : (Jvm.Cond.fieldLink "NtruToy" 28 "NtruToy" "fp" "[I").before a0 Z = true := hw _ (List.mem_of_getElem? (i := 22) rfl)
theorem w23 {a0 : Array Value} {Z : State} (hw : HW a0 Z) : (Jvm.Cond.lays "NtruToy" "NtruToy" "fp" "[I").before a0 Z = true := hw _ (List.mem_of_getElem? (i := 23) rfl)
theorem w24 {a0 : Array Value} {Z : State} (hw : HW a0 Z) : (Jvm.Cond.fieldLink "NtruToy" 31 "NtruToy" "fq" "[I").before a0 Z = true := hw _ (List.mem_of_getElem? (i := 24) rfl)
theorem w25 {a0 : Array Value} {Z : State} (hw : HW a0 Z) : (Jvm.Cond.lays "NtruToy" "NtruToy" "fq" "[I").before a0 Z = true := hw _ (List.mem_of_getElem? (i := 25) rfl)
theorem w26 {a0 : Array Value} {Z : State} (hw : HW a0 Z) : (Jvm.Cond.fieldLink "NtruToy" 34 "NtruToy" "h" "[I").before a0 Z = true := hw _ (List.mem_of_getElem? (i := 26) rfl)
theorem w27 {a0 : Array Value} {Z : State} (hw : HW a0 Z) : (Jvm.Cond.lays "NtruToy" "NtruToy" "h" "[I").before a0 Z = true := hw _ (List.mem_of_getElem? (i := 27) rfl)
theorem w28 {a0 : Array Value} {Z : State} (hw : HW a0 Z) : (Jvm.Cond.fieldLink "NtruToy" 37 "NtruToy" "a" "[I").before a0 Z = true := hw _ (List.mem_of_getElem? (i := 28) rfl)
theorem w29 {a0 : Array Value} {Z : State} (hw : HW a0 Z) : (Jvm.Cond.lays "NtruToy" "NtruToy" "a" "[I").before a0 Z = true := hw _ (List.mem_of_getElem? (i := 29) rfl)
theorem w30 {a0 : Array Value} {Z : State} (hw : HW a0 Z) : (Jvm.Cond.fieldLink "NtruToy" 40 "NtruToy" "d" "[I").before a0 Z = true := hw _ (List.mem_of_getElem? (i := 30) rfl)
theorem w31 {a0 : Array Value} {Z : State} (hw : HW a0 Z) : (Jvm.Cond.lays "NtruToy" "NtruToy" "d" "[I").before a0 Z = true := hw _ (List.mem_of_getElem? (i := 31) rfl)
theorem w32 {a0 : Array Value} {Z : State} (hw : HW a0 Z) : (Jvm.Cond.fieldLink "NtruToy" 43 "NtruToy" "mat" "[I").before a0 Z = true := hw _ (List.mem_of_getElem? (i := 32) rfl)
theorem w33 {a0 : Array Value} {Z : State} (hw : HW a0 Z) : (Jvm.Cond.lays "NtruToy" "NtruToy" "mat" "[I").before a0 Z = true := hw _ (List.mem_of_getElem? (i := 33) rfl)
theorem w34 {a0 : Array Value} {Z : State} (hw : HW a0 Z) : (Jvm.Cond.fieldLink "NtruToy" 46 "NtruToy" "invP" "[I").before a0 Z = true := hw _ (List.mem_of_getElem? (i := 34) rfl)
theorem w35 {a0 : Array Value} {Z : State} (hw : HW a0 Z) : (Jvm.Cond.lays "NtruToy" "NtruToy" "invP" "[I").before a0 Z = true := hw _ (List.mem_of_getElem? (i := 35) rfl)
theorem w36 {a0 : Array Value} {Z : State} (hw : HW a0 Z) : (Jvm.Cond.fieldLink "NtruToy" 49 "NtruToy" "invQ" "[I").before a0 Z = true := hw _ (List.mem_of_getElem? (i := 36) rfl)
theorem w37 {a0 : Array Value} {Z : State} (hw : HW a0 Z) : (Jvm.Cond.lays "NtruToy" "NtruToy" "invQ" "[I").before a0 Z = true := hw _ (List.mem_of_getElem? (i := 37) rfl)
theorem w38 {a0 : Array Value} {Z : State} (hw : HW a0 Z) : (Jvm.Cond.fieldLink "NtruToy" 52 "NtruToy" "lift" "[I").before a0 Z = true := hw _ (List.mem_of_getElem? (i := 38) rfl)
theorem w39 {a0 : Array Value} {Z : State} (hw : HW a0 Z) : (Jvm.Cond.lays "NtruToy" "NtruToy" "lift" "[I").before a0 Z = true := hw _ (List.mem_of_getElem? (i := 39) rfl)
theorem w40 {a0 : Array Value} {Z : State} (hw : HW a0 Z) : (Jvm.Cond.fieldLink "NtruToy" 55 "NtruToy" "lift2" "[I").before a0 Z = true := hw _ (List.mem_of_getElem? (i := 40) rfl)
theorem w41 {a0 : Array Value} {Z : State} (hw : HW a0 Z) : (Jvm.Cond.lays "NtruToy" "NtruToy" "lift2" "[I").before a0 Z = true := hw _ (List.mem_of_getElem? (i := 41) rfl)
theorem w42 {a0 : Array Value} {Z : State} (hw : HW a0 Z) : (Jvm.Cond.fieldLink "NtruToy" 58 "NtruToy" "selInvP" "I").before a0 Z = true := hw _ (List.mem_of_getElem? (i := 42) rfl)
theorem w43 {a0 : Array Value} {Z : State} (hw : HW a0 Z) : (Jvm.Cond.lays "NtruToy" "NtruToy" "selInvP" "I").before a0 Z = true := hw _ (List.mem_of_getElem? (i := 43) rfl)
theorem w44 {a0 : Array Value} {Z : State} (hw : HW a0 Z) : (Jvm.Cond.fieldLink "NtruToy" 62 "NtruToy" "selInvQ" "I").before a0 Z = true := hw _ (List.mem_of_getElem? (i := 44) rfl)
theorem w45 {a0 : Array Value} {Z : State} (hw : HW a0 Z) : (Jvm.Cond.lays "NtruToy" "NtruToy" "selInvQ" "I").before a0 Z = true := hw _ (List.mem_of_getElem? (i := 45) rfl)
theorem w46 {a0 : Array Value} {Z : State} (hw : HW a0 Z) : (Jvm.Cond.fieldLink "NtruToy" 65 "NtruToy" "selLift" "I").before a0 Z = true := hw _ (List.mem_of_getElem? (i := 46) rfl)
theorem w47 {a0 : Array Value} {Z : State} (hw : HW a0 Z) : (Jvm.Cond.lays "NtruToy" "NtruToy" "selLift" "I").before a0 Z = true := hw _ (List.mem_of_getElem? (i := 47) rfl)
theorem w48 {a0 : Array Value} {Z : State} (hw : HW a0 Z) : (Jvm.Cond.fieldLink "NtruToy" 68 "NtruToy" "selLift2" "I").before a0 Z = true := hw _ (List.mem_of_getElem? (i := 48) rfl)
theorem w49 {a0 : Array Value} {Z : State} (hw : HW a0 Z) : (Jvm.Cond.lays "NtruToy" "NtruToy" "selLift2" "I").before a0 Z = true := hw _ (List.mem_of_getElem? (i := 49) rfl)
theorem w50 {a0 : Array Value} {Z : State} (hw : HW a0 Z) : (Jvm.Cond.methodLink "NtruToy" 71 ⟨"NtruToy", "clampInt", "(III)I"⟩).before a0 Z = true := hw _ (List.mem_of_getElem? (i := 50) rfl)
theorem w51 {a0 : Array Value} {Z : State} (hw : HW a0 Z) : (Jvm.Cond.instanceMethod ⟨"NtruToy", "clampInt", "(III)I"⟩).before a0 Z = true := hw _ (List.mem_of_getElem? (i := 51) rfl)
theorem w52 {a0 : Array Value} {Z : State} (hw : HW a0 Z) : (Jvm.Cond.privateMethod ⟨"NtruToy", "clampInt", "(III)I"⟩).before a0 Z = true := hw _ (List.mem_of_getElem? (i := 52) rfl)
theorem w53 {a0 : Array Value} {Z : State} (hw : HW a0 Z) : (Jvm.Cond.code ⟨"NtruToy", "clampInt", "(III)I"⟩ prog_1_method_15_code 4 (some .int)).before a0 Z = true := hw _ (List.mem_of_getElem? (i := 53) rfl)
theorem w54 {a0 : Array Value} {Z : State} (hw : HW a0 Z) : (Jvm.Cond.fieldLink "NtruToy" 75 "NtruToy" "n" "I").before a0 Z = true := hw _ (List.mem_of_getElem? (i := 54) rfl)
theorem w55 {a0 : Array Value} {Z : State} (hw : HW a0 Z) : (Jvm.Cond.lays "NtruToy" "NtruToy" "n" "I").before a0 Z = true := hw _ (List.mem_of_getElem? (i := 55) rfl)
theorem w56 {a0 : Array Value} {Z : State} (hw : HW a0 Z) : (Jvm.Cond.methodLink "NtruToy" 78 ⟨"NtruToy", "powerOfTwo", "(I)I"⟩).before a0 Z = true := hw _ (List.mem_of_getElem? (i := 56) rfl)
theorem w57 {a0 : Array Value} {Z : State} (hw : HW a0 Z) : (Jvm.Cond.instanceMethod ⟨"NtruToy", "powerOfTwo", "(I)I"⟩).before a0 Z = true := hw _ (List.mem_of_getElem? (i := 57) rfl)
theorem w58 {a0 : Array Value} {Z : State} (hw : HW a0 Z) : (Jvm.Cond.privateMethod ⟨"NtruToy", "powerOfTwo", "(I)I"⟩).before a0 Z = true := hw _ (List.mem_of_getElem? (i := 58) rfl)
theorem w59 {a0 : Array Value} {Z : State} (hw : HW a0 Z) : (Jvm.Cond.code ⟨"NtruToy", "powerOfTwo", "(I)I"⟩ prog_1_method_16_code 4 (some .int)).before a0 Z = true := hw _ (List.mem_of_getElem? (i := 59) rfl)
theorem w60 {a0 : Array Value} {Z : State} (hw : HW a0 Z) : (Jvm.Cond.fieldLink "NtruToy" 82 "NtruToy" "q" "I").before a0 Z = true := hw _ (List.mem_of_getElem? (i := 60) rfl)
theorem w61 {a0 : Array Value} {Z : State} (hw : HW a0 Z) : (Jvm.Cond.lays "NtruToy" "NtruToy" "q" "I").before a0 Z = true := hw _ (List.mem_of_getElem? (i := 61) rfl)
theorem w62 {a0 : Array Value} {Z : State} (hw : HW a0 Z) : (Jvm.Cond.fieldLink "NtruToy" 85 "NtruToy" "bound" "I").before a0 Z = true := hw _ (List.mem_of_getElem? (i := 62) rfl)
theorem w63 {a0 : Array Value} {Z : State} (hw : HW a0 Z) : (Jvm.Cond.lays "NtruToy" "NtruToy" "bound" "I").before a0 Z = true := hw _ (List.mem_of_getElem? (i := 63) rfl)
theorem w64 {a0 : Array Value} {Z : State} (hw : HW a0 Z) : (Jvm.Cond.fieldLink "NtruToy" 88 "NtruToy" "keyed" "Z").before a0 Z = true := hw _ (List.mem_of_getElem? (i := 64) rfl)
theorem w65 {a0 : Array Value} {Z : State} (hw : HW a0 Z) : (Jvm.Cond.lays "NtruToy" "NtruToy" "keyed" "Z").before a0 Z = true := hw _ (List.mem_of_getElem? (i := 65) rfl)
theorem w66 {a0 : Array Value} {Z : State} (hw : HW a0 Z) : (Jvm.Cond.fieldLink "NtruToy" 92 "NtruToy" "keys" "I").before a0 Z = true := hw _ (List.mem_of_getElem? (i := 66) rfl)
theorem w67 {a0 : Array Value} {Z : State} (hw : HW a0 Z) : (Jvm.Cond.lays "NtruToy" "NtruToy" "keys" "I").before a0 Z = true := hw _ (List.mem_of_getElem? (i := 67) rfl)
theorem w68 {a0 : Array Value} {Z : State} (hw : HW a0 Z) : (Jvm.Cond.methodLink "NtruToyL5" 24 ⟨"NtruToy", "keygen", "()I"⟩).before a0 Z = true := hw _ (List.mem_of_getElem? (i := 68) rfl)
theorem w69 {a0 : Array Value} {Z : State} (hw : HW a0 Z) : (Jvm.Cond.declares ⟨"NtruToy", "keygen", "()I"⟩).before a0 Z = true := hw _ (List.mem_of_getElem? (i := 69) rfl)
theorem w70 {a0 : Array Value} {Z : State} (hw : HW a0 Z) : (Jvm.Cond.instanceMethod ⟨"NtruToy", "keygen", "()I"⟩).before a0 Z = true := hw _ (List.mem_of_getElem? (i := 70) rfl)
theorem w71 {a0 : Array Value} {Z : State} (hw : HW a0 Z) : (Jvm.Cond.selects "NtruToy" ⟨"NtruToy", "keygen", "()I"⟩ ⟨"NtruToy", "keygen", "()I"⟩).before a0 Z = true := hw _ (List.mem_of_getElem? (i := 71) rfl)
theorem w72 {a0 : Array Value} {Z : State} (hw : HW a0 Z) : (Jvm.Cond.code ⟨"NtruToy", "keygen", "()I"⟩ prog_1_method_8_code 3 (some .int)).before a0 Z = true := hw _ (List.mem_of_getElem? (i := 72) rfl)
theorem w73 {a0 : Array Value} {Z : State} (hw : HW a0 Z) : (Jvm.Cond.methodLink "NtruToy" 128 ⟨"NtruToy", "invertModThree", "()Z"⟩).before a0 Z = true := hw _ (List.mem_of_getElem? (i := 73) rfl)
theorem w74 {a0 : Array Value} {Z : State} (hw : HW a0 Z) : (Jvm.Cond.instanceMethod ⟨"NtruToy", "invertModThree", "()Z"⟩).before a0 Z = true := hw _ (List.mem_of_getElem? (i := 74) rfl)
theorem w75 {a0 : Array Value} {Z : State} (hw : HW a0 Z) : (Jvm.Cond.privateMethod ⟨"NtruToy", "invertModThree", "()Z"⟩).before a0 Z = true := hw _ (List.mem_of_getElem? (i := 75) rfl)
theorem w76 {a0 : Array Value} {Z : State} (hw : HW a0 Z) : (Jvm.Cond.code ⟨"NtruToy", "invertModThree", "()Z"⟩ prog_1_method_57_code 1 (some .boolean)).before a0 Z = true := hw _ (List.mem_of_getElem? (i := 76) rfl)
theorem w77 {a0 : Array Value} {Z : State} (hw : HW a0 Z) : (Jvm.Cond.methodLink "NtruToy" 234 ⟨"NtruToy", "invertByElimination", "(II)Z"⟩).before a0 Z = true := hw _ (List.mem_of_getElem? (i := 77) rfl)
theorem w78 {a0 : Array Value} {Z : State} (hw : HW a0 Z) : (Jvm.Cond.instanceMethod ⟨"NtruToy", "invertByElimination", "(II)Z"⟩).before a0 Z = true := hw _ (List.mem_of_getElem? (i := 78) rfl)
theorem w79 {a0 : Array Value} {Z : State} (hw : HW a0 Z) : (Jvm.Cond.privateMethod ⟨"NtruToy", "invertByElimination", "(II)Z"⟩).before a0 Z = true := hw _ (List.mem_of_getElem? (i := 79) rfl)
theorem w80 {a0 : Array Value} {Z : State} (hw : HW a0 Z) : (Jvm.Cond.code ⟨"NtruToy", "invertByElimination", "(II)Z"⟩ prog_1_method_56_code 4 (some .boolean)).before a0 Z = true := hw _ (List.mem_of_getElem? (i := 80) rfl)
theorem w81 {a0 : Array Value} {Z : State} (hw : HW a0 Z) : (Jvm.Cond.methodLink "NtruToy" 222 ⟨"NtruToy", "buildSystem", "(I)V"⟩).before a0 Z = true := hw _ (List.mem_of_getElem? (i := 81) rfl)
theorem w82 {a0 : Array Value} {Z : State} (hw : HW a0 Z) : (Jvm.Cond.instanceMethod ⟨"NtruToy", "buildSystem", "(I)V"⟩).before a0 Z = true := hw _ (List.mem_of_getElem? (i := 82) rfl)
theorem w83 {a0 : Array Value} {Z : State} (hw : HW a0 Z) : (Jvm.Cond.privateMethod ⟨"NtruToy", "buildSystem", "(I)V"⟩).before a0 Z = true := hw _ (List.mem_of_getElem? (i := 83) rfl)
theorem w84 {a0 : Array Value} {Z : State} (hw : HW a0 Z) : (Jvm.Cond.code ⟨"NtruToy", "buildSystem", "(I)V"⟩ prog_1_method_48_code 7 none).before a0 Z = true := hw _ (List.mem_of_getElem? (i := 84) rfl)
theorem w85 {a0 : Array Value} {Z : State} (hw : HW a0 Z) : (Jvm.Cond.methodLink "NtruToy" 190 ⟨"NtruToy", "clearMatrix", "()V"⟩).before a0 Z = true := hw _ (List.mem_of_getElem? (i := 85) rfl)
theorem w86 {a0 : Array Value} {Z : State} (hw : HW a0 Z) : (Jvm.Cond.instanceMethod ⟨"NtruToy", "clearMatrix", "()V"⟩).before a0 Z = true := hw _ (List.mem_of_getElem? (i := 86) rfl)
theorem w87 {a0 : Array Value} {Z : State} (hw : HW a0 Z) : (Jvm.Cond.privateMethod ⟨"NtruToy", "clearMatrix", "()V"⟩).before a0 Z = true := hw _ (List.mem_of_getElem? (i := 87) rfl)
theorem w88 {a0 : Array Value} {Z : State} (hw : HW a0 Z) : (Jvm.Cond.code ⟨"NtruToy", "clearMatrix", "()V"⟩ prog_1_method_47_code 2 none).before a0 Z = true := hw _ (List.mem_of_getElem? (i := 88) rfl)
theorem w89 {a0 : Array Value} {Z : State} (hw : HW a0 Z) : (Jvm.Cond.methodLink "NtruToy" 178 ⟨"NtruToy", "cyclicIndex", "(I)I"⟩).before a0 Z = true := hw _ (List.mem_of_getElem? (i := 89) rfl)
theorem w90 {a0 : Array Value} {Z : State} (hw : HW a0 Z) : (Jvm.Cond.instanceMethod ⟨"NtruToy", "cyclicIndex", "(I)I"⟩).before a0 Z = true := hw _ (List.mem_of_getElem? (i := 90) rfl)
theorem w91 {a0 : Array Value} {Z : State} (hw : HW a0 Z) : (Jvm.Cond.privateMethod ⟨"NtruToy", "cyclicIndex", "(I)I"⟩).before a0 Z = true := hw _ (List.mem_of_getElem? (i := 91) rfl)
theorem w92 {a0 : Array Value} {Z : State} (hw : HW a0 Z) : (Jvm.Cond.code ⟨"NtruToy", "cyclicIndex", "(I)I"⟩ prog_1_method_20_code 2 (some .int)).before a0 Z = true := hw _ (List.mem_of_getElem? (i := 92) rfl)
theorem w93 {a0 : Array Value} {Z : State} (hw : HW a0 Z) : (Jvm.Cond.methodLink "NtruToy" 157 ⟨"NtruToy", "mod", "(II)I"⟩).before a0 Z = true := hw _ (List.mem_of_getElem? (i := 93) rfl)
theorem w94 {a0 : Array Value} {Z : State} (hw : HW a0 Z) : (Jvm.Cond.instanceMethod ⟨"NtruToy", "mod", "(II)I"⟩).before a0 Z = true := hw _ (List.mem_of_getElem? (i := 94) rfl)
theorem w95 {a0 : Array Value} {Z : State} (hw : HW a0 Z) : (Jvm.Cond.privateMethod ⟨"NtruToy", "mod", "(II)I"⟩).before a0 Z = true := hw _ (List.mem_of_getElem? (i := 95) rfl)
theorem w96 {a0 : Array Value} {Z : State} (hw : HW a0 Z) : (Jvm.Cond.code ⟨"NtruToy", "mod", "(II)I"⟩ prog_1_method_17_code 4 (some .int)).before a0 Z = true := hw _ (List.mem_of_getElem? (i := 96) rfl)
theorem w97 {a0 : Array Value} {Z : State} (hw : HW a0 Z) : (Jvm.Cond.methodLink "NtruToy" 153 ⟨"NtruToy", "load", "(II)I"⟩).before a0 Z = true := hw _ (List.mem_of_getElem? (i := 97) rfl)
theorem w98 {a0 : Array Value} {Z : State} (hw : HW a0 Z) : (Jvm.Cond.instanceMethod ⟨"NtruToy", "load", "(II)I"⟩).before a0 Z = true := hw _ (List.mem_of_getElem? (i := 98) rfl)
theorem w99 {a0 : Array Value} {Z : State} (hw : HW a0 Z) : (Jvm.Cond.privateMethod ⟨"NtruToy", "load", "(II)I"⟩).before a0 Z = true := hw _ (List.mem_of_getElem? (i := 99) rfl)
theorem w100 {a0 : Array Value} {Z : State} (hw : HW a0 Z) : (Jvm.Cond.code ⟨"NtruToy", "load", "(II)I"⟩ prog_1_method_30_code 3 (some .int)).before a0 Z = true := hw _ (List.mem_of_getElem? (i := 100) rfl)
theorem w101 {a0 : Array Value} {Z : State} (hw : HW a0 Z) : (Jvm.Cond.methodLink "NtruToy" 169 ⟨"NtruToy", "loadHeld", "(II)I"⟩).before a0 Z = true := hw _ (List.mem_of_getElem? (i := 101) rfl)
theorem w102 {a0 : Array Value} {Z : State} (hw : HW a0 Z) : (Jvm.Cond.instanceMethod ⟨"NtruToy", "loadHeld", "(II)I"⟩).before a0 Z = true := hw _ (List.mem_of_getElem? (i := 102) rfl)
theorem w103 {a0 : Array Value} {Z : State} (hw : HW a0 Z) : (Jvm.Cond.privateMethod ⟨"NtruToy", "loadHeld", "(II)I"⟩).before a0 Z = true := hw _ (List.mem_of_getElem? (i := 103) rfl)
theorem w104 {a0 : Array Value} {Z : State} (hw : HW a0 Z) : (Jvm.Cond.code ⟨"NtruToy", "loadHeld", "(II)I"⟩ prog_1_method_31_code 3 (some .int)).before a0 Z = true := hw _ (List.mem_of_getElem? (i := 104) rfl)
theorem w105 {a0 : Array Value} {Z : State} (hw : HW a0 Z) : (Jvm.Cond.methodLink "NtruToy" 193 ⟨"NtruToy", "matPut", "(III)V"⟩).before a0 Z = true := hw _ (List.mem_of_getElem? (i := 105) rfl)
theorem w106 {a0 : Array Value} {Z : State} (hw : HW a0 Z) : (Jvm.Cond.instanceMethod ⟨"NtruToy", "matPut", "(III)V"⟩).before a0 Z = true := hw _ (List.mem_of_getElem? (i := 106) rfl)
theorem w107 {a0 : Array Value} {Z : State} (hw : HW a0 Z) : (Jvm.Cond.privateMethod ⟨"NtruToy", "matPut", "(III)V"⟩).before a0 Z = true := hw _ (List.mem_of_getElem? (i := 107) rfl)
theorem w108 {a0 : Array Value} {Z : State} (hw : HW a0 Z) : (Jvm.Cond.code ⟨"NtruToy", "matPut", "(III)V"⟩ prog_1_method_46_code 4 none).before a0 Z = true := hw _ (List.mem_of_getElem? (i := 108) rfl)
theorem w109 {a0 : Array Value} {Z : State} (hw : HW a0 Z) : (Jvm.Cond.methodLink "NtruToy" 196 ⟨"NtruToy", "unitCoeff", "(I)I"⟩).before a0 Z = true := hw _ (List.mem_of_getElem? (i := 109) rfl)
theorem w110 {a0 : Array Value} {Z : State} (hw : HW a0 Z) : (Jvm.Cond.instanceMethod ⟨"NtruToy", "unitCoeff", "(I)I"⟩).before a0 Z = true := hw _ (List.mem_of_getElem? (i := 110) rfl)
theorem w111 {a0 : Array Value} {Z : State} (hw : HW a0 Z) : (Jvm.Cond.privateMethod ⟨"NtruToy", "unitCoeff", "(I)I"⟩).before a0 Z = true := hw _ (List.mem_of_getElem? (i := 111) rfl)
theorem w112 {a0 : Array Value} {Z : State} (hw : HW a0 Z) : (Jvm.Cond.code ⟨"NtruToy", "unitCoeff", "(I)I"⟩ prog_1_method_19_code 2 (some .int)).before a0 Z = true := hw _ (List.mem_of_getElem? (i := 112) rfl)
theorem w113 {a0 : Array Value} {Z : State} (hw : HW a0 Z) : (Jvm.Cond.methodLink "NtruToy" 225 ⟨"NtruToy", "eliminate", "(I)Z"⟩).before a0 Z = true := hw _ (List.mem_of_getElem? (i := 113) rfl)
theorem w114 {a0 : Array Value} {Z : State} (hw : HW a0 Z) : (Jvm.Cond.instanceMethod ⟨"NtruToy", "eliminate", "(I)Z"⟩).before a0 Z = true := hw _ (List.mem_of_getElem? (i := 114) rfl)
theorem w115 {a0 : Array Value} {Z : State} (hw : HW a0 Z) : (Jvm.Cond.privateMethod ⟨"NtruToy", "eliminate", "(I)Z"⟩).before a0 Z = true := hw _ (List.mem_of_getElem? (i := 115) rfl)
theorem w116 {a0 : Array Value} {Z : State} (hw : HW a0 Z) : (Jvm.Cond.code ⟨"NtruToy", "eliminate", "(I)Z"⟩ prog_1_method_49_code 6 (some .boolean)).before a0 Z = true := hw _ (List.mem_of_getElem? (i := 116) rfl)
theorem w117 {a0 : Array Value} {Z : State} (hw : HW a0 Z) : (Jvm.Cond.methodLink "NtruToy" 199 ⟨"NtruToy", "findPivot", "(II)I"⟩).before a0 Z = true := hw _ (List.mem_of_getElem? (i := 117) rfl)
theorem w118 {a0 : Array Value} {Z : State} (hw : HW a0 Z) : (Jvm.Cond.instanceMethod ⟨"NtruToy", "findPivot", "(II)I"⟩).before a0 Z = true := hw _ (List.mem_of_getElem? (i := 118) rfl)
theorem w119 {a0 : Array Value} {Z : State} (hw : HW a0 Z) : (Jvm.Cond.privateMethod ⟨"NtruToy", "findPivot", "(II)I"⟩).before a0 Z = true := hw _ (List.mem_of_getElem? (i := 119) rfl)
theorem w120 {a0 : Array Value} {Z : State} (hw : HW a0 Z) : (Jvm.Cond.code ⟨"NtruToy", "findPivot", "(II)I"⟩ prog_1_method_50_code 5 (some .int)).before a0 Z = true := hw _ (List.mem_of_getElem? (i := 120) rfl)
theorem w121 {a0 : Array Value} {Z : State} (hw : HW a0 Z) : (Jvm.Cond.methodLink "NtruToy" 206 ⟨"NtruToy", "matAt", "(II)I"⟩).before a0 Z = true := hw _ (List.mem_of_getElem? (i := 121) rfl)
theorem w122 {a0 : Array Value} {Z : State} (hw : HW a0 Z) : (Jvm.Cond.instanceMethod ⟨"NtruToy", "matAt", "(II)I"⟩).before a0 Z = true := hw _ (List.mem_of_getElem? (i := 122) rfl)
theorem w123 {a0 : Array Value} {Z : State} (hw : HW a0 Z) : (Jvm.Cond.privateMethod ⟨"NtruToy", "matAt", "(II)I"⟩).before a0 Z = true := hw _ (List.mem_of_getElem? (i := 123) rfl)
theorem w124 {a0 : Array Value} {Z : State} (hw : HW a0 Z) : (Jvm.Cond.code ⟨"NtruToy", "matAt", "(II)I"⟩ prog_1_method_45_code 3 (some .int)).before a0 Z = true := hw _ (List.mem_of_getElem? (i := 124) rfl)
theorem w125 {a0 : Array Value} {Z : State} (hw : HW a0 Z) : (Jvm.Cond.methodLink "NtruToy" 209 ⟨"NtruToy", "inverseMod", "(II)I"⟩).before a0 Z = true := hw _ (List.mem_of_getElem? (i := 125) rfl)
theorem w126 {a0 : Array Value} {Z : State} (hw : HW a0 Z) : (Jvm.Cond.instanceMethod ⟨"NtruToy", "inverseMod", "(II)I"⟩).before a0 Z = true := hw _ (List.mem_of_getElem? (i := 126) rfl)
theorem w127 {a0 : Array Value} {Z : State} (hw : HW a0 Z) : (Jvm.Cond.privateMethod ⟨"NtruToy", "inverseMod", "(II)I"⟩).before a0 Z = true := hw _ (List.mem_of_getElem? (i := 127) rfl)
theorem w128 {a0 : Array Value} {Z : State} (hw : HW a0 Z) : (Jvm.Cond.code ⟨"NtruToy", "inverseMod", "(II)I"⟩ prog_1_method_18_code 6 (some .int)).before a0 Z = true := hw _ (List.mem_of_getElem? (i := 128) rfl)
theorem w129 {a0 : Array Value} {Z : State} (hw : HW a0 Z) : (Jvm.Cond.methodLink "NtruToyL5" 34 ⟨"NtruToyL5", "same", "(LNtruToy;LNtruToy;)Z"⟩).before a0 Z = true := hw _ (List.mem_of_getElem? (i := 129) rfl)
theorem w130 {a0 : Array Value} {Z : State} (hw : HW a0 Z) : (Jvm.Cond.static ⟨"NtruToyL5", "same", "(LNtruToy;LNtruToy;)Z"⟩).before a0 Z = true := hw _ (List.mem_of_getElem? (i := 130) rfl)
theorem w131 {a0 : Array Value} {Z : State} (hw : HW a0 Z) : (Jvm.Cond.initialized "NtruToyL5").before a0 Z = true := hw _ (List.mem_of_getElem? (i := 131) rfl)
theorem w132 {a0 : Array Value} {Z : State} (hw : HW a0 Z) : (Jvm.Cond.code ⟨"NtruToyL5", "same", "(LNtruToy;LNtruToy;)Z"⟩ method_3_code 4 (some .boolean)).before a0 Z = true := hw _ (List.mem_of_getElem? (i := 132) rfl)
theorem w133 {a0 : Array Value} {Z : State} (hw : HW a0 Z) : (Jvm.Cond.methodLink "NtruToyL5" 40 ⟨"NtruToy", "hasKey", "()Z"⟩).before a0 Z = true := hw _ (List.mem_of_getElem? (i := 133) rfl)
theorem w134 {a0 : Array Value} {Z : State} (hw : HW a0 Z) : (Jvm.Cond.declares ⟨"NtruToy", "hasKey", "()Z"⟩).before a0 Z = true := hw _ (List.mem_of_getElem? (i := 134) rfl)
theorem w135 {a0 : Array Value} {Z : State} (hw : HW a0 Z) : (Jvm.Cond.instanceMethod ⟨"NtruToy", "hasKey", "()Z"⟩).before a0 Z = true := hw _ (List.mem_of_getElem? (i := 135) rfl)
theorem w136 {a0 : Array Value} {Z : State} (hw : HW a0 Z) : (Jvm.Cond.selects "NtruToy" ⟨"NtruToy", "hasKey", "()Z"⟩ ⟨"NtruToy", "hasKey", "()Z"⟩).before a0 Z = true := hw _ (List.mem_of_getElem? (i := 136) rfl)
theorem w137 {a0 : Array Value} {Z : State} (hw : HW a0 Z) : (Jvm.Cond.code ⟨"NtruToy", "hasKey", "()Z"⟩ prog_1_method_9_code 1 (some .boolean)).before a0 Z = true := hw _ (List.mem_of_getElem? (i := 137) rfl)
theorem w138 {a0 : Array Value} {Z : State} (hw : HW a0 Z) : (Jvm.Cond.methodLink "NtruToyL5" 44 ⟨"NtruToy", "keyCount", "()I"⟩).before a0 Z = true := hw _ (List.mem_of_getElem? (i := 138) rfl)
theorem w139 {a0 : Array Value} {Z : State} (hw : HW a0 Z) : (Jvm.Cond.declares ⟨"NtruToy", "keyCount", "()I"⟩).before a0 Z = true := hw _ (List.mem_of_getElem? (i := 139) rfl)
theorem w140 {a0 : Array Value} {Z : State} (hw : HW a0 Z) : (Jvm.Cond.instanceMethod ⟨"NtruToy", "keyCount", "()I"⟩).before a0 Z = true := hw _ (List.mem_of_getElem? (i := 140) rfl)
theorem w141 {a0 : Array Value} {Z : State} (hw : HW a0 Z) : (Jvm.Cond.selects "NtruToy" ⟨"NtruToy", "keyCount", "()I"⟩ ⟨"NtruToy", "keyCount", "()I"⟩).before a0 Z = true := hw _ (List.mem_of_getElem? (i := 141) rfl)
theorem w142 {a0 : Array Value} {Z : State} (hw : HW a0 Z) : (Jvm.Cond.code ⟨"NtruToy", "keyCount", "()I"⟩ prog_1_method_10_code 1 (some .int)).before a0 Z = true := hw _ (List.mem_of_getElem? (i := 142) rfl)
theorem w143 {a0 : Array Value} {Z : State} (hw : HW a0 Z) : (Jvm.Cond.methodLink "NtruToyL5" 47 ⟨"NtruToy", "coeff", "(II)I"⟩).before a0 Z = true := hw _ (List.mem_of_getElem? (i := 143) rfl)
theorem w144 {a0 : Array Value} {Z : State} (hw : HW a0 Z) : (Jvm.Cond.declares ⟨"NtruToy", "coeff", "(II)I"⟩).before a0 Z = true := hw _ (List.mem_of_getElem? (i := 144) rfl)
theorem w145 {a0 : Array Value} {Z : State} (hw : HW a0 Z) : (Jvm.Cond.instanceMethod ⟨"NtruToy", "coeff", "(II)I"⟩).before a0 Z = true := hw _ (List.mem_of_getElem? (i := 145) rfl)
theorem w146 {a0 : Array Value} {Z : State} (hw : HW a0 Z) : (Jvm.Cond.selects "NtruToy" ⟨"NtruToy", "coeff", "(II)I"⟩ ⟨"NtruToy", "coeff", "(II)I"⟩).before a0 Z = true := hw _ (List.mem_of_getElem? (i := 146) rfl)
theorem w147 {a0 : Array Value} {Z : State} (hw : HW a0 Z) : (Jvm.Cond.code ⟨"NtruToy", "coeff", "(II)I"⟩ prog_1_method_13_code 3 (some .int)).before a0 Z = true := hw _ (List.mem_of_getElem? (i := 147) rfl)
theorem w148 {a0 : Array Value} {Z : State} (hw : HW a0 Z) : (Jvm.Cond.methodLink "NtruToy" 150 ⟨"NtruToy", "isSelector", "(I)Z"⟩).before a0 Z = true := hw _ (List.mem_of_getElem? (i := 148) rfl)
theorem w149 {a0 : Array Value} {Z : State} (hw : HW a0 Z) : (Jvm.Cond.instanceMethod ⟨"NtruToy", "isSelector", "(I)Z"⟩).before a0 Z = true := hw _ (List.mem_of_getElem? (i := 149) rfl)
theorem w150 {a0 : Array Value} {Z : State} (hw : HW a0 Z) : (Jvm.Cond.privateMethod ⟨"NtruToy", "isSelector", "(I)Z"⟩).before a0 Z = true := hw _ (List.mem_of_getElem? (i := 150) rfl)
theorem w151 {a0 : Array Value} {Z : State} (hw : HW a0 Z) : (Jvm.Cond.code ⟨"NtruToy", "isSelector", "(I)Z"⟩ prog_1_method_23_code 2 (some .boolean)).before a0 Z = true := hw _ (List.mem_of_getElem? (i := 151) rfl)
theorem w152 {a0 : Array Value} {Z : State} (hw : HW a0 Z) : (Jvm.Cond.methodLink "NtruToy" 99 ⟨"NtruToy", "isIndex", "(I)Z"⟩).before a0 Z = true := hw _ (List.mem_of_getElem? (i := 152) rfl)
theorem w153 {a0 : Array Value} {Z : State} (hw : HW a0 Z) : (Jvm.Cond.instanceMethod ⟨"NtruToy", "isIndex", "(I)Z"⟩).before a0 Z = true := hw _ (List.mem_of_getElem? (i := 153) rfl)
theorem w154 {a0 : Array Value} {Z : State} (hw : HW a0 Z) : (Jvm.Cond.privateMethod ⟨"NtruToy", "isIndex", "(I)Z"⟩).before a0 Z = true := hw _ (List.mem_of_getElem? (i := 154) rfl)
theorem w155 {a0 : Array Value} {Z : State} (hw : HW a0 Z) : (Jvm.Cond.code ⟨"NtruToy", "isIndex", "(I)Z"⟩ prog_1_method_26_code 2 (some .boolean)).before a0 Z = true := hw _ (List.mem_of_getElem? (i := 155) rfl)
theorem w156 {a0 : Array Value} {Z : State} (hw : HW a0 Z) : (Jvm.Cond.methodLink "NtruToyL5" 16 ⟨"NtruToy", "setPacked", "(IJ)Z"⟩).before a0 Z = true := hw _ (List.mem_of_getElem? (i := 156) rfl)
theorem w157 {a0 : Array Value} {Z : State} (hw : HW a0 Z) : (Jvm.Cond.declares ⟨"NtruToy", "setPacked", "(IJ)Z"⟩).before a0 Z = true := hw _ (List.mem_of_getElem? (i := 157) rfl)
theorem w158 {a0 : Array Value} {Z : State} (hw : HW a0 Z) : (Jvm.Cond.instanceMethod ⟨"NtruToy", "setPacked", "(IJ)Z"⟩).before a0 Z = true := hw _ (List.mem_of_getElem? (i := 158) rfl)
theorem w159 {a0 : Array Value} {Z : State} (hw : HW a0 Z) : (Jvm.Cond.selects "NtruToy" ⟨"NtruToy", "setPacked", "(IJ)Z"⟩ ⟨"NtruToy", "setPacked", "(IJ)Z"⟩).before a0 Z = true := hw _ (List.mem_of_getElem? (i := 159) rfl)
theorem w160 {a0 : Array Value} {Z : State} (hw : HW a0 Z) : (Jvm.Cond.code ⟨"NtruToy", "setPacked", "(IJ)Z"⟩ prog_1_method_6_code 4 (some .boolean)).before a0 Z = true := hw _ (List.mem_of_getElem? (i := 160) rfl)
theorem w161 {a0 : Array Value} {Z : State} (hw : HW a0 Z) : (Jvm.Cond.methodLink "NtruToy" 110 ⟨"NtruToy", "isDraft", "(I)Z"⟩).before a0 Z = true := hw _ (List.mem_of_getElem? (i := 161) rfl)
theorem w162 {a0 : Array Value} {Z : State} (hw : HW a0 Z) : (Jvm.Cond.instanceMethod ⟨"NtruToy", "isDraft", "(I)Z"⟩).before a0 Z = true := hw _ (List.mem_of_getElem? (i := 162) rfl)
theorem w163 {a0 : Array Value} {Z : State} (hw : HW a0 Z) : (Jvm.Cond.privateMethod ⟨"NtruToy", "isDraft", "(I)Z"⟩).before a0 Z = true := hw _ (List.mem_of_getElem? (i := 163) rfl)
theorem w164 {a0 : Array Value} {Z : State} (hw : HW a0 Z) : (Jvm.Cond.code ⟨"NtruToy", "isDraft", "(I)Z"⟩ prog_1_method_25_code 2 (some .boolean)).before a0 Z = true := hw _ (List.mem_of_getElem? (i := 164) rfl)
theorem w165 {a0 : Array Value} {Z : State} (hw : HW a0 Z) : (Jvm.Cond.methodLink "NtruToy" 113 ⟨"NtruToy", "highBitsClear", "(J)Z"⟩).before a0 Z = true := hw _ (List.mem_of_getElem? (i := 165) rfl)
theorem w166 {a0 : Array Value} {Z : State} (hw : HW a0 Z) : (Jvm.Cond.instanceMethod ⟨"NtruToy", "highBitsClear", "(J)Z"⟩).before a0 Z = true := hw _ (List.mem_of_getElem? (i := 166) rfl)
theorem w167 {a0 : Array Value} {Z : State} (hw : HW a0 Z) : (Jvm.Cond.privateMethod ⟨"NtruToy", "highBitsClear", "(J)Z"⟩).before a0 Z = true := hw _ (List.mem_of_getElem? (i := 167) rfl)
theorem w168 {a0 : Array Value} {Z : State} (hw : HW a0 Z) : (Jvm.Cond.code ⟨"NtruToy", "highBitsClear", "(J)Z"⟩ prog_1_method_40_code 4 (some .boolean)).before a0 Z = true := hw _ (List.mem_of_getElem? (i := 168) rfl)
theorem w169 {a0 : Array Value} {Z : State} (hw : HW a0 Z) : (Jvm.Cond.methodLink "NtruToy" 117 ⟨"NtruToy", "fieldsValid", "(J)Z"⟩).before a0 Z = true := hw _ (List.mem_of_getElem? (i := 169) rfl)
theorem w170 {a0 : Array Value} {Z : State} (hw : HW a0 Z) : (Jvm.Cond.instanceMethod ⟨"NtruToy", "fieldsValid", "(J)Z"⟩).before a0 Z = true := hw _ (List.mem_of_getElem? (i := 170) rfl)
theorem w171 {a0 : Array Value} {Z : State} (hw : HW a0 Z) : (Jvm.Cond.privateMethod ⟨"NtruToy", "fieldsValid", "(J)Z"⟩).before a0 Z = true := hw _ (List.mem_of_getElem? (i := 171) rfl)
theorem w172 {a0 : Array Value} {Z : State} (hw : HW a0 Z) : (Jvm.Cond.code ⟨"NtruToy", "fieldsValid", "(J)Z"⟩ prog_1_method_42_code 4 (some .boolean)).before a0 Z = true := hw _ (List.mem_of_getElem? (i := 172) rfl)
theorem w173 {a0 : Array Value} {Z : State} (hw : HW a0 Z) : (Jvm.Cond.methodLink "NtruToy" 183 ⟨"NtruToy", "fieldOf", "(JI)I"⟩).before a0 Z = true := hw _ (List.mem_of_getElem? (i := 173) rfl)
theorem w174 {a0 : Array Value} {Z : State} (hw : HW a0 Z) : (Jvm.Cond.instanceMethod ⟨"NtruToy", "fieldOf", "(JI)I"⟩).before a0 Z = true := hw _ (List.mem_of_getElem? (i := 174) rfl)
theorem w175 {a0 : Array Value} {Z : State} (hw : HW a0 Z) : (Jvm.Cond.privateMethod ⟨"NtruToy", "fieldOf", "(JI)I"⟩).before a0 Z = true := hw _ (List.mem_of_getElem? (i := 175) rfl)
theorem w176 {a0 : Array Value} {Z : State} (hw : HW a0 Z) : (Jvm.Cond.code ⟨"NtruToy", "fieldOf", "(JI)I"⟩ prog_1_method_41_code 7 (some .int)).before a0 Z = true := hw _ (List.mem_of_getElem? (i := 176) rfl)
theorem w177 {a0 : Array Value} {Z : State} (hw : HW a0 Z) : (Jvm.Cond.constantLong "NtruToy" 181 (3)).before a0 Z = true := hw _ (List.mem_of_getElem? (i := 177) rfl)
theorem w178 {a0 : Array Value} {Z : State} (hw : HW a0 Z) : (Jvm.Cond.methodLink "NtruToy" 120 ⟨"NtruToy", "unpackInto", "(IJ)V"⟩).before a0 Z = true := hw _ (List.mem_of_getElem? (i := 178) rfl)
theorem w179 {a0 : Array Value} {Z : State} (hw : HW a0 Z) : (Jvm.Cond.instanceMethod ⟨"NtruToy", "unpackInto", "(IJ)V"⟩).before a0 Z = true := hw _ (List.mem_of_getElem? (i := 179) rfl)
theorem w180 {a0 : Array Value} {Z : State} (hw : HW a0 Z) : (Jvm.Cond.privateMethod ⟨"NtruToy", "unpackInto", "(IJ)V"⟩).before a0 Z = true := hw _ (List.mem_of_getElem? (i := 180) rfl)
theorem w181 {a0 : Array Value} {Z : State} (hw : HW a0 Z) : (Jvm.Cond.code ⟨"NtruToy", "unpackInto", "(IJ)V"⟩ prog_1_method_44_code 7 none).before a0 Z = true := hw _ (List.mem_of_getElem? (i := 181) rfl)
theorem w182 {a0 : Array Value} {Z : State} (hw : HW a0 Z) : (Jvm.Cond.methodLink "NtruToy" 187 ⟨"NtruToy", "decodeField", "(I)I"⟩).before a0 Z = true := hw _ (List.mem_of_getElem? (i := 182) rfl)
theorem w183 {a0 : Array Value} {Z : State} (hw : HW a0 Z) : (Jvm.Cond.instanceMethod ⟨"NtruToy", "decodeField", "(I)I"⟩).before a0 Z = true := hw _ (List.mem_of_getElem? (i := 183) rfl)
theorem w184 {a0 : Array Value} {Z : State} (hw : HW a0 Z) : (Jvm.Cond.privateMethod ⟨"NtruToy", "decodeField", "(I)I"⟩).before a0 Z = true := hw _ (List.mem_of_getElem? (i := 184) rfl)
theorem w185 {a0 : Array Value} {Z : State} (hw : HW a0 Z) : (Jvm.Cond.code ⟨"NtruToy", "decodeField", "(I)I"⟩ prog_1_method_43_code 2 (some .int)).before a0 Z = true := hw _ (List.mem_of_getElem? (i := 185) rfl)
theorem w186 {a0 : Array Value} {Z : State} (hw : HW a0 Z) : (Jvm.Cond.methodLink "NtruToy" 106 ⟨"NtruToy", "store", "(III)V"⟩).before a0 Z = true := hw _ (List.mem_of_getElem? (i := 186) rfl)
theorem w187 {a0 : Array Value} {Z : State} (hw : HW a0 Z) : (Jvm.Cond.instanceMethod ⟨"NtruToy", "store", "(III)V"⟩).before a0 Z = true := hw _ (List.mem_of_getElem? (i := 187) rfl)
theorem w188 {a0 : Array Value} {Z : State} (hw : HW a0 Z) : (Jvm.Cond.privateMethod ⟨"NtruToy", "store", "(III)V"⟩).before a0 Z = true := hw _ (List.mem_of_getElem? (i := 188) rfl)
theorem w189 {a0 : Array Value} {Z : State} (hw : HW a0 Z) : (Jvm.Cond.code ⟨"NtruToy", "store", "(III)V"⟩ prog_1_method_33_code 4 none).before a0 Z = true := hw _ (List.mem_of_getElem? (i := 189) rfl)
theorem w190 {a0 : Array Value} {Z : State} (hw : HW a0 Z) : (Jvm.Cond.methodLink "NtruToy" 175 ⟨"NtruToy", "storeHeld", "(III)V"⟩).before a0 Z = true := hw _ (List.mem_of_getElem? (i := 190) rfl)
theorem w191 {a0 : Array Value} {Z : State} (hw : HW a0 Z) : (Jvm.Cond.instanceMethod ⟨"NtruToy", "storeHeld", "(III)V"⟩).before a0 Z = true := hw _ (List.mem_of_getElem? (i := 191) rfl)
theorem w192 {a0 : Array Value} {Z : State} (hw : HW a0 Z) : (Jvm.Cond.privateMethod ⟨"NtruToy", "storeHeld", "(III)V"⟩).before a0 Z = true := hw _ (List.mem_of_getElem? (i := 192) rfl)
theorem w193 {a0 : Array Value} {Z : State} (hw : HW a0 Z) : (Jvm.Cond.code ⟨"NtruToy", "storeHeld", "(III)V"⟩ prog_1_method_34_code 4 none).before a0 Z = true := hw _ (List.mem_of_getElem? (i := 193) rfl)
theorem w194 {a0 : Array Value} {Z : State} (hw : HW a0 Z) : (Jvm.Cond.methodLink "NtruToyL5" 12 ⟨"NtruToy", "setCoeff", "(III)Z"⟩).before a0 Z = true := hw _ (List.mem_of_getElem? (i := 194) rfl)
theorem w195 {a0 : Array Value} {Z : State} (hw : HW a0 Z) : (Jvm.Cond.declares ⟨"NtruToy", "setCoeff", "(III)Z"⟩).before a0 Z = true := hw _ (List.mem_of_getElem? (i := 195) rfl)
theorem w196 {a0 : Array Value} {Z : State} (hw : HW a0 Z) : (Jvm.Cond.instanceMethod ⟨"NtruToy", "setCoeff", "(III)Z"⟩).before a0 Z = true := hw _ (List.mem_of_getElem? (i := 196) rfl)
theorem w197 {a0 : Array Value} {Z : State} (hw : HW a0 Z) : (Jvm.Cond.selects "NtruToy" ⟨"NtruToy", "setCoeff", "(III)Z"⟩ ⟨"NtruToy", "setCoeff", "(III)Z"⟩).before a0 Z = true := hw _ (List.mem_of_getElem? (i := 197) rfl)
theorem w198 {a0 : Array Value} {Z : State} (hw : HW a0 Z) : (Jvm.Cond.code ⟨"NtruToy", "setCoeff", "(III)Z"⟩ prog_1_method_5_code 4 (some .boolean)).before a0 Z = true := hw _ (List.mem_of_getElem? (i := 198) rfl)
theorem w199 {a0 : Array Value} {Z : State} (hw : HW a0 Z) : (Jvm.Cond.methodLink "NtruToy" 95 ⟨"NtruToy", "isWritable", "(I)Z"⟩).before a0 Z = true := hw _ (List.mem_of_getElem? (i := 199) rfl)
theorem w200 {a0 : Array Value} {Z : State} (hw : HW a0 Z) : (Jvm.Cond.instanceMethod ⟨"NtruToy", "isWritable", "(I)Z"⟩).before a0 Z = true := hw _ (List.mem_of_getElem? (i := 200) rfl)
theorem w201 {a0 : Array Value} {Z : State} (hw : HW a0 Z) : (Jvm.Cond.privateMethod ⟨"NtruToy", "isWritable", "(I)Z"⟩).before a0 Z = true := hw _ (List.mem_of_getElem? (i := 201) rfl)
theorem w202 {a0 : Array Value} {Z : State} (hw : HW a0 Z) : (Jvm.Cond.code ⟨"NtruToy", "isWritable", "(I)Z"⟩ prog_1_method_24_code 2 (some .boolean)).before a0 Z = true := hw _ (List.mem_of_getElem? (i := 202) rfl)
theorem w203 {a0 : Array Value} {Z : State} (hw : HW a0 Z) : (Jvm.Cond.methodLink "NtruToy" 102 ⟨"NtruToy", "acceptsValue", "(II)Z"⟩).before a0 Z = true := hw _ (List.mem_of_getElem? (i := 203) rfl)
theorem w204 {a0 : Array Value} {Z : State} (hw : HW a0 Z) : (Jvm.Cond.instanceMethod ⟨"NtruToy", "acceptsValue", "(II)Z"⟩).before a0 Z = true := hw _ (List.mem_of_getElem? (i := 204) rfl)
theorem w205 {a0 : Array Value} {Z : State} (hw : HW a0 Z) : (Jvm.Cond.privateMethod ⟨"NtruToy", "acceptsValue", "(II)Z"⟩).before a0 Z = true := hw _ (List.mem_of_getElem? (i := 205) rfl)
theorem w206 {a0 : Array Value} {Z : State} (hw : HW a0 Z) : (Jvm.Cond.code ⟨"NtruToy", "acceptsValue", "(II)Z"⟩ prog_1_method_29_code 3 (some .boolean)).before a0 Z = true := hw _ (List.mem_of_getElem? (i := 206) rfl)
theorem w207 {a0 : Array Value} {Z : State} (hw : HW a0 Z) : (Jvm.Cond.methodLink "NtruToy" 163 ⟨"NtruToy", "isTernary", "(I)Z"⟩).before a0 Z = true := hw _ (List.mem_of_getElem? (i := 207) rfl)
theorem w208 {a0 : Array Value} {Z : State} (hw : HW a0 Z) : (Jvm.Cond.instanceMethod ⟨"NtruToy", "isTernary", "(I)Z"⟩).before a0 Z = true := hw _ (List.mem_of_getElem? (i := 208) rfl)
theorem w209 {a0 : Array Value} {Z : State} (hw : HW a0 Z) : (Jvm.Cond.privateMethod ⟨"NtruToy", "isTernary", "(I)Z"⟩).before a0 Z = true := hw _ (List.mem_of_getElem? (i := 209) rfl)
theorem w210 {a0 : Array Value} {Z : State} (hw : HW a0 Z) : (Jvm.Cond.code ⟨"NtruToy", "isTernary", "(I)Z"⟩ prog_1_method_27_code 2 (some .boolean)).before a0 Z = true := hw _ (List.mem_of_getElem? (i := 210) rfl)
theorem w211 {a0 : Array Value} {Z : State} (hw : HW a0 Z) : (Jvm.Cond.methodLink "NtruToyL5" 20 ⟨"NtruToy", "clear", "(I)Z"⟩).before a0 Z = true := hw _ (List.mem_of_getElem? (i := 211) rfl)
theorem w212 {a0 : Array Value} {Z : State} (hw : HW a0 Z) : (Jvm.Cond.declares ⟨"NtruToy", "clear", "(I)Z"⟩).before a0 Z = true := hw _ (List.mem_of_getElem? (i := 212) rfl)
theorem w213 {a0 : Array Value} {Z : State} (hw : HW a0 Z) : (Jvm.Cond.instanceMethod ⟨"NtruToy", "clear", "(I)Z"⟩).before a0 Z = true := hw _ (List.mem_of_getElem? (i := 213) rfl)
theorem w214 {a0 : Array Value} {Z : State} (hw : HW a0 Z) : (Jvm.Cond.selects "NtruToy" ⟨"NtruToy", "clear", "(I)Z"⟩ ⟨"NtruToy", "clear", "(I)Z"⟩).before a0 Z = true := hw _ (List.mem_of_getElem? (i := 214) rfl)
theorem w215 {a0 : Array Value} {Z : State} (hw : HW a0 Z) : (Jvm.Cond.code ⟨"NtruToy", "clear", "(I)Z"⟩ prog_1_method_7_code 2 (some .boolean)).before a0 Z = true := hw _ (List.mem_of_getElem? (i := 215) rfl)
theorem w216 {a0 : Array Value} {Z : State} (hw : HW a0 Z) : (Jvm.Cond.methodLink "NtruToy" 124 ⟨"NtruToy", "zeroPoly", "(I)V"⟩).before a0 Z = true := hw _ (List.mem_of_getElem? (i := 216) rfl)
theorem w217 {a0 : Array Value} {Z : State} (hw : HW a0 Z) : (Jvm.Cond.instanceMethod ⟨"NtruToy", "zeroPoly", "(I)V"⟩).before a0 Z = true := hw _ (List.mem_of_getElem? (i := 217) rfl)
theorem w218 {a0 : Array Value} {Z : State} (hw : HW a0 Z) : (Jvm.Cond.privateMethod ⟨"NtruToy", "zeroPoly", "(I)V"⟩).before a0 Z = true := hw _ (List.mem_of_getElem? (i := 218) rfl)
theorem w219 {a0 : Array Value} {Z : State} (hw : HW a0 Z) : (Jvm.Cond.code ⟨"NtruToy", "zeroPoly", "(I)V"⟩ prog_1_method_36_code 3 none).before a0 Z = true := hw _ (List.mem_of_getElem? (i := 219) rfl)
theorem w220 {a0 : Array Value} {Z : State} (hw : HW a0 Z) : (Jvm.Cond.methodLink "NtruToy" 202 ⟨"NtruToy", "swapRows", "(II)V"⟩).before a0 Z = true := hw _ (List.mem_of_getElem? (i := 220) rfl)
theorem w221 {a0 : Array Value} {Z : State} (hw : HW a0 Z) : (Jvm.Cond.instanceMethod ⟨"NtruToy", "swapRows", "(II)V"⟩).before a0 Z = true := hw _ (List.mem_of_getElem? (i := 221) rfl)
theorem w222 {a0 : Array Value} {Z : State} (hw : HW a0 Z) : (Jvm.Cond.privateMethod ⟨"NtruToy", "swapRows", "(II)V"⟩).before a0 Z = true := hw _ (List.mem_of_getElem? (i := 222) rfl)
theorem w223 {a0 : Array Value} {Z : State} (hw : HW a0 Z) : (Jvm.Cond.code ⟨"NtruToy", "swapRows", "(II)V"⟩ prog_1_method_51_code 6 none).before a0 Z = true := hw _ (List.mem_of_getElem? (i := 223) rfl)
theorem w224 {a0 : Array Value} {Z : State} (hw : HW a0 Z) : (Jvm.Cond.methodLink "NtruToy" 212 ⟨"NtruToy", "scaleRow", "(III)V"⟩).before a0 Z = true := hw _ (List.mem_of_getElem? (i := 224) rfl)
theorem w225 {a0 : Array Value} {Z : State} (hw : HW a0 Z) : (Jvm.Cond.instanceMethod ⟨"NtruToy", "scaleRow", "(III)V"⟩).before a0 Z = true := hw _ (List.mem_of_getElem? (i := 225) rfl)
theorem w226 {a0 : Array Value} {Z : State} (hw : HW a0 Z) : (Jvm.Cond.privateMethod ⟨"NtruToy", "scaleRow", "(III)V"⟩).before a0 Z = true := hw _ (List.mem_of_getElem? (i := 226) rfl)
theorem w227 {a0 : Array Value} {Z : State} (hw : HW a0 Z) : (Jvm.Cond.code ⟨"NtruToy", "scaleRow", "(III)V"⟩ prog_1_method_52_code 7 none).before a0 Z = true := hw _ (List.mem_of_getElem? (i := 227) rfl)
theorem w228 {a0 : Array Value} {Z : State} (hw : HW a0 Z) : (Jvm.Cond.methodLink "NtruToy" 215 ⟨"NtruToy", "clearColumn", "(II)V"⟩).before a0 Z = true := hw _ (List.mem_of_getElem? (i := 228) rfl)
theorem w229 {a0 : Array Value} {Z : State} (hw : HW a0 Z) : (Jvm.Cond.instanceMethod ⟨"NtruToy", "clearColumn", "(II)V"⟩).before a0 Z = true := hw _ (List.mem_of_getElem? (i := 229) rfl)
theorem w230 {a0 : Array Value} {Z : State} (hw : HW a0 Z) : (Jvm.Cond.privateMethod ⟨"NtruToy", "clearColumn", "(II)V"⟩).before a0 Z = true := hw _ (List.mem_of_getElem? (i := 230) rfl)
theorem w231 {a0 : Array Value} {Z : State} (hw : HW a0 Z) : (Jvm.Cond.code ⟨"NtruToy", "clearColumn", "(II)V"⟩ prog_1_method_53_code 5 none).before a0 Z = true := hw _ (List.mem_of_getElem? (i := 231) rfl)
theorem w232 {a0 : Array Value} {Z : State} (hw : HW a0 Z) : (Jvm.Cond.methodLink "NtruToy" 228 ⟨"NtruToy", "readSolution", "(I)V"⟩).before a0 Z = true := hw _ (List.mem_of_getElem? (i := 232) rfl)
theorem w233 {a0 : Array Value} {Z : State} (hw : HW a0 Z) : (Jvm.Cond.instanceMethod ⟨"NtruToy", "readSolution", "(I)V"⟩).before a0 Z = true := hw _ (List.mem_of_getElem? (i := 233) rfl)
theorem w234 {a0 : Array Value} {Z : State} (hw : HW a0 Z) : (Jvm.Cond.privateMethod ⟨"NtruToy", "readSolution", "(I)V"⟩).before a0 Z = true := hw _ (List.mem_of_getElem? (i := 234) rfl)
theorem w235 {a0 : Array Value} {Z : State} (hw : HW a0 Z) : (Jvm.Cond.code ⟨"NtruToy", "readSolution", "(I)V"⟩ prog_1_method_55_code 4 none).before a0 Z = true := hw _ (List.mem_of_getElem? (i := 235) rfl)
theorem w236 {a0 : Array Value} {Z : State} (hw : HW a0 Z) : (Jvm.Cond.methodLink "NtruToy" 172 ⟨"NtruToy", "storeScratch", "(III)V"⟩).before a0 Z = true := hw _ (List.mem_of_getElem? (i := 236) rfl)
theorem w237 {a0 : Array Value} {Z : State} (hw : HW a0 Z) : (Jvm.Cond.instanceMethod ⟨"NtruToy", "storeScratch", "(III)V"⟩).before a0 Z = true := hw _ (List.mem_of_getElem? (i := 237) rfl)
theorem w238 {a0 : Array Value} {Z : State} (hw : HW a0 Z) : (Jvm.Cond.privateMethod ⟨"NtruToy", "storeScratch", "(III)V"⟩).before a0 Z = true := hw _ (List.mem_of_getElem? (i := 238) rfl)
theorem w239 {a0 : Array Value} {Z : State} (hw : HW a0 Z) : (Jvm.Cond.code ⟨"NtruToy", "storeScratch", "(III)V"⟩ prog_1_method_35_code 4 none).before a0 Z = true := hw _ (List.mem_of_getElem? (i := 239) rfl)
theorem w240 {a0 : Array Value} {Z : State} (hw : HW a0 Z) : (Jvm.Cond.methodLink "NtruToy" 231 ⟨"NtruToy", "isInverseOfDraft", "(II)Z"⟩).before a0 Z = true := hw _ (List.mem_of_getElem? (i := 240) rfl)
theorem w241 {a0 : Array Value} {Z : State} (hw : HW a0 Z) : (Jvm.Cond.instanceMethod ⟨"NtruToy", "isInverseOfDraft", "(II)Z"⟩).before a0 Z = true := hw _ (List.mem_of_getElem? (i := 241) rfl)
theorem w242 {a0 : Array Value} {Z : State} (hw : HW a0 Z) : (Jvm.Cond.privateMethod ⟨"NtruToy", "isInverseOfDraft", "(II)Z"⟩).before a0 Z = true := hw _ (List.mem_of_getElem? (i := 242) rfl)
theorem w243 {a0 : Array Value} {Z : State} (hw : HW a0 Z) : (Jvm.Cond.code ⟨"NtruToy", "isInverseOfDraft", "(II)Z"⟩ prog_1_method_62_code 7 (some .boolean)).before a0 Z = true := hw _ (List.mem_of_getElem? (i := 243) rfl)
theorem w244 {a0 : Array Value} {Z : State} (hw : HW a0 Z) : (Jvm.Cond.methodLink "NtruToy" 249 ⟨"NtruToy", "convAt", "(III)I"⟩).before a0 Z = true := hw _ (List.mem_of_getElem? (i := 244) rfl)
theorem w245 {a0 : Array Value} {Z : State} (hw : HW a0 Z) : (Jvm.Cond.instanceMethod ⟨"NtruToy", "convAt", "(III)I"⟩).before a0 Z = true := hw _ (List.mem_of_getElem? (i := 245) rfl)
theorem w246 {a0 : Array Value} {Z : State} (hw : HW a0 Z) : (Jvm.Cond.privateMethod ⟨"NtruToy", "convAt", "(III)I"⟩).before a0 Z = true := hw _ (List.mem_of_getElem? (i := 246) rfl)
theorem w247 {a0 : Array Value} {Z : State} (hw : HW a0 Z) : (Jvm.Cond.code ⟨"NtruToy", "convAt", "(III)I"⟩ prog_1_method_39_code 9 (some .int)).before a0 Z = true := hw _ (List.mem_of_getElem? (i := 247) rfl)
theorem w248 {a0 : Array Value} {Z : State} (hw : HW a0 Z) : (Jvm.Cond.methodLink "NtruToy" 166 ⟨"NtruToy", "loadScratch", "(II)I"⟩).before a0 Z = true := hw _ (List.mem_of_getElem? (i := 248) rfl)
theorem w249 {a0 : Array Value} {Z : State} (hw : HW a0 Z) : (Jvm.Cond.instanceMethod ⟨"NtruToy", "loadScratch", "(II)I"⟩).before a0 Z = true := hw _ (List.mem_of_getElem? (i := 249) rfl)
theorem w250 {a0 : Array Value} {Z : State} (hw : HW a0 Z) : (Jvm.Cond.privateMethod ⟨"NtruToy", "loadScratch", "(II)I"⟩).before a0 Z = true := hw _ (List.mem_of_getElem? (i := 250) rfl)
theorem w251 {a0 : Array Value} {Z : State} (hw : HW a0 Z) : (Jvm.Cond.code ⟨"NtruToy", "loadScratch", "(II)I"⟩ prog_1_method_32_code 3 (some .int)).before a0 Z = true := hw _ (List.mem_of_getElem? (i := 251) rfl)
theorem w252 {a0 : Array Value} {Z : State} (hw : HW a0 Z) : (Jvm.Cond.methodLink "NtruToy" 132 ⟨"NtruToy", "invertModQ", "()Z"⟩).before a0 Z = true := hw _ (List.mem_of_getElem? (i := 252) rfl)
theorem w253 {a0 : Array Value} {Z : State} (hw : HW a0 Z) : (Jvm.Cond.instanceMethod ⟨"NtruToy", "invertModQ", "()Z"⟩).before a0 Z = true := hw _ (List.mem_of_getElem? (i := 253) rfl)
theorem w254 {a0 : Array Value} {Z : State} (hw : HW a0 Z) : (Jvm.Cond.privateMethod ⟨"NtruToy", "invertModQ", "()Z"⟩).before a0 Z = true := hw _ (List.mem_of_getElem? (i := 254) rfl)
theorem w255 {a0 : Array Value} {Z : State} (hw : HW a0 Z) : (Jvm.Cond.code ⟨"NtruToy", "invertModQ", "()Z"⟩ prog_1_method_58_code 3 (some .boolean)).before a0 Z = true := hw _ (List.mem_of_getElem? (i := 255) rfl)
theorem w256 {a0 : Array Value} {Z : State} (hw : HW a0 Z) : (Jvm.Cond.methodLink "NtruToy" 237 ⟨"NtruToy", "newtonStep", "()V"⟩).before a0 Z = true := hw _ (List.mem_of_getElem? (i := 256) rfl)
theorem w257 {a0 : Array Value} {Z : State} (hw : HW a0 Z) : (Jvm.Cond.instanceMethod ⟨"NtruToy", "newtonStep", "()V"⟩).before a0 Z = true := hw _ (List.mem_of_getElem? (i := 257) rfl)
theorem w258 {a0 : Array Value} {Z : State} (hw : HW a0 Z) : (Jvm.Cond.privateMethod ⟨"NtruToy", "newtonStep", "()V"⟩).before a0 Z = true := hw _ (List.mem_of_getElem? (i := 258) rfl)
theorem w259 {a0 : Array Value} {Z : State} (hw : HW a0 Z) : (Jvm.Cond.code ⟨"NtruToy", "newtonStep", "()V"⟩ prog_1_method_59_code 1 none).before a0 Z = true := hw _ (List.mem_of_getElem? (i := 259) rfl)
theorem w260 {a0 : Array Value} {Z : State} (hw : HW a0 Z) : (Jvm.Cond.methodLink "NtruToy" 240 ⟨"NtruToy", "computeCorrection", "()V"⟩).before a0 Z = true := hw _ (List.mem_of_getElem? (i := 260) rfl)
theorem w261 {a0 : Array Value} {Z : State} (hw : HW a0 Z) : (Jvm.Cond.instanceMethod ⟨"NtruToy", "computeCorrection", "()V"⟩).before a0 Z = true := hw _ (List.mem_of_getElem? (i := 261) rfl)
theorem w262 {a0 : Array Value} {Z : State} (hw : HW a0 Z) : (Jvm.Cond.privateMethod ⟨"NtruToy", "computeCorrection", "()V"⟩).before a0 Z = true := hw _ (List.mem_of_getElem? (i := 262) rfl)
theorem w263 {a0 : Array Value} {Z : State} (hw : HW a0 Z) : (Jvm.Cond.code ⟨"NtruToy", "computeCorrection", "()V"⟩ prog_1_method_60_code 5 none).before a0 Z = true := hw _ (List.mem_of_getElem? (i := 263) rfl)
theorem w264 {a0 : Array Value} {Z : State} (hw : HW a0 Z) : (Jvm.Cond.methodLink "NtruToy" 243 ⟨"NtruToy", "applyCorrection", "()V"⟩).before a0 Z = true := hw _ (List.mem_of_getElem? (i := 264) rfl)
theorem w265 {a0 : Array Value} {Z : State} (hw : HW a0 Z) : (Jvm.Cond.instanceMethod ⟨"NtruToy", "applyCorrection", "()V"⟩).before a0 Z = true := hw _ (List.mem_of_getElem? (i := 265) rfl)
theorem w266 {a0 : Array Value} {Z : State} (hw : HW a0 Z) : (Jvm.Cond.privateMethod ⟨"NtruToy", "applyCorrection", "()V"⟩).before a0 Z = true := hw _ (List.mem_of_getElem? (i := 266) rfl)
theorem w267 {a0 : Array Value} {Z : State} (hw : HW a0 Z) : (Jvm.Cond.code ⟨"NtruToy", "applyCorrection", "()V"⟩ prog_1_method_61_code 4 none).before a0 Z = true := hw _ (List.mem_of_getElem? (i := 267) rfl)
theorem w268 {a0 : Array Value} {Z : State} (hw : HW a0 Z) : (Jvm.Cond.methodLink "NtruToy" 246 ⟨"NtruToy", "copyPoly", "(II)V"⟩).before a0 Z = true := hw _ (List.mem_of_getElem? (i := 268) rfl)
theorem w269 {a0 : Array Value} {Z : State} (hw : HW a0 Z) : (Jvm.Cond.instanceMethod ⟨"NtruToy", "copyPoly", "(II)V"⟩).before a0 Z = true := hw _ (List.mem_of_getElem? (i := 269) rfl)
theorem w270 {a0 : Array Value} {Z : State} (hw : HW a0 Z) : (Jvm.Cond.privateMethod ⟨"NtruToy", "copyPoly", "(II)V"⟩).before a0 Z = true := hw _ (List.mem_of_getElem? (i := 270) rfl)
theorem w271 {a0 : Array Value} {Z : State} (hw : HW a0 Z) : (Jvm.Cond.code ⟨"NtruToy", "copyPoly", "(II)V"⟩ prog_1_method_37_code 5 none).before a0 Z = true := hw _ (List.mem_of_getElem? (i := 271) rfl)
theorem w272 {a0 : Array Value} {Z : State} (hw : HW a0 Z) : (Jvm.Cond.methodLink "NtruToy" 135 ⟨"NtruToy", "installKey", "()V"⟩).before a0 Z = true := hw _ (List.mem_of_getElem? (i := 272) rfl)
theorem w273 {a0 : Array Value} {Z : State} (hw : HW a0 Z) : (Jvm.Cond.instanceMethod ⟨"NtruToy", "installKey", "()V"⟩).before a0 Z = true := hw _ (List.mem_of_getElem? (i := 273) rfl)
theorem w274 {a0 : Array Value} {Z : State} (hw : HW a0 Z) : (Jvm.Cond.privateMethod ⟨"NtruToy", "installKey", "()V"⟩).before a0 Z = true := hw _ (List.mem_of_getElem? (i := 274) rfl)
theorem w275 {a0 : Array Value} {Z : State} (hw : HW a0 Z) : (Jvm.Cond.code ⟨"NtruToy", "installKey", "()V"⟩ prog_1_method_63_code 1 none).before a0 Z = true := hw _ (List.mem_of_getElem? (i := 275) rfl)
theorem w276 {a0 : Array Value} {Z : State} (hw : HW a0 Z) : (Jvm.Cond.methodLink "NtruToy" 252 ⟨"NtruToy", "computePublicKey", "()V"⟩).before a0 Z = true := hw _ (List.mem_of_getElem? (i := 276) rfl)
theorem w277 {a0 : Array Value} {Z : State} (hw : HW a0 Z) : (Jvm.Cond.instanceMethod ⟨"NtruToy", "computePublicKey", "()V"⟩).before a0 Z = true := hw _ (List.mem_of_getElem? (i := 277) rfl)
theorem w278 {a0 : Array Value} {Z : State} (hw : HW a0 Z) : (Jvm.Cond.privateMethod ⟨"NtruToy", "computePublicKey", "()V"⟩).before a0 Z = true := hw _ (List.mem_of_getElem? (i := 278) rfl)
theorem w279 {a0 : Array Value} {Z : State} (hw : HW a0 Z) : (Jvm.Cond.code ⟨"NtruToy", "computePublicKey", "()V"⟩ prog_1_method_64_code 4 none).before a0 Z = true := hw _ (List.mem_of_getElem? (i := 279) rfl)
theorem w280 {a0 : Array Value} {Z : State} (hw : HW a0 Z) : (Jvm.Cond.methodLink "NtruToyL5" 31 ⟨"NtruToy", "decrypt", "()I"⟩).before a0 Z = true := hw _ (List.mem_of_getElem? (i := 280) rfl)
theorem w281 {a0 : Array Value} {Z : State} (hw : HW a0 Z) : (Jvm.Cond.declares ⟨"NtruToy", "decrypt", "()I"⟩).before a0 Z = true := hw _ (List.mem_of_getElem? (i := 281) rfl)
theorem w282 {a0 : Array Value} {Z : State} (hw : HW a0 Z) : (Jvm.Cond.instanceMethod ⟨"NtruToy", "decrypt", "()I"⟩).before a0 Z = true := hw _ (List.mem_of_getElem? (i := 282) rfl)
theorem w283 {a0 : Array Value} {Z : State} (hw : HW a0 Z) : (Jvm.Cond.selects "NtruToy" ⟨"NtruToy", "decrypt", "()I"⟩ ⟨"NtruToy", "decrypt", "()I"⟩).before a0 Z = true := hw _ (List.mem_of_getElem? (i := 283) rfl)
theorem w284 {a0 : Array Value} {Z : State} (hw : HW a0 Z) : (Jvm.Cond.code ⟨"NtruToy", "decrypt", "()I"⟩ prog_1_method_12_code 1 (some .int)).before a0 Z = true := hw _ (List.mem_of_getElem? (i := 284) rfl)
theorem w285 {a0 : Array Value} {Z : State} (hw : HW a0 Z) : (Jvm.Cond.methodLink "NtruToyL5" 28 ⟨"NtruToy", "encrypt", "()I"⟩).before a0 Z = true := hw _ (List.mem_of_getElem? (i := 285) rfl)
theorem w286 {a0 : Array Value} {Z : State} (hw : HW a0 Z) : (Jvm.Cond.declares ⟨"NtruToy", "encrypt", "()I"⟩).before a0 Z = true := hw _ (List.mem_of_getElem? (i := 286) rfl)
theorem w287 {a0 : Array Value} {Z : State} (hw : HW a0 Z) : (Jvm.Cond.instanceMethod ⟨"NtruToy", "encrypt", "()I"⟩).before a0 Z = true := hw _ (List.mem_of_getElem? (i := 287) rfl)
theorem w288 {a0 : Array Value} {Z : State} (hw : HW a0 Z) : (Jvm.Cond.selects "NtruToy" ⟨"NtruToy", "encrypt", "()I"⟩ ⟨"NtruToy", "encrypt", "()I"⟩).before a0 Z = true := hw _ (List.mem_of_getElem? (i := 288) rfl)
theorem w289 {a0 : Array Value} {Z : State} (hw : HW a0 Z) : (Jvm.Cond.code ⟨"NtruToy", "encrypt", "()I"⟩ prog_1_method_11_code 3 (some .int)).before a0 Z = true := hw _ (List.mem_of_getElem? (i := 289) rfl)
theorem w290 {a0 : Array Value} {Z : State} (hw : HW a0 Z) : (Jvm.Cond.methodLink "NtruToy" 144 ⟨"NtruToy", "writeCentred", "()V"⟩).before a0 Z = true := hw _ (List.mem_of_getElem? (i := 290) rfl)
theorem w291 {a0 : Array Value} {Z : State} (hw : HW a0 Z) : (Jvm.Cond.instanceMethod ⟨"NtruToy", "writeCentred", "()V"⟩).before a0 Z = true := hw _ (List.mem_of_getElem? (i := 291) rfl)
theorem w292 {a0 : Array Value} {Z : State} (hw : HW a0 Z) : (Jvm.Cond.privateMethod ⟨"NtruToy", "writeCentred", "()V"⟩).before a0 Z = true := hw _ (List.mem_of_getElem? (i := 292) rfl)
theorem w293 {a0 : Array Value} {Z : State} (hw : HW a0 Z) : (Jvm.Cond.code ⟨"NtruToy", "writeCentred", "()V"⟩ prog_1_method_67_code 5 none).before a0 Z = true := hw _ (List.mem_of_getElem? (i := 293) rfl)
theorem w294 {a0 : Array Value} {Z : State} (hw : HW a0 Z) : (Jvm.Cond.methodLink "NtruToy" 258 ⟨"NtruToy", "centre", "(I)I"⟩).before a0 Z = true := hw _ (List.mem_of_getElem? (i := 294) rfl)
theorem w295 {a0 : Array Value} {Z : State} (hw : HW a0 Z) : (Jvm.Cond.instanceMethod ⟨"NtruToy", "centre", "(I)I"⟩).before a0 Z = true := hw _ (List.mem_of_getElem? (i := 295) rfl)
theorem w296 {a0 : Array Value} {Z : State} (hw : HW a0 Z) : (Jvm.Cond.privateMethod ⟨"NtruToy", "centre", "(I)I"⟩).before a0 Z = true := hw _ (List.mem_of_getElem? (i := 296) rfl)
theorem w297 {a0 : Array Value} {Z : State} (hw : HW a0 Z) : (Jvm.Cond.code ⟨"NtruToy", "centre", "(I)I"⟩ prog_1_method_21_code 3 (some .int)).before a0 Z = true := hw _ (List.mem_of_getElem? (i := 297) rfl)
theorem w298 {a0 : Array Value} {Z : State} (hw : HW a0 Z) : (Jvm.Cond.methodLink "NtruToy" 147 ⟨"NtruToy", "writeMessage", "()V"⟩).before a0 Z = true := hw _ (List.mem_of_getElem? (i := 298) rfl)
theorem w299 {a0 : Array Value} {Z : State} (hw : HW a0 Z) : (Jvm.Cond.instanceMethod ⟨"NtruToy", "writeMessage", "()V"⟩).before a0 Z = true := hw _ (List.mem_of_getElem? (i := 299) rfl)
theorem w300 {a0 : Array Value} {Z : State} (hw : HW a0 Z) : (Jvm.Cond.privateMethod ⟨"NtruToy", "writeMessage", "()V"⟩).before a0 Z = true := hw _ (List.mem_of_getElem? (i := 300) rfl)
theorem w301 {a0 : Array Value} {Z : State} (hw : HW a0 Z) : (Jvm.Cond.code ⟨"NtruToy", "writeMessage", "()V"⟩ prog_1_method_68_code 5 none).before a0 Z = true := hw _ (List.mem_of_getElem? (i := 301) rfl)
theorem w302 {a0 : Array Value} {Z : State} (hw : HW a0 Z) : (Jvm.Cond.methodLink "NtruToy" 261 ⟨"NtruToy", "ternaryOf", "(I)I"⟩).before a0 Z = true := hw _ (List.mem_of_getElem? (i := 302) rfl)
theorem w303 {a0 : Array Value} {Z : State} (hw : HW a0 Z) : (Jvm.Cond.instanceMethod ⟨"NtruToy", "ternaryOf", "(I)I"⟩).before a0 Z = true := hw _ (List.mem_of_getElem? (i := 303) rfl)
theorem w304 {a0 : Array Value} {Z : State} (hw : HW a0 Z) : (Jvm.Cond.privateMethod ⟨"NtruToy", "ternaryOf", "(I)I"⟩).before a0 Z = true := hw _ (List.mem_of_getElem? (i := 304) rfl)
theorem w305 {a0 : Array Value} {Z : State} (hw : HW a0 Z) : (Jvm.Cond.code ⟨"NtruToy", "ternaryOf", "(I)I"⟩ prog_1_method_22_code 2 (some .int)).before a0 Z = true := hw _ (List.mem_of_getElem? (i := 305) rfl)
theorem w306 {a0 : Array Value} {Z : State} (hw : HW a0 Z) : (Jvm.Cond.methodLink "NtruToy" 138 ⟨"NtruToy", "weightOf", "(I)I"⟩).before a0 Z = true := hw _ (List.mem_of_getElem? (i := 306) rfl)
theorem w307 {a0 : Array Value} {Z : State} (hw : HW a0 Z) : (Jvm.Cond.instanceMethod ⟨"NtruToy", "weightOf", "(I)I"⟩).before a0 Z = true := hw _ (List.mem_of_getElem? (i := 307) rfl)
theorem w308 {a0 : Array Value} {Z : State} (hw : HW a0 Z) : (Jvm.Cond.privateMethod ⟨"NtruToy", "weightOf", "(I)I"⟩).before a0 Z = true := hw _ (List.mem_of_getElem? (i := 308) rfl)
theorem w309 {a0 : Array Value} {Z : State} (hw : HW a0 Z) : (Jvm.Cond.code ⟨"NtruToy", "weightOf", "(I)I"⟩ prog_1_method_38_code 4 (some .int)).before a0 Z = true := hw _ (List.mem_of_getElem? (i := 309) rfl)
theorem w310 {a0 : Array Value} {Z : State} (hw : HW a0 Z) : (Jvm.Cond.methodLink "NtruToy" 141 ⟨"NtruToy", "writeCiphertext", "()V"⟩).before a0 Z = true := hw _ (List.mem_of_getElem? (i := 310) rfl)
theorem w311 {a0 : Array Value} {Z : State} (hw : HW a0 Z) : (Jvm.Cond.instanceMethod ⟨"NtruToy", "writeCiphertext", "()V"⟩).before a0 Z = true := hw _ (List.mem_of_getElem? (i := 311) rfl)
theorem w312 {a0 : Array Value} {Z : State} (hw : HW a0 Z) : (Jvm.Cond.privateMethod ⟨"NtruToy", "writeCiphertext", "()V"⟩).before a0 Z = true := hw _ (List.mem_of_getElem? (i := 312) rfl)
theorem w313 {a0 : Array Value} {Z : State} (hw : HW a0 Z) : (Jvm.Cond.code ⟨"NtruToy", "writeCiphertext", "()V"⟩ prog_1_method_65_code 3 none).before a0 Z = true := hw _ (List.mem_of_getElem? (i := 313) rfl)
theorem w314 {a0 : Array Value} {Z : State} (hw : HW a0 Z) : (Jvm.Cond.methodLink "NtruToy" 255 ⟨"NtruToy", "cipherCoeff", "(I)I"⟩).before a0 Z = true := hw _ (List.mem_of_getElem? (i := 314) rfl)
theorem w315 {a0 : Array Value} {Z : State} (hw : HW a0 Z) : (Jvm.Cond.instanceMethod ⟨"NtruToy", "cipherCoeff", "(I)I"⟩).before a0 Z = true := hw _ (List.mem_of_getElem? (i := 315) rfl)
theorem w316 {a0 : Array Value} {Z : State} (hw : HW a0 Z) : (Jvm.Cond.privateMethod ⟨"NtruToy", "cipherCoeff", "(I)I"⟩).before a0 Z = true := hw _ (List.mem_of_getElem? (i := 316) rfl)
theorem w317 {a0 : Array Value} {Z : State} (hw : HW a0 Z) : (Jvm.Cond.code ⟨"NtruToy", "cipherCoeff", "(I)I"⟩ prog_1_method_66_code 5 (some .int)).before a0 Z = true := hw _ (List.mem_of_getElem? (i := 317) rfl)
theorem w318 {a0 : Array Value} {Z : State} (hw : HW a0 Z) : (Jvm.Cond.methodLink "NtruToy" 160 ⟨"NtruToy", "isCipherValue", "(I)Z"⟩).before a0 Z = true := hw _ (List.mem_of_getElem? (i := 318) rfl)
theorem w319 {a0 : Array Value} {Z : State} (hw : HW a0 Z) : (Jvm.Cond.instanceMethod ⟨"NtruToy", "isCipherValue", "(I)Z"⟩).before a0 Z = true := hw _ (List.mem_of_getElem? (i := 319) rfl)
theorem w320 {a0 : Array Value} {Z : State} (hw : HW a0 Z) : (Jvm.Cond.privateMethod ⟨"NtruToy", "isCipherValue", "(I)Z"⟩).before a0 Z = true := hw _ (List.mem_of_getElem? (i := 320) rfl)
theorem w321 {a0 : Array Value} {Z : State} (hw : HW a0 Z) : (Jvm.Cond.code ⟨"NtruToy", "isCipherValue", "(I)Z"⟩ prog_1_method_28_code 2 (some .boolean)).before a0 Z = true := hw _ (List.mem_of_getElem? (i := 321) rfl)
theorem w322 {a0 : Array Value} {Z : State} (hw : HW a0 Z) : (Jvm.Cond.methodLink "NtruToy" 218 ⟨"NtruToy", "subtractRow", "(IIII)V"⟩).before a0 Z = true := hw _ (List.mem_of_getElem? (i := 322) rfl)
theorem w323 {a0 : Array Value} {Z : State} (hw : HW a0 Z) : (Jvm.Cond.instanceMethod ⟨"NtruToy", "subtractRow", "(IIII)V"⟩).before a0 Z = true := hw _ (List.mem_of_getElem? (i := 323) rfl)
theorem w324 {a0 : Array Value} {Z : State} (hw : HW a0 Z) : (Jvm.Cond.privateMethod ⟨"NtruToy", "subtractRow", "(IIII)V"⟩).before a0 Z = true := hw _ (List.mem_of_getElem? (i := 324) rfl)
theorem w325 {a0 : Array Value} {Z : State} (hw : HW a0 Z) : (Jvm.Cond.code ⟨"NtruToy", "subtractRow", "(IIII)V"⟩ prog_1_method_54_code 9 none).before a0 Z = true := hw _ (List.mem_of_getElem? (i := 325) rfl)
abbrev cC : String := "NtruToy"
def cFS : List FSpec := [(1, "f", "[I", 2), (2, "g", "[I", 2), (3, "m", "[I", 2), (4, "r", "[I", 2), (5, "c", "[I", 2), (6, "kf", "[I", 2), (7, "fp", "[I", 2), (8, "fq", "[I", 2), (9, "h", "[I", 2), (10, "a", "[I", 2), (11, "d", "[I", 2), (12, "mat", "[I", 2), (13, "invP", "[I", 2), (14, "invQ", "[I", 2), (15, "lift", "[I", 2), (16, "lift2", "[I", 2), (121, "n", "I", 0), (122, "q", "I", 0), (123, "bound", "I", 0), (124, "keyed", "Z", 0), (125, "keys", "I", 0), (142, "selInvP", "I", 0), (143, "selInvQ", "I", 0), (144, "selLift", "I", 0), (145, "selLift2", "I", 0)]
def cFA : List ASpec := [(1, .int, 17), (2, .int, 17), (3, .int, 17), (4, .int, 17), (5, .int, 17), (6, .int, 17), (7, .int, 17), (8, .int, 17), (9, .int, 17), (10, .int, 17), (11, .int, 17), (12, .int, 306), (13, .int, 17), (14, .int, 17), (15, .int, 17), (16, .int, 17)]
theorem mf_f : (1, "f", "[I", 2) ∈ cFS := List.mem_of_getElem? (i := 0) rfl
theorem mf_g : (2, "g", "[I", 2) ∈ cFS := List.mem_of_getElem? (i := 1) rfl
theorem mf_m : (3, "m", "[I", 2) ∈ cFS := List.mem_of_getElem? (i := 2) rfl
theorem mf_r : (4, "r", "[I", 2) ∈ cFS := List.mem_of_getElem? (i := 3) rfl
theorem mf_c : (5, "c", "[I", 2) ∈ cFS := List.mem_of_getElem? (i := 4) rfl
theorem mf_kf : (6, "kf", "[I", 2) ∈ cFS := List.mem_of_getElem? (i := 5) rfl
theorem mf_fp : (7, "fp", "[I", 2) ∈ cFS := List.mem_of_getElem? (i := 6) rfl
theorem mf_fq : (8, "fq", "[I", 2) ∈ cFS := List.mem_of_getElem? (i := 7) rfl
theorem mf_h : (9, "h", "[I", 2) ∈ cFS := List.mem_of_getElem? (i := 8) rfl
theorem mf_a : (10, "a", "[I", 2) ∈ cFS := List.mem_of_getElem? (i := 9) rfl
theorem mf_d : (11, "d", "[I", 2) ∈ cFS := List.mem_of_getElem? (i := 10) rfl
theorem mf_mat : (12, "mat", "[I", 2) ∈ cFS := List.mem_of_getElem? (i := 11) rfl
theorem mf_invP : (13, "invP", "[I", 2) ∈ cFS := List.mem_of_getElem? (i := 12) rfl
theorem mf_invQ : (14, "invQ", "[I", 2) ∈ cFS := List.mem_of_getElem? (i := 13) rfl
theorem mf_lift : (15, "lift", "[I", 2) ∈ cFS := List.mem_of_getElem? (i := 14) rfl
theorem mf_lift2 : (16, "lift2", "[I", 2) ∈ cFS := List.mem_of_getElem? (i := 15) rfl
theorem mf_n : (121, "n", "I", 0) ∈ cFS := List.mem_of_getElem? (i := 16) rfl
theorem mf_q : (122, "q", "I", 0) ∈ cFS := List.mem_of_getElem? (i := 17) rfl
theorem mf_bound : (123, "bound", "I", 0) ∈ cFS := List.mem_of_getElem? (i := 18) rfl
theorem mf_keyed : (124, "keyed", "Z", 0) ∈ cFS := List.mem_of_getElem? (i := 19) rfl
theorem mf_keys : (125, "keys", "I", 0) ∈ cFS := List.mem_of_getElem? (i := 20) rfl
theorem mf_selInvP : (142, "selInvP", "I", 0) ∈ cFS := List.mem_of_getElem? (i := 21) rfl
theorem mf_selInvQ : (143, "selInvQ", "I", 0) ∈ cFS := List.mem_of_getElem? (i := 22) rfl
theorem mf_selLift : (144, "selLift", "I", 0) ∈ cFS := List.mem_of_getElem? (i := 23) rfl
theorem mf_selLift2 : (145, "selLift2", "I", 0) ∈ cFS := List.mem_of_getElem? (i := 24) rfl
theorem ma_f : ((1, .int, 17) : ASpec) ∈ cFA := List.mem_of_getElem? (i := 0) rfl
theorem ma_g : ((2, .int, 17) : ASpec) ∈ cFA := List.mem_of_getElem? (i := 1) rfl
theorem ma_m : ((3, .int, 17) : ASpec) ∈ cFA := List.mem_of_getElem? (i := 2) rfl
theorem ma_r : ((4, .int, 17) : ASpec) ∈ cFA := List.mem_of_getElem? (i := 3) rfl
theorem ma_c : ((5, .int, 17) : ASpec) ∈ cFA := List.mem_of_getElem? (i := 4) rfl
theorem ma_kf : ((6, .int, 17) : ASpec) ∈ cFA := List.mem_of_getElem? (i := 5) rfl
theorem ma_fp : ((7, .int, 17) : ASpec) ∈ cFA := List.mem_of_getElem? (i := 6) rfl
theorem ma_fq : ((8, .int, 17) : ASpec) ∈ cFA := List.mem_of_getElem? (i := 7) rfl
theorem ma_h : ((9, .int, 17) : ASpec) ∈ cFA := List.mem_of_getElem? (i := 8) rfl
theorem ma_a : ((10, .int, 17) : ASpec) ∈ cFA := List.mem_of_getElem? (i := 9) rfl
theorem ma_d : ((11, .int, 17) : ASpec) ∈ cFA := List.mem_of_getElem? (i := 10) rfl
theorem ma_mat : ((12, .int, 306) : ASpec) ∈ cFA := List.mem_of_getElem? (i := 11) rfl
theorem ma_invP : ((13, .int, 17) : ASpec) ∈ cFA := List.mem_of_getElem? (i := 12) rfl
theorem ma_invQ : ((14, .int, 17) : ASpec) ∈ cFA := List.mem_of_getElem? (i := 13) rfl
theorem ma_lift : ((15, .int, 17) : ASpec) ∈ cFA := List.mem_of_getElem? (i := 14) rfl
theorem ma_lift2 : ((16, .int, 17) : ASpec) ∈ cFA := List.mem_of_getElem? (i := 15) rfl
theorem lgood : layGood cFS cFA 16 = true := by decide +kernel
theorem cj_16 : (ceJ 25 cFA [16]).1 ≤ 80 ∧ (ceJ 25 cFA [16]).2 ≤ 2432 := by decide +kernel
theorem cj_16_16 : (ceJ 25 cFA [16, 16]).1 ≤ 80 ∧ (ceJ 25 cFA [16, 16]).2 ≤ 2432 := by decide +kernel
theorem cn_ : (ceJ 25 cFA []).1 + 1 ≤ 80 ∧ (ceJ 25 cFA []).2 + 25 ≤ 2432 := by decide +kernel
theorem cn_16 : (ceJ 25 cFA [16]).1 + 1 ≤ 80 ∧ (ceJ 25 cFA [16]).2 + 25 ≤ 2432 := by decide +kernel
theorem ceI_nA : (561 : Nat) = (ceI cFA 16).2 := by decide +kernel
theorem ceI_0 : (ceI cFA 0).2 = 0 := by decide +kernel
theorem layW {a0 : Array Value} {Z : State} (hw : HW a0 Z) : LayW Z a0 cC cFS 25 := by
  refine ⟨fun f hf => ?_, w1 hw, w2 hw⟩
  simp only [cFS, List.mem_cons, List.not_mem_nil, or_false] at hf
  rcases hf with rfl | rfl | rfl | rfl | rfl | rfl | rfl | rfl | rfl | rfl | rfl | rfl | rfl | rfl | rfl | rfl | rfl | rfl | rfl | rfl | rfl | rfl | rfl | rfl | rfl
  · exact Or.inl (w11 hw)
  · exact Or.inl (w13 hw)
  · exact Or.inl (w15 hw)
  · exact Or.inl (w17 hw)
  · exact Or.inl (w19 hw)
  · exact Or.inl (w21 hw)
  · exact Or.inl (w23 hw)
  · exact Or.inl (w25 hw)
  · exact Or.inl (w27 hw)
  · exact Or.inl (w29 hw)
  · exact Or.inl (w31 hw)
  · exact Or.inl (w33 hw)
  · exact Or.inl (w35 hw)
  · exact Or.inl (w37 hw)
  · exact Or.inl (w39 hw)
  · exact Or.inl (w41 hw)
  · exact Or.inl (w55 hw)
  · exact Or.inl (w61 hw)
  · exact Or.inl (w63 hw)
  · exact Or.inl (w65 hw)
  · exact Or.inl (w67 hw)
  · exact Or.inl (w43 hw)
  · exact Or.inl (w45 hw)
  · exact Or.inl (w47 hw)
  · exact Or.inl (w49 hw)
theorem pnC : plainName cC = true := by first | (simp [plainName, overriddenIn]; done) | decide +kernel
theorem pnL : plainName "NtruToyL5" = true := by first | (simp [plainName, overriddenIn]; done) | decide +kernel
theorem hyC : cC ≠ "java/lang/invoke/MethodHandle" ∧ cC ≠ "java/lang/invoke/VarHandle" := by decide
theorem hyL : "NtruToyL5" ≠ "java/lang/invoke/MethodHandle" ∧ "NtruToyL5" ≠ "java/lang/invoke/VarHandle" := by decide
theorem pfd_I : parseFieldDescriptor "I" = some .int := by decide +kernel
theorem pfd_Z : parseFieldDescriptor "Z" = some .boolean := by decide +kernel
theorem pfd_J : parseFieldDescriptor "J" = some .long := by decide +kernel
theorem pfd_AI : parseFieldDescriptor "[I" = some (.array .int) := by decide +kernel
theorem pfd_AZ : parseFieldDescriptor "[Z" = some (.array .boolean) := by decide +kernel
theorem pfd_AC : parseFieldDescriptor "[C" = some (.array .char) := by decide +kernel
theorem pd_0 : parseMethodDescriptor "(II)I" = some ⟨[.int, .int], some .int⟩ := by decide +kernel
theorem pd_1 : parseMethodDescriptor "(I)Z" = some ⟨[.int], some .boolean⟩ := by decide +kernel
theorem pd_2 : parseMethodDescriptor "()I" = some ⟨[], some .int⟩ := by decide +kernel
theorem pd_3 : parseMethodDescriptor "()Z" = some ⟨[], some .boolean⟩ := by decide +kernel
theorem pd_4 : parseMethodDescriptor "(LNtruToy;LNtruToy;)Z" = some ⟨[.object "NtruToy", .object "NtruToy"], some .boolean⟩ := by decide +kernel
theorem pd_5 : parseMethodDescriptor "(III)V" = some ⟨[.int, .int, .int], none⟩ := by decide +kernel
theorem pd_6 : parseMethodDescriptor "(II)Z" = some ⟨[.int, .int], some .boolean⟩ := by decide +kernel
theorem pd_7 : parseMethodDescriptor "(III)Z" = some ⟨[.int, .int, .int], some .boolean⟩ := by decide +kernel
theorem pd_8 : parseMethodDescriptor "(JI)I" = some ⟨[.long, .int], some .int⟩ := by decide +kernel
theorem pd_9 : parseMethodDescriptor "(I)I" = some ⟨[.int], some .int⟩ := by decide +kernel
theorem pd_10 : parseMethodDescriptor "(IJ)V" = some ⟨[.int, .long], none⟩ := by decide +kernel
theorem pd_11 : parseMethodDescriptor "(J)Z" = some ⟨[.long], some .boolean⟩ := by decide +kernel
theorem pd_12 : parseMethodDescriptor "(IJ)Z" = some ⟨[.int, .long], some .boolean⟩ := by decide +kernel
theorem pd_13 : parseMethodDescriptor "(I)V" = some ⟨[.int], none⟩ := by decide +kernel
theorem pd_14 : parseMethodDescriptor "()V" = some ⟨[], none⟩ := by decide +kernel
theorem pd_15 : parseMethodDescriptor "(IIII)V" = some ⟨[.int, .int, .int, .int], none⟩ := by decide +kernel
theorem pd_16 : parseMethodDescriptor "(II)V" = some ⟨[.int, .int], none⟩ := by decide +kernel
theorem pd_17 : parseMethodDescriptor "(III)I" = some ⟨[.int, .int, .int], some .int⟩ := by decide +kernel
abbrev c4 : ByteArray := prog_1_method_23_code
theorem d4_0 : decode c4 0 = .ok (.iload_n 1, 1) := by decide +kernel
theorem d4_1 : decode c4 1 = .ok (.ifCond .lt 13, 3) := by decide +kernel
theorem d4_4 : decode c4 4 = .ok (.iload_n 1, 1) := by decide +kernel
theorem d4_5 : decode c4 5 = .ok (.bipush 10, 2) := by decide +kernel
theorem d4_7 : decode c4 7 = .ok (.if_icmp .gt 7, 3) := by decide +kernel
theorem d4_14 : decode c4 14 = .ok (.iconst 0, 1) := by decide +kernel
theorem d4_10 : decode c4 10 = .ok (.iconst 1, 1) := by decide +kernel
theorem d4_11 : decode c4 11 = .ok (.goto 4, 3) := by decide +kernel
theorem d4_15 : decode c4 15 = .ok (.ireturn, 1) := by decide +kernel
abbrev c5 : ByteArray := prog_1_method_26_code
theorem d5_0 : decode c5 0 = .ok (.iload_n 1, 1) := by decide +kernel
theorem d5_1 : decode c5 1 = .ok (.ifCond .lt 15, 3) := by decide +kernel
theorem d5_4 : decode c5 4 = .ok (.iload_n 1, 1) := by decide +kernel
theorem d5_5 : decode c5 5 = .ok (.aload_n 0, 1) := by decide +kernel
theorem d5_6 : decode c5 6 = .ok (.getfield 75, 3) := by decide +kernel
theorem d5_9 : decode c5 9 = .ok (.if_icmp .ge 7, 3) := by decide +kernel
theorem d5_16 : decode c5 16 = .ok (.iconst 0, 1) := by decide +kernel
theorem d5_12 : decode c5 12 = .ok (.iconst 1, 1) := by decide +kernel
theorem d5_13 : decode c5 13 = .ok (.goto 4, 3) := by decide +kernel
theorem d5_17 : decode c5 17 = .ok (.ireturn, 1) := by decide +kernel
abbrev c7 : ByteArray := prog_1_method_31_code
theorem d7_0 : decode c7 0 = .ok (.iload_n 1, 1) := by decide +kernel
theorem d7_1 : decode c7 1 = .ok (.tableswitch 136 0 10 #[59, 66, 73, 80, 87, 94, 101, 108, 115, 122, 129], 59) := by decide +kernel
theorem d7_137 : decode c7 137 = .ok (.iconst 0, 1) := by decide +kernel
theorem d7_138 : decode c7 138 = .ok (.ireturn, 1) := by decide +kernel
theorem d7_130 : decode c7 130 = .ok (.aload_n 0, 1) := by decide +kernel
theorem d7_131 : decode c7 131 = .ok (.getfield 40, 3) := by decide +kernel
theorem d7_134 : decode c7 134 = .ok (.iload_n 2, 1) := by decide +kernel
theorem d7_135 : decode c7 135 = .ok (.iaload, 1) := by decide +kernel
theorem d7_136 : decode c7 136 = .ok (.ireturn, 1) := by decide +kernel
theorem d7_123 : decode c7 123 = .ok (.aload_n 0, 1) := by decide +kernel
theorem d7_124 : decode c7 124 = .ok (.getfield 37, 3) := by decide +kernel
theorem d7_127 : decode c7 127 = .ok (.iload_n 2, 1) := by decide +kernel
theorem d7_128 : decode c7 128 = .ok (.iaload, 1) := by decide +kernel
theorem d7_129 : decode c7 129 = .ok (.ireturn, 1) := by decide +kernel
theorem d7_116 : decode c7 116 = .ok (.aload_n 0, 1) := by decide +kernel
theorem d7_117 : decode c7 117 = .ok (.getfield 34, 3) := by decide +kernel
theorem d7_120 : decode c7 120 = .ok (.iload_n 2, 1) := by decide +kernel
theorem d7_121 : decode c7 121 = .ok (.iaload, 1) := by decide +kernel
theorem d7_122 : decode c7 122 = .ok (.ireturn, 1) := by decide +kernel
theorem d7_109 : decode c7 109 = .ok (.aload_n 0, 1) := by decide +kernel
theorem d7_110 : decode c7 110 = .ok (.getfield 31, 3) := by decide +kernel
theorem d7_113 : decode c7 113 = .ok (.iload_n 2, 1) := by decide +kernel
theorem d7_114 : decode c7 114 = .ok (.iaload, 1) := by decide +kernel
theorem d7_115 : decode c7 115 = .ok (.ireturn, 1) := by decide +kernel
theorem d7_102 : decode c7 102 = .ok (.aload_n 0, 1) := by decide +kernel
theorem d7_103 : decode c7 103 = .ok (.getfield 28, 3) := by decide +kernel
theorem d7_106 : decode c7 106 = .ok (.iload_n 2, 1) := by decide +kernel
theorem d7_107 : decode c7 107 = .ok (.iaload, 1) := by decide +kernel
theorem d7_108 : decode c7 108 = .ok (.ireturn, 1) := by decide +kernel
theorem d7_95 : decode c7 95 = .ok (.aload_n 0, 1) := by decide +kernel
theorem d7_96 : decode c7 96 = .ok (.getfield 25, 3) := by decide +kernel
theorem d7_99 : decode c7 99 = .ok (.iload_n 2, 1) := by decide +kernel
theorem d7_100 : decode c7 100 = .ok (.iaload, 1) := by decide +kernel
theorem d7_101 : decode c7 101 = .ok (.ireturn, 1) := by decide +kernel
theorem d7_88 : decode c7 88 = .ok (.aload_n 0, 1) := by decide +kernel
theorem d7_89 : decode c7 89 = .ok (.getfield 22, 3) := by decide +kernel
theorem d7_92 : decode c7 92 = .ok (.iload_n 2, 1) := by decide +kernel
theorem d7_93 : decode c7 93 = .ok (.iaload, 1) := by decide +kernel
theorem d7_94 : decode c7 94 = .ok (.ireturn, 1) := by decide +kernel
theorem d7_81 : decode c7 81 = .ok (.aload_n 0, 1) := by decide +kernel
theorem d7_82 : decode c7 82 = .ok (.getfield 19, 3) := by decide +kernel
theorem d7_85 : decode c7 85 = .ok (.iload_n 2, 1) := by decide +kernel
theorem d7_86 : decode c7 86 = .ok (.iaload, 1) := by decide +kernel
theorem d7_87 : decode c7 87 = .ok (.ireturn, 1) := by decide +kernel
theorem d7_74 : decode c7 74 = .ok (.aload_n 0, 1) := by decide +kernel
theorem d7_75 : decode c7 75 = .ok (.getfield 16, 3) := by decide +kernel
theorem d7_78 : decode c7 78 = .ok (.iload_n 2, 1) := by decide +kernel
theorem d7_79 : decode c7 79 = .ok (.iaload, 1) := by decide +kernel
theorem d7_80 : decode c7 80 = .ok (.ireturn, 1) := by decide +kernel
theorem d7_67 : decode c7 67 = .ok (.aload_n 0, 1) := by decide +kernel
theorem d7_68 : decode c7 68 = .ok (.getfield 13, 3) := by decide +kernel
theorem d7_71 : decode c7 71 = .ok (.iload_n 2, 1) := by decide +kernel
theorem d7_72 : decode c7 72 = .ok (.iaload, 1) := by decide +kernel
theorem d7_73 : decode c7 73 = .ok (.ireturn, 1) := by decide +kernel
theorem d7_60 : decode c7 60 = .ok (.aload_n 0, 1) := by decide +kernel
theorem d7_61 : decode c7 61 = .ok (.getfield 7, 3) := by decide +kernel
theorem d7_64 : decode c7 64 = .ok (.iload_n 2, 1) := by decide +kernel
theorem d7_65 : decode c7 65 = .ok (.iaload, 1) := by decide +kernel
theorem d7_66 : decode c7 66 = .ok (.ireturn, 1) := by decide +kernel
abbrev c8 : ByteArray := prog_1_method_32_code
theorem d8_0 : decode c8 0 = .ok (.iload_n 1, 1) := by decide +kernel
theorem d8_1 : decode c8 1 = .ok (.tableswitch 59 11 14 #[31, 38, 45, 52], 31) := by decide +kernel
theorem d8_60 : decode c8 60 = .ok (.iconst 0, 1) := by decide +kernel
theorem d8_61 : decode c8 61 = .ok (.ireturn, 1) := by decide +kernel
theorem d8_53 : decode c8 53 = .ok (.aload_n 0, 1) := by decide +kernel
theorem d8_54 : decode c8 54 = .ok (.getfield 55, 3) := by decide +kernel
theorem d8_57 : decode c8 57 = .ok (.iload_n 2, 1) := by decide +kernel
theorem d8_58 : decode c8 58 = .ok (.iaload, 1) := by decide +kernel
theorem d8_59 : decode c8 59 = .ok (.ireturn, 1) := by decide +kernel
theorem d8_46 : decode c8 46 = .ok (.aload_n 0, 1) := by decide +kernel
theorem d8_47 : decode c8 47 = .ok (.getfield 52, 3) := by decide +kernel
theorem d8_50 : decode c8 50 = .ok (.iload_n 2, 1) := by decide +kernel
theorem d8_51 : decode c8 51 = .ok (.iaload, 1) := by decide +kernel
theorem d8_52 : decode c8 52 = .ok (.ireturn, 1) := by decide +kernel
theorem d8_39 : decode c8 39 = .ok (.aload_n 0, 1) := by decide +kernel
theorem d8_40 : decode c8 40 = .ok (.getfield 49, 3) := by decide +kernel
theorem d8_43 : decode c8 43 = .ok (.iload_n 2, 1) := by decide +kernel
theorem d8_44 : decode c8 44 = .ok (.iaload, 1) := by decide +kernel
theorem d8_45 : decode c8 45 = .ok (.ireturn, 1) := by decide +kernel
theorem d8_32 : decode c8 32 = .ok (.aload_n 0, 1) := by decide +kernel
theorem d8_33 : decode c8 33 = .ok (.getfield 46, 3) := by decide +kernel
theorem d8_36 : decode c8 36 = .ok (.iload_n 2, 1) := by decide +kernel
theorem d8_37 : decode c8 37 = .ok (.iaload, 1) := by decide +kernel
theorem d8_38 : decode c8 38 = .ok (.ireturn, 1) := by decide +kernel
abbrev c6 : ByteArray := prog_1_method_30_code
theorem d6_0 : decode c6 0 = .ok (.iload_n 2, 1) := by decide +kernel
theorem d6_1 : decode c6 1 = .ok (.ifCond .lt 9, 3) := by decide +kernel
theorem d6_4 : decode c6 4 = .ok (.iload_n 2, 1) := by decide +kernel
theorem d6_5 : decode c6 5 = .ok (.bipush 17, 2) := by decide +kernel
theorem d6_7 : decode c6 7 = .ok (.if_icmp .lt 5, 3) := by decide +kernel
theorem d6_12 : decode c6 12 = .ok (.iload_n 1, 1) := by decide +kernel
theorem d6_13 : decode c6 13 = .ok (.bipush 11, 2) := by decide +kernel
theorem d6_15 : decode c6 15 = .ok (.if_icmp .lt 10, 3) := by decide +kernel
theorem d6_25 : decode c6 25 = .ok (.aload_n 0, 1) := by decide +kernel
theorem d6_26 : decode c6 26 = .ok (.iload_n 1, 1) := by decide +kernel
theorem d6_27 : decode c6 27 = .ok (.iload_n 2, 1) := by decide +kernel
theorem d6_28 : decode c6 28 = .ok (.invokevirtual 169, 3) := by decide +kernel
theorem d6_31 : decode c6 31 = .ok (.ireturn, 1) := by decide +kernel
theorem d6_18 : decode c6 18 = .ok (.aload_n 0, 1) := by decide +kernel
theorem d6_19 : decode c6 19 = .ok (.iload_n 1, 1) := by decide +kernel
theorem d6_20 : decode c6 20 = .ok (.iload_n 2, 1) := by decide +kernel
theorem d6_21 : decode c6 21 = .ok (.invokevirtual 166, 3) := by decide +kernel
theorem d6_24 : decode c6 24 = .ok (.ireturn, 1) := by decide +kernel
theorem d6_10 : decode c6 10 = .ok (.iconst 0, 1) := by decide +kernel
theorem d6_11 : decode c6 11 = .ok (.ireturn, 1) := by decide +kernel
abbrev c3 : ByteArray := prog_1_method_13_code
theorem d3_0 : decode c3 0 = .ok (.aload_n 0, 1) := by decide +kernel
theorem d3_1 : decode c3 1 = .ok (.iload_n 1, 1) := by decide +kernel
theorem d3_2 : decode c3 2 = .ok (.invokevirtual 150, 3) := by decide +kernel
theorem d3_5 : decode c3 5 = .ok (.ifCond .ne 5, 3) := by decide +kernel
theorem d3_10 : decode c3 10 = .ok (.aload_n 0, 1) := by decide +kernel
theorem d3_11 : decode c3 11 = .ok (.iload_n 2, 1) := by decide +kernel
theorem d3_12 : decode c3 12 = .ok (.invokevirtual 99, 3) := by decide +kernel
theorem d3_15 : decode c3 15 = .ok (.ifCond .ne 5, 3) := by decide +kernel
theorem d3_20 : decode c3 20 = .ok (.aload_n 0, 1) := by decide +kernel
theorem d3_21 : decode c3 21 = .ok (.iload_n 1, 1) := by decide +kernel
theorem d3_22 : decode c3 22 = .ok (.iload_n 2, 1) := by decide +kernel
theorem d3_23 : decode c3 23 = .ok (.invokevirtual 153, 3) := by decide +kernel
theorem d3_26 : decode c3 26 = .ok (.ireturn, 1) := by decide +kernel
theorem d3_18 : decode c3 18 = .ok (.iconst 0, 1) := by decide +kernel
theorem d3_19 : decode c3 19 = .ok (.ireturn, 1) := by decide +kernel
theorem d3_8 : decode c3 8 = .ok (.iconst 0, 1) := by decide +kernel
theorem d3_9 : decode c3 9 = .ok (.ireturn, 1) := by decide +kernel
abbrev c9 : ByteArray := prog_1_method_9_code
theorem d9_0 : decode c9 0 = .ok (.aload_n 0, 1) := by decide +kernel
theorem d9_1 : decode c9 1 = .ok (.getfield 88, 3) := by decide +kernel
theorem d9_4 : decode c9 4 = .ok (.ireturn, 1) := by decide +kernel
abbrev c10 : ByteArray := prog_1_method_10_code
theorem d10_0 : decode c10 0 = .ok (.aload_n 0, 1) := by decide +kernel
theorem d10_1 : decode c10 1 = .ok (.getfield 92, 3) := by decide +kernel
theorem d10_4 : decode c10 4 = .ok (.ireturn, 1) := by decide +kernel
abbrev c2 : ByteArray := method_3_code
theorem d2_0 : decode c2 0 = .ok (.aload_n 0, 1) := by decide +kernel
theorem d2_1 : decode c2 1 = .ok (.invokevirtual 40, 3) := by decide +kernel
theorem d2_4 : decode c2 4 = .ok (.aload_n 1, 1) := by decide +kernel
theorem d2_5 : decode c2 5 = .ok (.invokevirtual 40, 3) := by decide +kernel
theorem d2_8 : decode c2 8 = .ok (.if_icmp .eq 5, 3) := by decide +kernel
theorem d2_13 : decode c2 13 = .ok (.aload_n 0, 1) := by decide +kernel
theorem d2_14 : decode c2 14 = .ok (.invokevirtual 44, 3) := by decide +kernel
theorem d2_17 : decode c2 17 = .ok (.aload_n 1, 1) := by decide +kernel
theorem d2_18 : decode c2 18 = .ok (.invokevirtual 44, 3) := by decide +kernel
theorem d2_21 : decode c2 21 = .ok (.if_icmp .eq 5, 3) := by decide +kernel
theorem d2_26 : decode c2 26 = .ok (.iconst 0, 1) := by decide +kernel
theorem d2_27 : decode c2 27 = .ok (.istore_n 2, 1) := by decide +kernel
theorem d2_28 : decode c2 28 = .ok (.iload_n 2, 1) := by decide +kernel
theorem d2_29 : decode c2 29 = .ok (.bipush 11, 2) := by decide +kernel
theorem d2_31 : decode c2 31 = .ok (.if_icmp .ge 39, 3) := by decide +kernel
theorem d2_70 : decode c2 70 = .ok (.iconst 1, 1) := by decide +kernel
theorem d2_71 : decode c2 71 = .ok (.ireturn, 1) := by decide +kernel
theorem d2_34 : decode c2 34 = .ok (.iconst 0, 1) := by decide +kernel
theorem d2_35 : decode c2 35 = .ok (.istore_n 3, 1) := by decide +kernel
theorem d2_36 : decode c2 36 = .ok (.iload_n 3, 1) := by decide +kernel
theorem d2_37 : decode c2 37 = .ok (.iconst 5, 1) := by decide +kernel
theorem d2_38 : decode c2 38 = .ok (.if_icmp .ge 26, 3) := by decide +kernel
theorem d2_64 : decode c2 64 = .ok (.iinc 2 1, 3) := by decide +kernel
theorem d2_67 : decode c2 67 = .ok (.goto (-39), 3) := by decide +kernel
theorem d2_41 : decode c2 41 = .ok (.aload_n 0, 1) := by decide +kernel
theorem d2_42 : decode c2 42 = .ok (.iload_n 2, 1) := by decide +kernel
theorem d2_43 : decode c2 43 = .ok (.iload_n 3, 1) := by decide +kernel
theorem d2_44 : decode c2 44 = .ok (.invokevirtual 47, 3) := by decide +kernel
theorem d2_47 : decode c2 47 = .ok (.aload_n 1, 1) := by decide +kernel
theorem d2_48 : decode c2 48 = .ok (.iload_n 2, 1) := by decide +kernel
theorem d2_49 : decode c2 49 = .ok (.iload_n 3, 1) := by decide +kernel
theorem d2_50 : decode c2 50 = .ok (.invokevirtual 47, 3) := by decide +kernel
theorem d2_53 : decode c2 53 = .ok (.if_icmp .eq 5, 3) := by decide +kernel
theorem d2_58 : decode c2 58 = .ok (.iinc 3 1, 3) := by decide +kernel
theorem d2_61 : decode c2 61 = .ok (.goto (-25), 3) := by decide +kernel
theorem d2_56 : decode c2 56 = .ok (.iconst 0, 1) := by decide +kernel
theorem d2_57 : decode c2 57 = .ok (.ireturn, 1) := by decide +kernel
theorem d2_24 : decode c2 24 = .ok (.iconst 0, 1) := by decide +kernel
theorem d2_25 : decode c2 25 = .ok (.ireturn, 1) := by decide +kernel
theorem d2_11 : decode c2 11 = .ok (.iconst 0, 1) := by decide +kernel
theorem d2_12 : decode c2 12 = .ok (.ireturn, 1) := by decide +kernel
abbrev c12 : ByteArray := prog_1_method_24_code
theorem d12_0 : decode c12 0 = .ok (.iload_n 1, 1) := by decide +kernel
theorem d12_1 : decode c12 1 = .ok (.ifCond .lt 12, 3) := by decide +kernel
theorem d12_4 : decode c12 4 = .ok (.iload_n 1, 1) := by decide +kernel
theorem d12_5 : decode c12 5 = .ok (.iconst 4, 1) := by decide +kernel
theorem d12_6 : decode c12 6 = .ok (.if_icmp .gt 7, 3) := by decide +kernel
theorem d12_13 : decode c12 13 = .ok (.iconst 0, 1) := by decide +kernel
theorem d12_9 : decode c12 9 = .ok (.iconst 1, 1) := by decide +kernel
theorem d12_10 : decode c12 10 = .ok (.goto 4, 3) := by decide +kernel
theorem d12_14 : decode c12 14 = .ok (.ireturn, 1) := by decide +kernel
abbrev c14 : ByteArray := prog_1_method_28_code
theorem d14_0 : decode c14 0 = .ok (.iload_n 1, 1) := by decide +kernel
theorem d14_1 : decode c14 1 = .ok (.ifCond .lt 15, 3) := by decide +kernel
theorem d14_4 : decode c14 4 = .ok (.iload_n 1, 1) := by decide +kernel
theorem d14_5 : decode c14 5 = .ok (.aload_n 0, 1) := by decide +kernel
theorem d14_6 : decode c14 6 = .ok (.getfield 82, 3) := by decide +kernel
theorem d14_9 : decode c14 9 = .ok (.if_icmp .ge 7, 3) := by decide +kernel
theorem d14_16 : decode c14 16 = .ok (.iconst 0, 1) := by decide +kernel
theorem d14_12 : decode c14 12 = .ok (.iconst 1, 1) := by decide +kernel
theorem d14_13 : decode c14 13 = .ok (.goto 4, 3) := by decide +kernel
theorem d14_17 : decode c14 17 = .ok (.ireturn, 1) := by decide +kernel
abbrev c15 : ByteArray := prog_1_method_27_code
theorem d15_0 : decode c15 0 = .ok (.iload_n 1, 1) := by decide +kernel
theorem d15_1 : decode c15 1 = .ok (.iconst (-1), 1) := by decide +kernel
theorem d15_2 : decode c15 2 = .ok (.if_icmp .lt 12, 3) := by decide +kernel
theorem d15_5 : decode c15 5 = .ok (.iload_n 1, 1) := by decide +kernel
theorem d15_6 : decode c15 6 = .ok (.iconst 1, 1) := by decide +kernel
theorem d15_7 : decode c15 7 = .ok (.if_icmp .gt 7, 3) := by decide +kernel
theorem d15_14 : decode c15 14 = .ok (.iconst 0, 1) := by decide +kernel
theorem d15_10 : decode c15 10 = .ok (.iconst 1, 1) := by decide +kernel
theorem d15_11 : decode c15 11 = .ok (.goto 4, 3) := by decide +kernel
theorem d15_15 : decode c15 15 = .ok (.ireturn, 1) := by decide +kernel
abbrev c13 : ByteArray := prog_1_method_29_code
theorem d13_0 : decode c13 0 = .ok (.iload_n 1, 1) := by decide +kernel
theorem d13_1 : decode c13 1 = .ok (.iconst 4, 1) := by decide +kernel
theorem d13_2 : decode c13 2 = .ok (.if_icmp .ne 9, 3) := by decide +kernel
theorem d13_11 : decode c13 11 = .ok (.aload_n 0, 1) := by decide +kernel
theorem d13_12 : decode c13 12 = .ok (.iload_n 2, 1) := by decide +kernel
theorem d13_13 : decode c13 13 = .ok (.invokevirtual 163, 3) := by decide +kernel
theorem d13_16 : decode c13 16 = .ok (.ireturn, 1) := by decide +kernel
theorem d13_5 : decode c13 5 = .ok (.aload_n 0, 1) := by decide +kernel
theorem d13_6 : decode c13 6 = .ok (.iload_n 2, 1) := by decide +kernel
theorem d13_7 : decode c13 7 = .ok (.invokevirtual 160, 3) := by decide +kernel
theorem d13_10 : decode c13 10 = .ok (.ireturn, 1) := by decide +kernel
abbrev c17 : ByteArray := prog_1_method_34_code
theorem d17_0 : decode c17 0 = .ok (.iload_n 1, 1) := by decide +kernel
theorem d17_1 : decode c17 1 = .ok (.tableswitch 169 0 10 #[59, 69, 79, 89, 99, 109, 119, 129, 139, 149, 159], 59) := by decide +kernel
theorem d17_160 : decode c17 160 = .ok (.aload_n 0, 1) := by decide +kernel
theorem d17_161 : decode c17 161 = .ok (.getfield 40, 3) := by decide +kernel
theorem d17_164 : decode c17 164 = .ok (.iload_n 2, 1) := by decide +kernel
theorem d17_165 : decode c17 165 = .ok (.iload_n 3, 1) := by decide +kernel
theorem d17_166 : decode c17 166 = .ok (.iastore, 1) := by decide +kernel
theorem d17_167 : decode c17 167 = .ok (.goto 3, 3) := by decide +kernel
theorem d17_150 : decode c17 150 = .ok (.aload_n 0, 1) := by decide +kernel
theorem d17_151 : decode c17 151 = .ok (.getfield 37, 3) := by decide +kernel
theorem d17_154 : decode c17 154 = .ok (.iload_n 2, 1) := by decide +kernel
theorem d17_155 : decode c17 155 = .ok (.iload_n 3, 1) := by decide +kernel
theorem d17_156 : decode c17 156 = .ok (.iastore, 1) := by decide +kernel
theorem d17_157 : decode c17 157 = .ok (.goto 13, 3) := by decide +kernel
theorem d17_140 : decode c17 140 = .ok (.aload_n 0, 1) := by decide +kernel
theorem d17_141 : decode c17 141 = .ok (.getfield 34, 3) := by decide +kernel
theorem d17_144 : decode c17 144 = .ok (.iload_n 2, 1) := by decide +kernel
theorem d17_145 : decode c17 145 = .ok (.iload_n 3, 1) := by decide +kernel
theorem d17_146 : decode c17 146 = .ok (.iastore, 1) := by decide +kernel
theorem d17_147 : decode c17 147 = .ok (.goto 23, 3) := by decide +kernel
theorem d17_130 : decode c17 130 = .ok (.aload_n 0, 1) := by decide +kernel
theorem d17_131 : decode c17 131 = .ok (.getfield 31, 3) := by decide +kernel
theorem d17_134 : decode c17 134 = .ok (.iload_n 2, 1) := by decide +kernel
theorem d17_135 : decode c17 135 = .ok (.iload_n 3, 1) := by decide +kernel
theorem d17_136 : decode c17 136 = .ok (.iastore, 1) := by decide +kernel
theorem d17_137 : decode c17 137 = .ok (.goto 33, 3) := by decide +kernel
theorem d17_120 : decode c17 120 = .ok (.aload_n 0, 1) := by decide +kernel
theorem d17_121 : decode c17 121 = .ok (.getfield 28, 3) := by decide +kernel
theorem d17_124 : decode c17 124 = .ok (.iload_n 2, 1) := by decide +kernel
theorem d17_125 : decode c17 125 = .ok (.iload_n 3, 1) := by decide +kernel
theorem d17_126 : decode c17 126 = .ok (.iastore, 1) := by decide +kernel
theorem d17_127 : decode c17 127 = .ok (.goto 43, 3) := by decide +kernel
theorem d17_110 : decode c17 110 = .ok (.aload_n 0, 1) := by decide +kernel
theorem d17_111 : decode c17 111 = .ok (.getfield 25, 3) := by decide +kernel
theorem d17_114 : decode c17 114 = .ok (.iload_n 2, 1) := by decide +kernel
theorem d17_115 : decode c17 115 = .ok (.iload_n 3, 1) := by decide +kernel
theorem d17_116 : decode c17 116 = .ok (.iastore, 1) := by decide +kernel
theorem d17_117 : decode c17 117 = .ok (.goto 53, 3) := by decide +kernel
theorem d17_100 : decode c17 100 = .ok (.aload_n 0, 1) := by decide +kernel
theorem d17_101 : decode c17 101 = .ok (.getfield 22, 3) := by decide +kernel
theorem d17_104 : decode c17 104 = .ok (.iload_n 2, 1) := by decide +kernel
theorem d17_105 : decode c17 105 = .ok (.iload_n 3, 1) := by decide +kernel
theorem d17_106 : decode c17 106 = .ok (.iastore, 1) := by decide +kernel
theorem d17_107 : decode c17 107 = .ok (.goto 63, 3) := by decide +kernel
theorem d17_90 : decode c17 90 = .ok (.aload_n 0, 1) := by decide +kernel
theorem d17_91 : decode c17 91 = .ok (.getfield 19, 3) := by decide +kernel
theorem d17_94 : decode c17 94 = .ok (.iload_n 2, 1) := by decide +kernel
theorem d17_95 : decode c17 95 = .ok (.iload_n 3, 1) := by decide +kernel
theorem d17_96 : decode c17 96 = .ok (.iastore, 1) := by decide +kernel
theorem d17_97 : decode c17 97 = .ok (.goto 73, 3) := by decide +kernel
theorem d17_80 : decode c17 80 = .ok (.aload_n 0, 1) := by decide +kernel
theorem d17_81 : decode c17 81 = .ok (.getfield 16, 3) := by decide +kernel
theorem d17_84 : decode c17 84 = .ok (.iload_n 2, 1) := by decide +kernel
theorem d17_85 : decode c17 85 = .ok (.iload_n 3, 1) := by decide +kernel
theorem d17_86 : decode c17 86 = .ok (.iastore, 1) := by decide +kernel
theorem d17_87 : decode c17 87 = .ok (.goto 83, 3) := by decide +kernel
theorem d17_70 : decode c17 70 = .ok (.aload_n 0, 1) := by decide +kernel
theorem d17_71 : decode c17 71 = .ok (.getfield 13, 3) := by decide +kernel
theorem d17_74 : decode c17 74 = .ok (.iload_n 2, 1) := by decide +kernel
theorem d17_75 : decode c17 75 = .ok (.iload_n 3, 1) := by decide +kernel
theorem d17_76 : decode c17 76 = .ok (.iastore, 1) := by decide +kernel
theorem d17_77 : decode c17 77 = .ok (.goto 93, 3) := by decide +kernel
theorem d17_60 : decode c17 60 = .ok (.aload_n 0, 1) := by decide +kernel
theorem d17_61 : decode c17 61 = .ok (.getfield 7, 3) := by decide +kernel
theorem d17_64 : decode c17 64 = .ok (.iload_n 2, 1) := by decide +kernel
theorem d17_65 : decode c17 65 = .ok (.iload_n 3, 1) := by decide +kernel
theorem d17_66 : decode c17 66 = .ok (.iastore, 1) := by decide +kernel
theorem d17_67 : decode c17 67 = .ok (.goto 103, 3) := by decide +kernel
theorem d17_170 : decode c17 170 = .ok (.return_, 1) := by decide +kernel
abbrev c18 : ByteArray := prog_1_method_35_code
theorem d18_0 : decode c18 0 = .ok (.iload_n 1, 1) := by decide +kernel
theorem d18_1 : decode c18 1 = .ok (.tableswitch 71 11 14 #[31, 41, 51, 61], 31) := by decide +kernel
theorem d18_62 : decode c18 62 = .ok (.aload_n 0, 1) := by decide +kernel
theorem d18_63 : decode c18 63 = .ok (.getfield 55, 3) := by decide +kernel
theorem d18_66 : decode c18 66 = .ok (.iload_n 2, 1) := by decide +kernel
theorem d18_67 : decode c18 67 = .ok (.iload_n 3, 1) := by decide +kernel
theorem d18_68 : decode c18 68 = .ok (.iastore, 1) := by decide +kernel
theorem d18_69 : decode c18 69 = .ok (.goto 3, 3) := by decide +kernel
theorem d18_52 : decode c18 52 = .ok (.aload_n 0, 1) := by decide +kernel
theorem d18_53 : decode c18 53 = .ok (.getfield 52, 3) := by decide +kernel
theorem d18_56 : decode c18 56 = .ok (.iload_n 2, 1) := by decide +kernel
theorem d18_57 : decode c18 57 = .ok (.iload_n 3, 1) := by decide +kernel
theorem d18_58 : decode c18 58 = .ok (.iastore, 1) := by decide +kernel
theorem d18_59 : decode c18 59 = .ok (.goto 13, 3) := by decide +kernel
theorem d18_42 : decode c18 42 = .ok (.aload_n 0, 1) := by decide +kernel
theorem d18_43 : decode c18 43 = .ok (.getfield 49, 3) := by decide +kernel
theorem d18_46 : decode c18 46 = .ok (.iload_n 2, 1) := by decide +kernel
theorem d18_47 : decode c18 47 = .ok (.iload_n 3, 1) := by decide +kernel
theorem d18_48 : decode c18 48 = .ok (.iastore, 1) := by decide +kernel
theorem d18_49 : decode c18 49 = .ok (.goto 23, 3) := by decide +kernel
theorem d18_32 : decode c18 32 = .ok (.aload_n 0, 1) := by decide +kernel
theorem d18_33 : decode c18 33 = .ok (.getfield 46, 3) := by decide +kernel
theorem d18_36 : decode c18 36 = .ok (.iload_n 2, 1) := by decide +kernel
theorem d18_37 : decode c18 37 = .ok (.iload_n 3, 1) := by decide +kernel
theorem d18_38 : decode c18 38 = .ok (.iastore, 1) := by decide +kernel
theorem d18_39 : decode c18 39 = .ok (.goto 33, 3) := by decide +kernel
theorem d18_72 : decode c18 72 = .ok (.return_, 1) := by decide +kernel
abbrev c16 : ByteArray := prog_1_method_33_code
theorem d16_0 : decode c16 0 = .ok (.iload_n 2, 1) := by decide +kernel
theorem d16_1 : decode c16 1 = .ok (.ifCond .lt 9, 3) := by decide +kernel
theorem d16_4 : decode c16 4 = .ok (.iload_n 2, 1) := by decide +kernel
theorem d16_5 : decode c16 5 = .ok (.bipush 17, 2) := by decide +kernel
theorem d16_7 : decode c16 7 = .ok (.if_icmp .lt 4, 3) := by decide +kernel
theorem d16_11 : decode c16 11 = .ok (.iload_n 1, 1) := by decide +kernel
theorem d16_12 : decode c16 12 = .ok (.bipush 11, 2) := by decide +kernel
theorem d16_14 : decode c16 14 = .ok (.if_icmp .lt 11, 3) := by decide +kernel
theorem d16_25 : decode c16 25 = .ok (.aload_n 0, 1) := by decide +kernel
theorem d16_26 : decode c16 26 = .ok (.iload_n 1, 1) := by decide +kernel
theorem d16_27 : decode c16 27 = .ok (.iload_n 2, 1) := by decide +kernel
theorem d16_28 : decode c16 28 = .ok (.iload_n 3, 1) := by decide +kernel
theorem d16_29 : decode c16 29 = .ok (.invokevirtual 175, 3) := by decide +kernel
theorem d16_32 : decode c16 32 = .ok (.return_, 1) := by decide +kernel
theorem d16_17 : decode c16 17 = .ok (.aload_n 0, 1) := by decide +kernel
theorem d16_18 : decode c16 18 = .ok (.iload_n 1, 1) := by decide +kernel
theorem d16_19 : decode c16 19 = .ok (.iload_n 2, 1) := by decide +kernel
theorem d16_20 : decode c16 20 = .ok (.iload_n 3, 1) := by decide +kernel
theorem d16_21 : decode c16 21 = .ok (.invokevirtual 172, 3) := by decide +kernel
theorem d16_24 : decode c16 24 = .ok (.return_, 1) := by decide +kernel
theorem d16_10 : decode c16 10 = .ok (.return_, 1) := by decide +kernel
abbrev c11 : ByteArray := prog_1_method_5_code
theorem d11_0 : decode c11 0 = .ok (.aload_n 0, 1) := by decide +kernel
theorem d11_1 : decode c11 1 = .ok (.iload_n 1, 1) := by decide +kernel
theorem d11_2 : decode c11 2 = .ok (.invokevirtual 95, 3) := by decide +kernel
theorem d11_5 : decode c11 5 = .ok (.ifCond .ne 5, 3) := by decide +kernel
theorem d11_10 : decode c11 10 = .ok (.aload_n 0, 1) := by decide +kernel
theorem d11_11 : decode c11 11 = .ok (.iload_n 2, 1) := by decide +kernel
theorem d11_12 : decode c11 12 = .ok (.invokevirtual 99, 3) := by decide +kernel
theorem d11_15 : decode c11 15 = .ok (.ifCond .ne 5, 3) := by decide +kernel
theorem d11_20 : decode c11 20 = .ok (.aload_n 0, 1) := by decide +kernel
theorem d11_21 : decode c11 21 = .ok (.iload_n 1, 1) := by decide +kernel
theorem d11_22 : decode c11 22 = .ok (.iload_n 3, 1) := by decide +kernel
theorem d11_23 : decode c11 23 = .ok (.invokevirtual 102, 3) := by decide +kernel
theorem d11_26 : decode c11 26 = .ok (.ifCond .ne 5, 3) := by decide +kernel
theorem d11_31 : decode c11 31 = .ok (.aload_n 0, 1) := by decide +kernel
theorem d11_32 : decode c11 32 = .ok (.iload_n 1, 1) := by decide +kernel
theorem d11_33 : decode c11 33 = .ok (.iload_n 2, 1) := by decide +kernel
theorem d11_34 : decode c11 34 = .ok (.iload_n 3, 1) := by decide +kernel
theorem d11_35 : decode c11 35 = .ok (.invokevirtual 106, 3) := by decide +kernel
theorem d11_38 : decode c11 38 = .ok (.iconst 1, 1) := by decide +kernel
theorem d11_39 : decode c11 39 = .ok (.ireturn, 1) := by decide +kernel
theorem d11_29 : decode c11 29 = .ok (.iconst 0, 1) := by decide +kernel
theorem d11_30 : decode c11 30 = .ok (.ireturn, 1) := by decide +kernel
theorem d11_18 : decode c11 18 = .ok (.iconst 0, 1) := by decide +kernel
theorem d11_19 : decode c11 19 = .ok (.ireturn, 1) := by decide +kernel
theorem d11_8 : decode c11 8 = .ok (.iconst 0, 1) := by decide +kernel
theorem d11_9 : decode c11 9 = .ok (.ireturn, 1) := by decide +kernel
abbrev c20 : ByteArray := prog_1_method_25_code
theorem d20_0 : decode c20 0 = .ok (.iload_n 1, 1) := by decide +kernel
theorem d20_1 : decode c20 1 = .ok (.ifCond .lt 12, 3) := by decide +kernel
theorem d20_4 : decode c20 4 = .ok (.iload_n 1, 1) := by decide +kernel
theorem d20_5 : decode c20 5 = .ok (.iconst 3, 1) := by decide +kernel
theorem d20_6 : decode c20 6 = .ok (.if_icmp .gt 7, 3) := by decide +kernel
theorem d20_13 : decode c20 13 = .ok (.iconst 0, 1) := by decide +kernel
theorem d20_9 : decode c20 9 = .ok (.iconst 1, 1) := by decide +kernel
theorem d20_10 : decode c20 10 = .ok (.goto 4, 3) := by decide +kernel
theorem d20_14 : decode c20 14 = .ok (.ireturn, 1) := by decide +kernel
abbrev c21 : ByteArray := prog_1_method_40_code
theorem d21_0 : decode c21 0 = .ok (.iconst 2, 1) := by decide +kernel
theorem d21_1 : decode c21 1 = .ok (.aload_n 0, 1) := by decide +kernel
theorem d21_2 : decode c21 2 = .ok (.getfield 75, 3) := by decide +kernel
theorem d21_5 : decode c21 5 = .ok (.imul, 1) := by decide +kernel
theorem d21_6 : decode c21 6 = .ok (.istore_n 3, 1) := by decide +kernel
theorem d21_7 : decode c21 7 = .ok (.iload_n 3, 1) := by decide +kernel
theorem d21_8 : decode c21 8 = .ok (.bipush 64, 2) := by decide +kernel
theorem d21_10 : decode c21 10 = .ok (.if_icmp .lt 5, 3) := by decide +kernel
theorem d21_15 : decode c21 15 = .ok (.lload_n 1, 1) := by decide +kernel
theorem d21_16 : decode c21 16 = .ok (.iload_n 3, 1) := by decide +kernel
theorem d21_17 : decode c21 17 = .ok (.lushr, 1) := by decide +kernel
theorem d21_18 : decode c21 18 = .ok (.lconst 0, 1) := by decide +kernel
theorem d21_19 : decode c21 19 = .ok (.lcmp, 1) := by decide +kernel
theorem d21_20 : decode c21 20 = .ok (.ifCond .ne 7, 3) := by decide +kernel
theorem d21_27 : decode c21 27 = .ok (.iconst 0, 1) := by decide +kernel
theorem d21_23 : decode c21 23 = .ok (.iconst 1, 1) := by decide +kernel
theorem d21_24 : decode c21 24 = .ok (.goto 4, 3) := by decide +kernel
theorem d21_28 : decode c21 28 = .ok (.ireturn, 1) := by decide +kernel
theorem d21_13 : decode c21 13 = .ok (.iconst 1, 1) := by decide +kernel
theorem d21_14 : decode c21 14 = .ok (.ireturn, 1) := by decide +kernel
abbrev c23 : ByteArray := prog_1_method_41_code
theorem d23_0 : decode c23 0 = .ok (.iconst 2, 1) := by decide +kernel
theorem d23_1 : decode c23 1 = .ok (.iload_n 3, 1) := by decide +kernel
theorem d23_2 : decode c23 2 = .ok (.imul, 1) := by decide +kernel
theorem d23_3 : decode c23 3 = .ok (.istore 4, 2) := by decide +kernel
theorem d23_5 : decode c23 5 = .ok (.iload 4, 2) := by decide +kernel
theorem d23_7 : decode c23 7 = .ok (.ifCond .lt 10, 3) := by decide +kernel
theorem d23_10 : decode c23 10 = .ok (.iload 4, 2) := by decide +kernel
theorem d23_12 : decode c23 12 = .ok (.bipush 62, 2) := by decide +kernel
theorem d23_14 : decode c23 14 = .ok (.if_icmp .le 5, 3) := by decide +kernel
theorem d23_19 : decode c23 19 = .ok (.lload_n 1, 1) := by decide +kernel
theorem d23_20 : decode c23 20 = .ok (.iload 4, 2) := by decide +kernel
theorem d23_22 : decode c23 22 = .ok (.lushr, 1) := by decide +kernel
theorem d23_23 : decode c23 23 = .ok (.ldc2_w 181, 3) := by decide +kernel
theorem d23_26 : decode c23 26 = .ok (.land, 1) := by decide +kernel
theorem d23_27 : decode c23 27 = .ok (.lstore 5, 2) := by decide +kernel
theorem d23_29 : decode c23 29 = .ok (.lload 5, 2) := by decide +kernel
theorem d23_31 : decode c23 31 = .ok (.l2i, 1) := by decide +kernel
theorem d23_32 : decode c23 32 = .ok (.ireturn, 1) := by decide +kernel
theorem d23_17 : decode c23 17 = .ok (.iconst 0, 1) := by decide +kernel
theorem d23_18 : decode c23 18 = .ok (.ireturn, 1) := by decide +kernel
abbrev c22 : ByteArray := prog_1_method_42_code
theorem d22_0 : decode c22 0 = .ok (.iconst 0, 1) := by decide +kernel
theorem d22_1 : decode c22 1 = .ok (.istore_n 3, 1) := by decide +kernel
theorem d22_2 : decode c22 2 = .ok (.iload_n 3, 1) := by decide +kernel
theorem d22_3 : decode c22 3 = .ok (.aload_n 0, 1) := by decide +kernel
theorem d22_4 : decode c22 4 = .ok (.getfield 75, 3) := by decide +kernel
theorem d22_7 : decode c22 7 = .ok (.if_icmp .ge 21, 3) := by decide +kernel
theorem d22_28 : decode c22 28 = .ok (.iconst 1, 1) := by decide +kernel
theorem d22_29 : decode c22 29 = .ok (.ireturn, 1) := by decide +kernel
theorem d22_10 : decode c22 10 = .ok (.aload_n 0, 1) := by decide +kernel
theorem d22_11 : decode c22 11 = .ok (.lload_n 1, 1) := by decide +kernel
theorem d22_12 : decode c22 12 = .ok (.iload_n 3, 1) := by decide +kernel
theorem d22_13 : decode c22 13 = .ok (.invokevirtual 183, 3) := by decide +kernel
theorem d22_16 : decode c22 16 = .ok (.iconst 3, 1) := by decide +kernel
theorem d22_17 : decode c22 17 = .ok (.if_icmp .ne 5, 3) := by decide +kernel
theorem d22_22 : decode c22 22 = .ok (.iinc 3 1, 3) := by decide +kernel
theorem d22_25 : decode c22 25 = .ok (.goto (-23), 3) := by decide +kernel
theorem d22_20 : decode c22 20 = .ok (.iconst 0, 1) := by decide +kernel
theorem d22_21 : decode c22 21 = .ok (.ireturn, 1) := by decide +kernel
abbrev c25 : ByteArray := prog_1_method_43_code
theorem d25_0 : decode c25 0 = .ok (.iload_n 1, 1) := by decide +kernel
theorem d25_1 : decode c25 1 = .ok (.iconst 1, 1) := by decide +kernel
theorem d25_2 : decode c25 2 = .ok (.if_icmp .ne 5, 3) := by decide +kernel
theorem d25_7 : decode c25 7 = .ok (.iload_n 1, 1) := by decide +kernel
theorem d25_8 : decode c25 8 = .ok (.iconst 2, 1) := by decide +kernel
theorem d25_9 : decode c25 9 = .ok (.if_icmp .ne 5, 3) := by decide +kernel
theorem d25_14 : decode c25 14 = .ok (.iconst 0, 1) := by decide +kernel
theorem d25_15 : decode c25 15 = .ok (.ireturn, 1) := by decide +kernel
theorem d25_12 : decode c25 12 = .ok (.iconst (-1), 1) := by decide +kernel
theorem d25_13 : decode c25 13 = .ok (.ireturn, 1) := by decide +kernel
theorem d25_5 : decode c25 5 = .ok (.iconst 1, 1) := by decide +kernel
theorem d25_6 : decode c25 6 = .ok (.ireturn, 1) := by decide +kernel
abbrev c24 : ByteArray := prog_1_method_44_code
theorem d24_0 : decode c24 0 = .ok (.iconst 0, 1) := by decide +kernel
theorem d24_1 : decode c24 1 = .ok (.istore 4, 2) := by decide +kernel
theorem d24_3 : decode c24 3 = .ok (.iload 4, 2) := by decide +kernel
theorem d24_5 : decode c24 5 = .ok (.aload_n 0, 1) := by decide +kernel
theorem d24_6 : decode c24 6 = .ok (.getfield 75, 3) := by decide +kernel
theorem d24_9 : decode c24 9 = .ok (.if_icmp .ge 35, 3) := by decide +kernel
theorem d24_44 : decode c24 44 = .ok (.return_, 1) := by decide +kernel
theorem d24_12 : decode c24 12 = .ok (.aload_n 0, 1) := by decide +kernel
theorem d24_13 : decode c24 13 = .ok (.lload_n 2, 1) := by decide +kernel
theorem d24_14 : decode c24 14 = .ok (.iload 4, 2) := by decide +kernel
theorem d24_16 : decode c24 16 = .ok (.invokevirtual 183, 3) := by decide +kernel
theorem d24_19 : decode c24 19 = .ok (.istore 5, 2) := by decide +kernel
theorem d24_21 : decode c24 21 = .ok (.aload_n 0, 1) := by decide +kernel
theorem d24_22 : decode c24 22 = .ok (.iload 5, 2) := by decide +kernel
theorem d24_24 : decode c24 24 = .ok (.invokevirtual 187, 3) := by decide +kernel
theorem d24_27 : decode c24 27 = .ok (.istore 6, 2) := by decide +kernel
theorem d24_29 : decode c24 29 = .ok (.aload_n 0, 1) := by decide +kernel
theorem d24_30 : decode c24 30 = .ok (.iload_n 1, 1) := by decide +kernel
theorem d24_31 : decode c24 31 = .ok (.iload 4, 2) := by decide +kernel
theorem d24_33 : decode c24 33 = .ok (.iload 6, 2) := by decide +kernel
theorem d24_35 : decode c24 35 = .ok (.invokevirtual 106, 3) := by decide +kernel
theorem d24_38 : decode c24 38 = .ok (.iinc 4 1, 3) := by decide +kernel
theorem d24_41 : decode c24 41 = .ok (.goto (-38), 3) := by decide +kernel
abbrev c19 : ByteArray := prog_1_method_6_code
theorem d19_0 : decode c19 0 = .ok (.aload_n 0, 1) := by decide +kernel
theorem d19_1 : decode c19 1 = .ok (.iload_n 1, 1) := by decide +kernel
theorem d19_2 : decode c19 2 = .ok (.invokevirtual 110, 3) := by decide +kernel
theorem d19_5 : decode c19 5 = .ok (.ifCond .ne 5, 3) := by decide +kernel
theorem d19_10 : decode c19 10 = .ok (.aload_n 0, 1) := by decide +kernel
theorem d19_11 : decode c19 11 = .ok (.lload_n 2, 1) := by decide +kernel
theorem d19_12 : decode c19 12 = .ok (.invokevirtual 113, 3) := by decide +kernel
theorem d19_15 : decode c19 15 = .ok (.ifCond .ne 5, 3) := by decide +kernel
theorem d19_20 : decode c19 20 = .ok (.aload_n 0, 1) := by decide +kernel
theorem d19_21 : decode c19 21 = .ok (.lload_n 2, 1) := by decide +kernel
theorem d19_22 : decode c19 22 = .ok (.invokevirtual 117, 3) := by decide +kernel
theorem d19_25 : decode c19 25 = .ok (.ifCond .ne 5, 3) := by decide +kernel
theorem d19_30 : decode c19 30 = .ok (.aload_n 0, 1) := by decide +kernel
theorem d19_31 : decode c19 31 = .ok (.iload_n 1, 1) := by decide +kernel
theorem d19_32 : decode c19 32 = .ok (.lload_n 2, 1) := by decide +kernel
theorem d19_33 : decode c19 33 = .ok (.invokevirtual 120, 3) := by decide +kernel
theorem d19_36 : decode c19 36 = .ok (.iconst 1, 1) := by decide +kernel
theorem d19_37 : decode c19 37 = .ok (.ireturn, 1) := by decide +kernel
theorem d19_28 : decode c19 28 = .ok (.iconst 0, 1) := by decide +kernel
theorem d19_29 : decode c19 29 = .ok (.ireturn, 1) := by decide +kernel
theorem d19_18 : decode c19 18 = .ok (.iconst 0, 1) := by decide +kernel
theorem d19_19 : decode c19 19 = .ok (.ireturn, 1) := by decide +kernel
theorem d19_8 : decode c19 8 = .ok (.iconst 0, 1) := by decide +kernel
theorem d19_9 : decode c19 9 = .ok (.ireturn, 1) := by decide +kernel
abbrev c27 : ByteArray := prog_1_method_36_code
theorem d27_0 : decode c27 0 = .ok (.iconst 0, 1) := by decide +kernel
theorem d27_1 : decode c27 1 = .ok (.istore_n 2, 1) := by decide +kernel
theorem d27_2 : decode c27 2 = .ok (.iload_n 2, 1) := by decide +kernel
theorem d27_3 : decode c27 3 = .ok (.aload_n 0, 1) := by decide +kernel
theorem d27_4 : decode c27 4 = .ok (.getfield 75, 3) := by decide +kernel
theorem d27_7 : decode c27 7 = .ok (.if_icmp .ge 16, 3) := by decide +kernel
theorem d27_23 : decode c27 23 = .ok (.return_, 1) := by decide +kernel
theorem d27_10 : decode c27 10 = .ok (.aload_n 0, 1) := by decide +kernel
theorem d27_11 : decode c27 11 = .ok (.iload_n 1, 1) := by decide +kernel
theorem d27_12 : decode c27 12 = .ok (.iload_n 2, 1) := by decide +kernel
theorem d27_13 : decode c27 13 = .ok (.iconst 0, 1) := by decide +kernel
theorem d27_14 : decode c27 14 = .ok (.invokevirtual 106, 3) := by decide +kernel
theorem d27_17 : decode c27 17 = .ok (.iinc 2 1, 3) := by decide +kernel
theorem d27_20 : decode c27 20 = .ok (.goto (-18), 3) := by decide +kernel
abbrev c26 : ByteArray := prog_1_method_7_code
theorem d26_0 : decode c26 0 = .ok (.aload_n 0, 1) := by decide +kernel
theorem d26_1 : decode c26 1 = .ok (.iload_n 1, 1) := by decide +kernel
theorem d26_2 : decode c26 2 = .ok (.invokevirtual 95, 3) := by decide +kernel
theorem d26_5 : decode c26 5 = .ok (.ifCond .ne 5, 3) := by decide +kernel
theorem d26_10 : decode c26 10 = .ok (.aload_n 0, 1) := by decide +kernel
theorem d26_11 : decode c26 11 = .ok (.iload_n 1, 1) := by decide +kernel
theorem d26_12 : decode c26 12 = .ok (.invokevirtual 124, 3) := by decide +kernel
theorem d26_15 : decode c26 15 = .ok (.iconst 1, 1) := by decide +kernel
theorem d26_16 : decode c26 16 = .ok (.ireturn, 1) := by decide +kernel
theorem d26_8 : decode c26 8 = .ok (.iconst 0, 1) := by decide +kernel
theorem d26_9 : decode c26 9 = .ok (.ireturn, 1) := by decide +kernel
abbrev c33 : ByteArray := prog_1_method_17_code
theorem d33_0 : decode c33 0 = .ok (.iload_n 2, 1) := by decide +kernel
theorem d33_1 : decode c33 1 = .ok (.ifCond .gt 5, 3) := by decide +kernel
theorem d33_6 : decode c33 6 = .ok (.iload_n 1, 1) := by decide +kernel
theorem d33_7 : decode c33 7 = .ok (.iload_n 2, 1) := by decide +kernel
theorem d33_8 : decode c33 8 = .ok (.irem, 1) := by decide +kernel
theorem d33_9 : decode c33 9 = .ok (.istore_n 3, 1) := by decide +kernel
theorem d33_10 : decode c33 10 = .ok (.iload_n 3, 1) := by decide +kernel
theorem d33_11 : decode c33 11 = .ok (.ifCond .ge 7, 3) := by decide +kernel
theorem d33_14 : decode c33 14 = .ok (.iload_n 3, 1) := by decide +kernel
theorem d33_15 : decode c33 15 = .ok (.iload_n 2, 1) := by decide +kernel
theorem d33_16 : decode c33 16 = .ok (.iadd, 1) := by decide +kernel
theorem d33_17 : decode c33 17 = .ok (.istore_n 3, 1) := by decide +kernel
theorem d33_18 : decode c33 18 = .ok (.iload_n 3, 1) := by decide +kernel
theorem d33_19 : decode c33 19 = .ok (.ireturn, 1) := by decide +kernel
theorem d33_4 : decode c33 4 = .ok (.iconst 0, 1) := by decide +kernel
theorem d33_5 : decode c33 5 = .ok (.ireturn, 1) := by decide +kernel
abbrev c32 : ByteArray := prog_1_method_20_code
theorem d32_0 : decode c32 0 = .ok (.aload_n 0, 1) := by decide +kernel
theorem d32_1 : decode c32 1 = .ok (.iload_n 1, 1) := by decide +kernel
theorem d32_2 : decode c32 2 = .ok (.aload_n 0, 1) := by decide +kernel
theorem d32_3 : decode c32 3 = .ok (.getfield 75, 3) := by decide +kernel
theorem d32_6 : decode c32 6 = .ok (.invokevirtual 157, 3) := by decide +kernel
theorem d32_9 : decode c32 9 = .ok (.ireturn, 1) := by decide +kernel
abbrev c34 : ByteArray := prog_1_method_46_code
theorem d34_0 : decode c34 0 = .ok (.iload_n 1, 1) := by decide +kernel
theorem d34_1 : decode c34 1 = .ok (.ifCond .lt 19, 3) := by decide +kernel
theorem d34_4 : decode c34 4 = .ok (.iload_n 1, 1) := by decide +kernel
theorem d34_5 : decode c34 5 = .ok (.bipush 17, 2) := by decide +kernel
theorem d34_7 : decode c34 7 = .ok (.if_icmp .ge 13, 3) := by decide +kernel
theorem d34_10 : decode c34 10 = .ok (.iload_n 2, 1) := by decide +kernel
theorem d34_11 : decode c34 11 = .ok (.ifCond .lt 9, 3) := by decide +kernel
theorem d34_14 : decode c34 14 = .ok (.iload_n 2, 1) := by decide +kernel
theorem d34_15 : decode c34 15 = .ok (.bipush 18, 2) := by decide +kernel
theorem d34_17 : decode c34 17 = .ok (.if_icmp .lt 4, 3) := by decide +kernel
theorem d34_21 : decode c34 21 = .ok (.aload_n 0, 1) := by decide +kernel
theorem d34_22 : decode c34 22 = .ok (.getfield 43, 3) := by decide +kernel
theorem d34_25 : decode c34 25 = .ok (.iload_n 1, 1) := by decide +kernel
theorem d34_26 : decode c34 26 = .ok (.bipush 18, 2) := by decide +kernel
theorem d34_28 : decode c34 28 = .ok (.imul, 1) := by decide +kernel
theorem d34_29 : decode c34 29 = .ok (.iload_n 2, 1) := by decide +kernel
theorem d34_30 : decode c34 30 = .ok (.iadd, 1) := by decide +kernel
theorem d34_31 : decode c34 31 = .ok (.iload_n 3, 1) := by decide +kernel
theorem d34_32 : decode c34 32 = .ok (.iastore, 1) := by decide +kernel
theorem d34_33 : decode c34 33 = .ok (.return_, 1) := by decide +kernel
theorem d34_20 : decode c34 20 = .ok (.return_, 1) := by decide +kernel
abbrev c35 : ByteArray := prog_1_method_19_code
theorem d35_0 : decode c35 0 = .ok (.iload_n 1, 1) := by decide +kernel
theorem d35_1 : decode c35 1 = .ok (.ifCond .ne 5, 3) := by decide +kernel
theorem d35_6 : decode c35 6 = .ok (.iconst 0, 1) := by decide +kernel
theorem d35_7 : decode c35 7 = .ok (.ireturn, 1) := by decide +kernel
theorem d35_4 : decode c35 4 = .ok (.iconst 1, 1) := by decide +kernel
theorem d35_5 : decode c35 5 = .ok (.ireturn, 1) := by decide +kernel
abbrev c36 : ByteArray := prog_1_method_47_code
theorem d36_0 : decode c36 0 = .ok (.iconst 0, 1) := by decide +kernel
theorem d36_1 : decode c36 1 = .ok (.istore_n 1, 1) := by decide +kernel
theorem d36_2 : decode c36 2 = .ok (.iload_n 1, 1) := by decide +kernel
theorem d36_3 : decode c36 3 = .ok (.sipush 306, 3) := by decide +kernel
theorem d36_6 : decode c36 6 = .ok (.if_icmp .ge 16, 3) := by decide +kernel
theorem d36_22 : decode c36 22 = .ok (.return_, 1) := by decide +kernel
theorem d36_9 : decode c36 9 = .ok (.aload_n 0, 1) := by decide +kernel
theorem d36_10 : decode c36 10 = .ok (.getfield 43, 3) := by decide +kernel
theorem d36_13 : decode c36 13 = .ok (.iload_n 1, 1) := by decide +kernel
theorem d36_14 : decode c36 14 = .ok (.iconst 0, 1) := by decide +kernel
theorem d36_15 : decode c36 15 = .ok (.iastore, 1) := by decide +kernel
theorem d36_16 : decode c36 16 = .ok (.iinc 1 1, 3) := by decide +kernel
theorem d36_19 : decode c36 19 = .ok (.goto (-17), 3) := by decide +kernel
abbrev c31 : ByteArray := prog_1_method_48_code
theorem d31_0 : decode c31 0 = .ok (.aload_n 0, 1) := by decide +kernel
theorem d31_1 : decode c31 1 = .ok (.invokevirtual 190, 3) := by decide +kernel
theorem d31_4 : decode c31 4 = .ok (.iconst 0, 1) := by decide +kernel
theorem d31_5 : decode c31 5 = .ok (.istore_n 2, 1) := by decide +kernel
theorem d31_6 : decode c31 6 = .ok (.iload_n 2, 1) := by decide +kernel
theorem d31_7 : decode c31 7 = .ok (.aload_n 0, 1) := by decide +kernel
theorem d31_8 : decode c31 8 = .ok (.getfield 75, 3) := by decide +kernel
theorem d31_11 : decode c31 11 = .ok (.if_icmp .ge 76, 3) := by decide +kernel
theorem d31_87 : decode c31 87 = .ok (.return_, 1) := by decide +kernel
theorem d31_14 : decode c31 14 = .ok (.iconst 0, 1) := by decide +kernel
theorem d31_15 : decode c31 15 = .ok (.istore_n 3, 1) := by decide +kernel
theorem d31_16 : decode c31 16 = .ok (.iload_n 3, 1) := by decide +kernel
theorem d31_17 : decode c31 17 = .ok (.aload_n 0, 1) := by decide +kernel
theorem d31_18 : decode c31 18 = .ok (.getfield 75, 3) := by decide +kernel
theorem d31_21 : decode c31 21 = .ok (.if_icmp .ge 44, 3) := by decide +kernel
theorem d31_65 : decode c31 65 = .ok (.aload_n 0, 1) := by decide +kernel
theorem d31_66 : decode c31 66 = .ok (.iload_n 2, 1) := by decide +kernel
theorem d31_67 : decode c31 67 = .ok (.invokevirtual 196, 3) := by decide +kernel
theorem d31_70 : decode c31 70 = .ok (.istore_n 3, 1) := by decide +kernel
theorem d31_71 : decode c31 71 = .ok (.aload_n 0, 1) := by decide +kernel
theorem d31_72 : decode c31 72 = .ok (.iload_n 2, 1) := by decide +kernel
theorem d31_73 : decode c31 73 = .ok (.aload_n 0, 1) := by decide +kernel
theorem d31_74 : decode c31 74 = .ok (.getfield 75, 3) := by decide +kernel
theorem d31_77 : decode c31 77 = .ok (.iload_n 3, 1) := by decide +kernel
theorem d31_78 : decode c31 78 = .ok (.invokevirtual 193, 3) := by decide +kernel
theorem d31_81 : decode c31 81 = .ok (.iinc 2 1, 3) := by decide +kernel
theorem d31_84 : decode c31 84 = .ok (.goto (-78), 3) := by decide +kernel
theorem d31_24 : decode c31 24 = .ok (.aload_n 0, 1) := by decide +kernel
theorem d31_25 : decode c31 25 = .ok (.iload_n 2, 1) := by decide +kernel
theorem d31_26 : decode c31 26 = .ok (.iload_n 3, 1) := by decide +kernel
theorem d31_27 : decode c31 27 = .ok (.isub, 1) := by decide +kernel
theorem d31_28 : decode c31 28 = .ok (.invokevirtual 178, 3) := by decide +kernel
theorem d31_31 : decode c31 31 = .ok (.istore 4, 2) := by decide +kernel
theorem d31_33 : decode c31 33 = .ok (.aload_n 0, 1) := by decide +kernel
theorem d31_34 : decode c31 34 = .ok (.iconst 0, 1) := by decide +kernel
theorem d31_35 : decode c31 35 = .ok (.iload 4, 2) := by decide +kernel
theorem d31_37 : decode c31 37 = .ok (.invokevirtual 153, 3) := by decide +kernel
theorem d31_40 : decode c31 40 = .ok (.istore 5, 2) := by decide +kernel
theorem d31_42 : decode c31 42 = .ok (.aload_n 0, 1) := by decide +kernel
theorem d31_43 : decode c31 43 = .ok (.iload 5, 2) := by decide +kernel
theorem d31_45 : decode c31 45 = .ok (.iload_n 1, 1) := by decide +kernel
theorem d31_46 : decode c31 46 = .ok (.invokevirtual 157, 3) := by decide +kernel
theorem d31_49 : decode c31 49 = .ok (.istore 6, 2) := by decide +kernel
theorem d31_51 : decode c31 51 = .ok (.aload_n 0, 1) := by decide +kernel
theorem d31_52 : decode c31 52 = .ok (.iload_n 2, 1) := by decide +kernel
theorem d31_53 : decode c31 53 = .ok (.iload_n 3, 1) := by decide +kernel
theorem d31_54 : decode c31 54 = .ok (.iload 6, 2) := by decide +kernel
theorem d31_56 : decode c31 56 = .ok (.invokevirtual 193, 3) := by decide +kernel
theorem d31_59 : decode c31 59 = .ok (.iinc 3 1, 3) := by decide +kernel
theorem d31_62 : decode c31 62 = .ok (.goto (-46), 3) := by decide +kernel
abbrev c39 : ByteArray := prog_1_method_45_code
theorem d39_0 : decode c39 0 = .ok (.iload_n 1, 1) := by decide +kernel
theorem d39_1 : decode c39 1 = .ok (.ifCond .lt 19, 3) := by decide +kernel
theorem d39_4 : decode c39 4 = .ok (.iload_n 1, 1) := by decide +kernel
theorem d39_5 : decode c39 5 = .ok (.bipush 17, 2) := by decide +kernel
theorem d39_7 : decode c39 7 = .ok (.if_icmp .ge 13, 3) := by decide +kernel
theorem d39_10 : decode c39 10 = .ok (.iload_n 2, 1) := by decide +kernel
theorem d39_11 : decode c39 11 = .ok (.ifCond .lt 9, 3) := by decide +kernel
theorem d39_14 : decode c39 14 = .ok (.iload_n 2, 1) := by decide +kernel
theorem d39_15 : decode c39 15 = .ok (.bipush 18, 2) := by decide +kernel
theorem d39_17 : decode c39 17 = .ok (.if_icmp .lt 5, 3) := by decide +kernel
theorem d39_22 : decode c39 22 = .ok (.aload_n 0, 1) := by decide +kernel
theorem d39_23 : decode c39 23 = .ok (.getfield 43, 3) := by decide +kernel
theorem d39_26 : decode c39 26 = .ok (.iload_n 1, 1) := by decide +kernel
theorem d39_27 : decode c39 27 = .ok (.bipush 18, 2) := by decide +kernel
theorem d39_29 : decode c39 29 = .ok (.imul, 1) := by decide +kernel
theorem d39_30 : decode c39 30 = .ok (.iload_n 2, 1) := by decide +kernel
theorem d39_31 : decode c39 31 = .ok (.iadd, 1) := by decide +kernel
theorem d39_32 : decode c39 32 = .ok (.iaload, 1) := by decide +kernel
theorem d39_33 : decode c39 33 = .ok (.ireturn, 1) := by decide +kernel
theorem d39_20 : decode c39 20 = .ok (.iconst 0, 1) := by decide +kernel
theorem d39_21 : decode c39 21 = .ok (.ireturn, 1) := by decide +kernel
abbrev c40 : ByteArray := prog_1_method_18_code
theorem d40_0 : decode c40 0 = .ok (.iload_n 2, 1) := by decide +kernel
theorem d40_1 : decode c40 1 = .ok (.iconst 1, 1) := by decide +kernel
theorem d40_2 : decode c40 2 = .ok (.if_icmp .gt 5, 3) := by decide +kernel
theorem d40_7 : decode c40 7 = .ok (.aload_n 0, 1) := by decide +kernel
theorem d40_8 : decode c40 8 = .ok (.iload_n 1, 1) := by decide +kernel
theorem d40_9 : decode c40 9 = .ok (.iload_n 2, 1) := by decide +kernel
theorem d40_10 : decode c40 10 = .ok (.invokevirtual 157, 3) := by decide +kernel
theorem d40_13 : decode c40 13 = .ok (.istore_n 3, 1) := by decide +kernel
theorem d40_14 : decode c40 14 = .ok (.iconst 1, 1) := by decide +kernel
theorem d40_15 : decode c40 15 = .ok (.istore 4, 2) := by decide +kernel
theorem d40_17 : decode c40 17 = .ok (.iload 4, 2) := by decide +kernel
theorem d40_19 : decode c40 19 = .ok (.iload_n 2, 1) := by decide +kernel
theorem d40_20 : decode c40 20 = .ok (.if_icmp .ge 37, 3) := by decide +kernel
theorem d40_23 : decode c40 23 = .ok (.iload 4, 2) := by decide +kernel
theorem d40_25 : decode c40 25 = .ok (.sipush 1024, 3) := by decide +kernel
theorem d40_28 : decode c40 28 = .ok (.if_icmp .ge 29, 3) := by decide +kernel
theorem d40_57 : decode c40 57 = .ok (.iconst 0, 1) := by decide +kernel
theorem d40_58 : decode c40 58 = .ok (.ireturn, 1) := by decide +kernel
theorem d40_31 : decode c40 31 = .ok (.aload_n 0, 1) := by decide +kernel
theorem d40_32 : decode c40 32 = .ok (.iload_n 3, 1) := by decide +kernel
theorem d40_33 : decode c40 33 = .ok (.iload 4, 2) := by decide +kernel
theorem d40_35 : decode c40 35 = .ok (.imul, 1) := by decide +kernel
theorem d40_36 : decode c40 36 = .ok (.iload_n 2, 1) := by decide +kernel
theorem d40_37 : decode c40 37 = .ok (.invokevirtual 157, 3) := by decide +kernel
theorem d40_40 : decode c40 40 = .ok (.istore 5, 2) := by decide +kernel
theorem d40_42 : decode c40 42 = .ok (.iload 5, 2) := by decide +kernel
theorem d40_44 : decode c40 44 = .ok (.iconst 1, 1) := by decide +kernel
theorem d40_45 : decode c40 45 = .ok (.if_icmp .ne 6, 3) := by decide +kernel
theorem d40_51 : decode c40 51 = .ok (.iinc 4 1, 3) := by decide +kernel
theorem d40_54 : decode c40 54 = .ok (.goto (-37), 3) := by decide +kernel
theorem d40_48 : decode c40 48 = .ok (.iload 4, 2) := by decide +kernel
theorem d40_50 : decode c40 50 = .ok (.ireturn, 1) := by decide +kernel
theorem d40_5 : decode c40 5 = .ok (.iconst 0, 1) := by decide +kernel
theorem d40_6 : decode c40 6 = .ok (.ireturn, 1) := by decide +kernel
abbrev c38 : ByteArray := prog_1_method_50_code
theorem d38_0 : decode c38 0 = .ok (.iload_n 1, 1) := by decide +kernel
theorem d38_1 : decode c38 1 = .ok (.istore_n 3, 1) := by decide +kernel
theorem d38_2 : decode c38 2 = .ok (.iload_n 3, 1) := by decide +kernel
theorem d38_3 : decode c38 3 = .ok (.aload_n 0, 1) := by decide +kernel
theorem d38_4 : decode c38 4 = .ok (.getfield 75, 3) := by decide +kernel
theorem d38_7 : decode c38 7 = .ok (.if_icmp .ge 29, 3) := by decide +kernel
theorem d38_36 : decode c38 36 = .ok (.iconst (-1), 1) := by decide +kernel
theorem d38_37 : decode c38 37 = .ok (.ireturn, 1) := by decide +kernel
theorem d38_10 : decode c38 10 = .ok (.aload_n 0, 1) := by decide +kernel
theorem d38_11 : decode c38 11 = .ok (.iload_n 3, 1) := by decide +kernel
theorem d38_12 : decode c38 12 = .ok (.iload_n 1, 1) := by decide +kernel
theorem d38_13 : decode c38 13 = .ok (.invokevirtual 206, 3) := by decide +kernel
theorem d38_16 : decode c38 16 = .ok (.istore 4, 2) := by decide +kernel
theorem d38_18 : decode c38 18 = .ok (.aload_n 0, 1) := by decide +kernel
theorem d38_19 : decode c38 19 = .ok (.iload 4, 2) := by decide +kernel
theorem d38_21 : decode c38 21 = .ok (.iload_n 2, 1) := by decide +kernel
theorem d38_22 : decode c38 22 = .ok (.invokevirtual 209, 3) := by decide +kernel
theorem d38_25 : decode c38 25 = .ok (.ifCond .eq 5, 3) := by decide +kernel
theorem d38_30 : decode c38 30 = .ok (.iinc 3 1, 3) := by decide +kernel
theorem d38_33 : decode c38 33 = .ok (.goto (-31), 3) := by decide +kernel
theorem d38_28 : decode c38 28 = .ok (.iload_n 3, 1) := by decide +kernel
theorem d38_29 : decode c38 29 = .ok (.ireturn, 1) := by decide +kernel
abbrev c41 : ByteArray := prog_1_method_51_code
theorem d41_0 : decode c41 0 = .ok (.iload_n 1, 1) := by decide +kernel
theorem d41_1 : decode c41 1 = .ok (.iload_n 2, 1) := by decide +kernel
theorem d41_2 : decode c41 2 = .ok (.if_icmp .ne 4, 3) := by decide +kernel
theorem d41_6 : decode c41 6 = .ok (.iconst 0, 1) := by decide +kernel
theorem d41_7 : decode c41 7 = .ok (.istore_n 3, 1) := by decide +kernel
theorem d41_8 : decode c41 8 = .ok (.iload_n 3, 1) := by decide +kernel
theorem d41_9 : decode c41 9 = .ok (.aload_n 0, 1) := by decide +kernel
theorem d41_10 : decode c41 10 = .ok (.getfield 75, 3) := by decide +kernel
theorem d41_13 : decode c41 13 = .ok (.if_icmp .gt 41, 3) := by decide +kernel
theorem d41_54 : decode c41 54 = .ok (.return_, 1) := by decide +kernel
theorem d41_16 : decode c41 16 = .ok (.aload_n 0, 1) := by decide +kernel
theorem d41_17 : decode c41 17 = .ok (.iload_n 1, 1) := by decide +kernel
theorem d41_18 : decode c41 18 = .ok (.iload_n 3, 1) := by decide +kernel
theorem d41_19 : decode c41 19 = .ok (.invokevirtual 206, 3) := by decide +kernel
theorem d41_22 : decode c41 22 = .ok (.istore 4, 2) := by decide +kernel
theorem d41_24 : decode c41 24 = .ok (.aload_n 0, 1) := by decide +kernel
theorem d41_25 : decode c41 25 = .ok (.iload_n 2, 1) := by decide +kernel
theorem d41_26 : decode c41 26 = .ok (.iload_n 3, 1) := by decide +kernel
theorem d41_27 : decode c41 27 = .ok (.invokevirtual 206, 3) := by decide +kernel
theorem d41_30 : decode c41 30 = .ok (.istore 5, 2) := by decide +kernel
theorem d41_32 : decode c41 32 = .ok (.aload_n 0, 1) := by decide +kernel
theorem d41_33 : decode c41 33 = .ok (.iload_n 1, 1) := by decide +kernel
theorem d41_34 : decode c41 34 = .ok (.iload_n 3, 1) := by decide +kernel
theorem d41_35 : decode c41 35 = .ok (.iload 5, 2) := by decide +kernel
theorem d41_37 : decode c41 37 = .ok (.invokevirtual 193, 3) := by decide +kernel
theorem d41_40 : decode c41 40 = .ok (.aload_n 0, 1) := by decide +kernel
theorem d41_41 : decode c41 41 = .ok (.iload_n 2, 1) := by decide +kernel
theorem d41_42 : decode c41 42 = .ok (.iload_n 3, 1) := by decide +kernel
theorem d41_43 : decode c41 43 = .ok (.iload 4, 2) := by decide +kernel
theorem d41_45 : decode c41 45 = .ok (.invokevirtual 193, 3) := by decide +kernel
theorem d41_48 : decode c41 48 = .ok (.iinc 3 1, 3) := by decide +kernel
theorem d41_51 : decode c41 51 = .ok (.goto (-43), 3) := by decide +kernel
theorem d41_5 : decode c41 5 = .ok (.return_, 1) := by decide +kernel
abbrev c42 : ByteArray := prog_1_method_52_code
theorem d42_0 : decode c42 0 = .ok (.iconst 0, 1) := by decide +kernel
theorem d42_1 : decode c42 1 = .ok (.istore 4, 2) := by decide +kernel
theorem d42_3 : decode c42 3 = .ok (.iload 4, 2) := by decide +kernel
theorem d42_5 : decode c42 5 = .ok (.aload_n 0, 1) := by decide +kernel
theorem d42_6 : decode c42 6 = .ok (.getfield 75, 3) := by decide +kernel
theorem d42_9 : decode c42 9 = .ok (.if_icmp .gt 38, 3) := by decide +kernel
theorem d42_47 : decode c42 47 = .ok (.return_, 1) := by decide +kernel
theorem d42_12 : decode c42 12 = .ok (.aload_n 0, 1) := by decide +kernel
theorem d42_13 : decode c42 13 = .ok (.iload_n 1, 1) := by decide +kernel
theorem d42_14 : decode c42 14 = .ok (.iload 4, 2) := by decide +kernel
theorem d42_16 : decode c42 16 = .ok (.invokevirtual 206, 3) := by decide +kernel
theorem d42_19 : decode c42 19 = .ok (.istore 5, 2) := by decide +kernel
theorem d42_21 : decode c42 21 = .ok (.aload_n 0, 1) := by decide +kernel
theorem d42_22 : decode c42 22 = .ok (.iload 5, 2) := by decide +kernel
theorem d42_24 : decode c42 24 = .ok (.iload_n 2, 1) := by decide +kernel
theorem d42_25 : decode c42 25 = .ok (.imul, 1) := by decide +kernel
theorem d42_26 : decode c42 26 = .ok (.iload_n 3, 1) := by decide +kernel
theorem d42_27 : decode c42 27 = .ok (.invokevirtual 157, 3) := by decide +kernel
theorem d42_30 : decode c42 30 = .ok (.istore 6, 2) := by decide +kernel
theorem d42_32 : decode c42 32 = .ok (.aload_n 0, 1) := by decide +kernel
theorem d42_33 : decode c42 33 = .ok (.iload_n 1, 1) := by decide +kernel
theorem d42_34 : decode c42 34 = .ok (.iload 4, 2) := by decide +kernel
theorem d42_36 : decode c42 36 = .ok (.iload 6, 2) := by decide +kernel
theorem d42_38 : decode c42 38 = .ok (.invokevirtual 193, 3) := by decide +kernel
theorem d42_41 : decode c42 41 = .ok (.iinc 4 1, 3) := by decide +kernel
theorem d42_44 : decode c42 44 = .ok (.goto (-41), 3) := by decide +kernel
abbrev c44 : ByteArray := prog_1_method_54_code
theorem d44_0 : decode c44 0 = .ok (.iconst 0, 1) := by decide +kernel
theorem d44_1 : decode c44 1 = .ok (.istore 5, 2) := by decide +kernel
theorem d44_3 : decode c44 3 = .ok (.iload 5, 2) := by decide +kernel
theorem d44_5 : decode c44 5 = .ok (.aload_n 0, 1) := by decide +kernel
theorem d44_6 : decode c44 6 = .ok (.getfield 75, 3) := by decide +kernel
theorem d44_9 : decode c44 9 = .ok (.if_icmp .gt 51, 3) := by decide +kernel
theorem d44_60 : decode c44 60 = .ok (.return_, 1) := by decide +kernel
theorem d44_12 : decode c44 12 = .ok (.aload_n 0, 1) := by decide +kernel
theorem d44_13 : decode c44 13 = .ok (.iload_n 2, 1) := by decide +kernel
theorem d44_14 : decode c44 14 = .ok (.iload 5, 2) := by decide +kernel
theorem d44_16 : decode c44 16 = .ok (.invokevirtual 206, 3) := by decide +kernel
theorem d44_19 : decode c44 19 = .ok (.istore 6, 2) := by decide +kernel
theorem d44_21 : decode c44 21 = .ok (.aload_n 0, 1) := by decide +kernel
theorem d44_22 : decode c44 22 = .ok (.iload_n 1, 1) := by decide +kernel
theorem d44_23 : decode c44 23 = .ok (.iload 5, 2) := by decide +kernel
theorem d44_25 : decode c44 25 = .ok (.invokevirtual 206, 3) := by decide +kernel
theorem d44_28 : decode c44 28 = .ok (.istore 7, 2) := by decide +kernel
theorem d44_30 : decode c44 30 = .ok (.aload_n 0, 1) := by decide +kernel
theorem d44_31 : decode c44 31 = .ok (.iload 7, 2) := by decide +kernel
theorem d44_33 : decode c44 33 = .ok (.iload_n 3, 1) := by decide +kernel
theorem d44_34 : decode c44 34 = .ok (.iload 6, 2) := by decide +kernel
theorem d44_36 : decode c44 36 = .ok (.imul, 1) := by decide +kernel
theorem d44_37 : decode c44 37 = .ok (.isub, 1) := by decide +kernel
theorem d44_38 : decode c44 38 = .ok (.iload 4, 2) := by decide +kernel
theorem d44_40 : decode c44 40 = .ok (.invokevirtual 157, 3) := by decide +kernel
theorem d44_43 : decode c44 43 = .ok (.istore 8, 2) := by decide +kernel
theorem d44_45 : decode c44 45 = .ok (.aload_n 0, 1) := by decide +kernel
theorem d44_46 : decode c44 46 = .ok (.iload_n 1, 1) := by decide +kernel
theorem d44_47 : decode c44 47 = .ok (.iload 5, 2) := by decide +kernel
theorem d44_49 : decode c44 49 = .ok (.iload 8, 2) := by decide +kernel
theorem d44_51 : decode c44 51 = .ok (.invokevirtual 193, 3) := by decide +kernel
theorem d44_54 : decode c44 54 = .ok (.iinc 5 1, 3) := by decide +kernel
theorem d44_57 : decode c44 57 = .ok (.goto (-54), 3) := by decide +kernel
abbrev c43 : ByteArray := prog_1_method_53_code
theorem d43_0 : decode c43 0 = .ok (.iconst 0, 1) := by decide +kernel
theorem d43_1 : decode c43 1 = .ok (.istore_n 3, 1) := by decide +kernel
theorem d43_2 : decode c43 2 = .ok (.iload_n 3, 1) := by decide +kernel
theorem d43_3 : decode c43 3 = .ok (.aload_n 0, 1) := by decide +kernel
theorem d43_4 : decode c43 4 = .ok (.getfield 75, 3) := by decide +kernel
theorem d43_7 : decode c43 7 = .ok (.if_icmp .ge 42, 3) := by decide +kernel
theorem d43_49 : decode c43 49 = .ok (.return_, 1) := by decide +kernel
theorem d43_10 : decode c43 10 = .ok (.iload_n 3, 1) := by decide +kernel
theorem d43_11 : decode c43 11 = .ok (.iload_n 1, 1) := by decide +kernel
theorem d43_12 : decode c43 12 = .ok (.if_icmp .ne 6, 3) := by decide +kernel
theorem d43_18 : decode c43 18 = .ok (.aload_n 0, 1) := by decide +kernel
theorem d43_19 : decode c43 19 = .ok (.iload_n 3, 1) := by decide +kernel
theorem d43_20 : decode c43 20 = .ok (.iload_n 1, 1) := by decide +kernel
theorem d43_21 : decode c43 21 = .ok (.invokevirtual 206, 3) := by decide +kernel
theorem d43_24 : decode c43 24 = .ok (.istore 4, 2) := by decide +kernel
theorem d43_26 : decode c43 26 = .ok (.iload 4, 2) := by decide +kernel
theorem d43_28 : decode c43 28 = .ok (.ifCond .ne 6, 3) := by decide +kernel
theorem d43_34 : decode c43 34 = .ok (.aload_n 0, 1) := by decide +kernel
theorem d43_35 : decode c43 35 = .ok (.iload_n 3, 1) := by decide +kernel
theorem d43_36 : decode c43 36 = .ok (.iload_n 1, 1) := by decide +kernel
theorem d43_37 : decode c43 37 = .ok (.iload 4, 2) := by decide +kernel
theorem d43_39 : decode c43 39 = .ok (.iload_n 2, 1) := by decide +kernel
theorem d43_40 : decode c43 40 = .ok (.invokevirtual 218, 3) := by decide +kernel
theorem d43_31 : decode c43 31 = .ok (.goto 12, 3) := by decide +kernel
theorem d43_15 : decode c43 15 = .ok (.goto 28, 3) := by decide +kernel
theorem d43_43 : decode c43 43 = .ok (.iinc 3 1, 3) := by decide +kernel
theorem d43_46 : decode c43 46 = .ok (.goto (-44), 3) := by decide +kernel
abbrev c37 : ByteArray := prog_1_method_49_code
theorem d37_0 : decode c37 0 = .ok (.iconst 0, 1) := by decide +kernel
theorem d37_1 : decode c37 1 = .ok (.istore_n 2, 1) := by decide +kernel
theorem d37_2 : decode c37 2 = .ok (.iload_n 2, 1) := by decide +kernel
theorem d37_3 : decode c37 3 = .ok (.aload_n 0, 1) := by decide +kernel
theorem d37_4 : decode c37 4 = .ok (.getfield 75, 3) := by decide +kernel
theorem d37_7 : decode c37 7 = .ok (.if_icmp .ge 59, 3) := by decide +kernel
theorem d37_66 : decode c37 66 = .ok (.iconst 1, 1) := by decide +kernel
theorem d37_67 : decode c37 67 = .ok (.ireturn, 1) := by decide +kernel
theorem d37_10 : decode c37 10 = .ok (.aload_n 0, 1) := by decide +kernel
theorem d37_11 : decode c37 11 = .ok (.iload_n 2, 1) := by decide +kernel
theorem d37_12 : decode c37 12 = .ok (.iload_n 1, 1) := by decide +kernel
theorem d37_13 : decode c37 13 = .ok (.invokevirtual 199, 3) := by decide +kernel
theorem d37_16 : decode c37 16 = .ok (.istore_n 3, 1) := by decide +kernel
theorem d37_17 : decode c37 17 = .ok (.iload_n 3, 1) := by decide +kernel
theorem d37_18 : decode c37 18 = .ok (.ifCond .ge 5, 3) := by decide +kernel
theorem d37_23 : decode c37 23 = .ok (.aload_n 0, 1) := by decide +kernel
theorem d37_24 : decode c37 24 = .ok (.iload_n 3, 1) := by decide +kernel
theorem d37_25 : decode c37 25 = .ok (.iload_n 2, 1) := by decide +kernel
theorem d37_26 : decode c37 26 = .ok (.invokevirtual 202, 3) := by decide +kernel
theorem d37_29 : decode c37 29 = .ok (.aload_n 0, 1) := by decide +kernel
theorem d37_30 : decode c37 30 = .ok (.iload_n 2, 1) := by decide +kernel
theorem d37_31 : decode c37 31 = .ok (.iload_n 2, 1) := by decide +kernel
theorem d37_32 : decode c37 32 = .ok (.invokevirtual 206, 3) := by decide +kernel
theorem d37_35 : decode c37 35 = .ok (.istore 4, 2) := by decide +kernel
theorem d37_37 : decode c37 37 = .ok (.aload_n 0, 1) := by decide +kernel
theorem d37_38 : decode c37 38 = .ok (.iload 4, 2) := by decide +kernel
theorem d37_40 : decode c37 40 = .ok (.iload_n 1, 1) := by decide +kernel
theorem d37_41 : decode c37 41 = .ok (.invokevirtual 209, 3) := by decide +kernel
theorem d37_44 : decode c37 44 = .ok (.istore 5, 2) := by decide +kernel
theorem d37_46 : decode c37 46 = .ok (.aload_n 0, 1) := by decide +kernel
theorem d37_47 : decode c37 47 = .ok (.iload_n 2, 1) := by decide +kernel
theorem d37_48 : decode c37 48 = .ok (.iload 5, 2) := by decide +kernel
theorem d37_50 : decode c37 50 = .ok (.iload_n 1, 1) := by decide +kernel
theorem d37_51 : decode c37 51 = .ok (.invokevirtual 212, 3) := by decide +kernel
theorem d37_54 : decode c37 54 = .ok (.aload_n 0, 1) := by decide +kernel
theorem d37_55 : decode c37 55 = .ok (.iload_n 2, 1) := by decide +kernel
theorem d37_56 : decode c37 56 = .ok (.iload_n 1, 1) := by decide +kernel
theorem d37_57 : decode c37 57 = .ok (.invokevirtual 215, 3) := by decide +kernel
theorem d37_60 : decode c37 60 = .ok (.iinc 2 1, 3) := by decide +kernel
theorem d37_63 : decode c37 63 = .ok (.goto (-61), 3) := by decide +kernel
theorem d37_21 : decode c37 21 = .ok (.iconst 0, 1) := by decide +kernel
theorem d37_22 : decode c37 22 = .ok (.ireturn, 1) := by decide +kernel
abbrev c45 : ByteArray := prog_1_method_55_code
theorem d45_0 : decode c45 0 = .ok (.iconst 0, 1) := by decide +kernel
theorem d45_1 : decode c45 1 = .ok (.istore_n 2, 1) := by decide +kernel
theorem d45_2 : decode c45 2 = .ok (.iload_n 2, 1) := by decide +kernel
theorem d45_3 : decode c45 3 = .ok (.aload_n 0, 1) := by decide +kernel
theorem d45_4 : decode c45 4 = .ok (.getfield 75, 3) := by decide +kernel
theorem d45_7 : decode c45 7 = .ok (.if_icmp .ge 26, 3) := by decide +kernel
theorem d45_33 : decode c45 33 = .ok (.return_, 1) := by decide +kernel
theorem d45_10 : decode c45 10 = .ok (.aload_n 0, 1) := by decide +kernel
theorem d45_11 : decode c45 11 = .ok (.iload_n 2, 1) := by decide +kernel
theorem d45_12 : decode c45 12 = .ok (.aload_n 0, 1) := by decide +kernel
theorem d45_13 : decode c45 13 = .ok (.getfield 75, 3) := by decide +kernel
theorem d45_16 : decode c45 16 = .ok (.invokevirtual 206, 3) := by decide +kernel
theorem d45_19 : decode c45 19 = .ok (.istore_n 3, 1) := by decide +kernel
theorem d45_20 : decode c45 20 = .ok (.aload_n 0, 1) := by decide +kernel
theorem d45_21 : decode c45 21 = .ok (.iload_n 1, 1) := by decide +kernel
theorem d45_22 : decode c45 22 = .ok (.iload_n 2, 1) := by decide +kernel
theorem d45_23 : decode c45 23 = .ok (.iload_n 3, 1) := by decide +kernel
theorem d45_24 : decode c45 24 = .ok (.invokevirtual 106, 3) := by decide +kernel
theorem d45_27 : decode c45 27 = .ok (.iinc 2 1, 3) := by decide +kernel
theorem d45_30 : decode c45 30 = .ok (.goto (-28), 3) := by decide +kernel
abbrev c47 : ByteArray := prog_1_method_39_code
theorem d47_0 : decode c47 0 = .ok (.iconst 0, 1) := by decide +kernel
theorem d47_1 : decode c47 1 = .ok (.istore 4, 2) := by decide +kernel
theorem d47_3 : decode c47 3 = .ok (.iconst 0, 1) := by decide +kernel
theorem d47_4 : decode c47 4 = .ok (.istore 5, 2) := by decide +kernel
theorem d47_6 : decode c47 6 = .ok (.iload 5, 2) := by decide +kernel
theorem d47_8 : decode c47 8 = .ok (.aload_n 0, 1) := by decide +kernel
theorem d47_9 : decode c47 9 = .ok (.getfield 75, 3) := by decide +kernel
theorem d47_12 : decode c47 12 = .ok (.if_icmp .ge 47, 3) := by decide +kernel
theorem d47_59 : decode c47 59 = .ok (.iload 4, 2) := by decide +kernel
theorem d47_61 : decode c47 61 = .ok (.ireturn, 1) := by decide +kernel
theorem d47_15 : decode c47 15 = .ok (.aload_n 0, 1) := by decide +kernel
theorem d47_16 : decode c47 16 = .ok (.iload_n 3, 1) := by decide +kernel
theorem d47_17 : decode c47 17 = .ok (.iload 5, 2) := by decide +kernel
theorem d47_19 : decode c47 19 = .ok (.isub, 1) := by decide +kernel
theorem d47_20 : decode c47 20 = .ok (.invokevirtual 178, 3) := by decide +kernel
theorem d47_23 : decode c47 23 = .ok (.istore 6, 2) := by decide +kernel
theorem d47_25 : decode c47 25 = .ok (.aload_n 0, 1) := by decide +kernel
theorem d47_26 : decode c47 26 = .ok (.iload_n 1, 1) := by decide +kernel
theorem d47_27 : decode c47 27 = .ok (.iload 5, 2) := by decide +kernel
theorem d47_29 : decode c47 29 = .ok (.invokevirtual 153, 3) := by decide +kernel
theorem d47_32 : decode c47 32 = .ok (.istore 7, 2) := by decide +kernel
theorem d47_34 : decode c47 34 = .ok (.aload_n 0, 1) := by decide +kernel
theorem d47_35 : decode c47 35 = .ok (.iload_n 2, 1) := by decide +kernel
theorem d47_36 : decode c47 36 = .ok (.iload 6, 2) := by decide +kernel
theorem d47_38 : decode c47 38 = .ok (.invokevirtual 153, 3) := by decide +kernel
theorem d47_41 : decode c47 41 = .ok (.istore 8, 2) := by decide +kernel
theorem d47_43 : decode c47 43 = .ok (.iload 4, 2) := by decide +kernel
theorem d47_45 : decode c47 45 = .ok (.iload 7, 2) := by decide +kernel
theorem d47_47 : decode c47 47 = .ok (.iload 8, 2) := by decide +kernel
theorem d47_49 : decode c47 49 = .ok (.imul, 1) := by decide +kernel
theorem d47_50 : decode c47 50 = .ok (.iadd, 1) := by decide +kernel
theorem d47_51 : decode c47 51 = .ok (.istore 4, 2) := by decide +kernel
theorem d47_53 : decode c47 53 = .ok (.iinc 5 1, 3) := by decide +kernel
theorem d47_56 : decode c47 56 = .ok (.goto (-50), 3) := by decide +kernel
abbrev c46 : ByteArray := prog_1_method_62_code
theorem d46_0 : decode c46 0 = .ok (.iconst 0, 1) := by decide +kernel
theorem d46_1 : decode c46 1 = .ok (.istore_n 3, 1) := by decide +kernel
theorem d46_2 : decode c46 2 = .ok (.iload_n 3, 1) := by decide +kernel
theorem d46_3 : decode c46 3 = .ok (.aload_n 0, 1) := by decide +kernel
theorem d46_4 : decode c46 4 = .ok (.getfield 75, 3) := by decide +kernel
theorem d46_7 : decode c46 7 = .ok (.if_icmp .ge 43, 3) := by decide +kernel
theorem d46_50 : decode c46 50 = .ok (.iconst 1, 1) := by decide +kernel
theorem d46_51 : decode c46 51 = .ok (.ireturn, 1) := by decide +kernel
theorem d46_10 : decode c46 10 = .ok (.aload_n 0, 1) := by decide +kernel
theorem d46_11 : decode c46 11 = .ok (.iconst 0, 1) := by decide +kernel
theorem d46_12 : decode c46 12 = .ok (.iload_n 1, 1) := by decide +kernel
theorem d46_13 : decode c46 13 = .ok (.iload_n 3, 1) := by decide +kernel
theorem d46_14 : decode c46 14 = .ok (.invokevirtual 249, 3) := by decide +kernel
theorem d46_17 : decode c46 17 = .ok (.istore 4, 2) := by decide +kernel
theorem d46_19 : decode c46 19 = .ok (.aload_n 0, 1) := by decide +kernel
theorem d46_20 : decode c46 20 = .ok (.iload 4, 2) := by decide +kernel
theorem d46_22 : decode c46 22 = .ok (.iload_n 2, 1) := by decide +kernel
theorem d46_23 : decode c46 23 = .ok (.invokevirtual 157, 3) := by decide +kernel
theorem d46_26 : decode c46 26 = .ok (.istore 5, 2) := by decide +kernel
theorem d46_28 : decode c46 28 = .ok (.aload_n 0, 1) := by decide +kernel
theorem d46_29 : decode c46 29 = .ok (.iload_n 3, 1) := by decide +kernel
theorem d46_30 : decode c46 30 = .ok (.invokevirtual 196, 3) := by decide +kernel
theorem d46_33 : decode c46 33 = .ok (.istore 6, 2) := by decide +kernel
theorem d46_35 : decode c46 35 = .ok (.iload 5, 2) := by decide +kernel
theorem d46_37 : decode c46 37 = .ok (.iload 6, 2) := by decide +kernel
theorem d46_39 : decode c46 39 = .ok (.if_icmp .eq 5, 3) := by decide +kernel
theorem d46_44 : decode c46 44 = .ok (.iinc 3 1, 3) := by decide +kernel
theorem d46_47 : decode c46 47 = .ok (.goto (-45), 3) := by decide +kernel
theorem d46_42 : decode c46 42 = .ok (.iconst 0, 1) := by decide +kernel
theorem d46_43 : decode c46 43 = .ok (.ireturn, 1) := by decide +kernel
abbrev c30 : ByteArray := prog_1_method_56_code
theorem d30_0 : decode c30 0 = .ok (.aload_n 0, 1) := by decide +kernel
theorem d30_1 : decode c30 1 = .ok (.iload_n 1, 1) := by decide +kernel
theorem d30_2 : decode c30 2 = .ok (.invokevirtual 222, 3) := by decide +kernel
theorem d30_5 : decode c30 5 = .ok (.aload_n 0, 1) := by decide +kernel
theorem d30_6 : decode c30 6 = .ok (.iload_n 1, 1) := by decide +kernel
theorem d30_7 : decode c30 7 = .ok (.invokevirtual 225, 3) := by decide +kernel
theorem d30_10 : decode c30 10 = .ok (.istore_n 3, 1) := by decide +kernel
theorem d30_11 : decode c30 11 = .ok (.iload_n 3, 1) := by decide +kernel
theorem d30_12 : decode c30 12 = .ok (.ifCond .ne 5, 3) := by decide +kernel
theorem d30_17 : decode c30 17 = .ok (.aload_n 0, 1) := by decide +kernel
theorem d30_18 : decode c30 18 = .ok (.iload_n 2, 1) := by decide +kernel
theorem d30_19 : decode c30 19 = .ok (.invokevirtual 228, 3) := by decide +kernel
theorem d30_22 : decode c30 22 = .ok (.aload_n 0, 1) := by decide +kernel
theorem d30_23 : decode c30 23 = .ok (.iload_n 2, 1) := by decide +kernel
theorem d30_24 : decode c30 24 = .ok (.iload_n 1, 1) := by decide +kernel
theorem d30_25 : decode c30 25 = .ok (.invokevirtual 231, 3) := by decide +kernel
theorem d30_28 : decode c30 28 = .ok (.ireturn, 1) := by decide +kernel
theorem d30_15 : decode c30 15 = .ok (.iconst 0, 1) := by decide +kernel
theorem d30_16 : decode c30 16 = .ok (.ireturn, 1) := by decide +kernel
abbrev c29 : ByteArray := prog_1_method_57_code
theorem d29_0 : decode c29 0 = .ok (.aload_n 0, 1) := by decide +kernel
theorem d29_1 : decode c29 1 = .ok (.iconst 3, 1) := by decide +kernel
theorem d29_2 : decode c29 2 = .ok (.aload_n 0, 1) := by decide +kernel
theorem d29_3 : decode c29 3 = .ok (.getfield 58, 3) := by decide +kernel
theorem d29_6 : decode c29 6 = .ok (.invokevirtual 234, 3) := by decide +kernel
theorem d29_9 : decode c29 9 = .ok (.ireturn, 1) := by decide +kernel
abbrev c50 : ByteArray := prog_1_method_60_code
theorem d50_0 : decode c50 0 = .ok (.iconst 0, 1) := by decide +kernel
theorem d50_1 : decode c50 1 = .ok (.istore_n 1, 1) := by decide +kernel
theorem d50_2 : decode c50 2 = .ok (.iload_n 1, 1) := by decide +kernel
theorem d50_3 : decode c50 3 = .ok (.aload_n 0, 1) := by decide +kernel
theorem d50_4 : decode c50 4 = .ok (.getfield 75, 3) := by decide +kernel
theorem d50_7 : decode c50 7 = .ok (.if_icmp .ge 52, 3) := by decide +kernel
theorem d50_59 : decode c50 59 = .ok (.return_, 1) := by decide +kernel
theorem d50_10 : decode c50 10 = .ok (.aload_n 0, 1) := by decide +kernel
theorem d50_11 : decode c50 11 = .ok (.iconst 0, 1) := by decide +kernel
theorem d50_12 : decode c50 12 = .ok (.aload_n 0, 1) := by decide +kernel
theorem d50_13 : decode c50 13 = .ok (.getfield 62, 3) := by decide +kernel
theorem d50_16 : decode c50 16 = .ok (.iload_n 1, 1) := by decide +kernel
theorem d50_17 : decode c50 17 = .ok (.invokevirtual 249, 3) := by decide +kernel
theorem d50_20 : decode c50 20 = .ok (.istore_n 2, 1) := by decide +kernel
theorem d50_21 : decode c50 21 = .ok (.iconst 2, 1) := by decide +kernel
theorem d50_22 : decode c50 22 = .ok (.aload_n 0, 1) := by decide +kernel
theorem d50_23 : decode c50 23 = .ok (.iload_n 1, 1) := by decide +kernel
theorem d50_24 : decode c50 24 = .ok (.invokevirtual 196, 3) := by decide +kernel
theorem d50_27 : decode c50 27 = .ok (.imul, 1) := by decide +kernel
theorem d50_28 : decode c50 28 = .ok (.istore_n 3, 1) := by decide +kernel
theorem d50_29 : decode c50 29 = .ok (.aload_n 0, 1) := by decide +kernel
theorem d50_30 : decode c50 30 = .ok (.iload_n 3, 1) := by decide +kernel
theorem d50_31 : decode c50 31 = .ok (.iload_n 2, 1) := by decide +kernel
theorem d50_32 : decode c50 32 = .ok (.isub, 1) := by decide +kernel
theorem d50_33 : decode c50 33 = .ok (.aload_n 0, 1) := by decide +kernel
theorem d50_34 : decode c50 34 = .ok (.getfield 82, 3) := by decide +kernel
theorem d50_37 : decode c50 37 = .ok (.invokevirtual 157, 3) := by decide +kernel
theorem d50_40 : decode c50 40 = .ok (.istore 4, 2) := by decide +kernel
theorem d50_42 : decode c50 42 = .ok (.aload_n 0, 1) := by decide +kernel
theorem d50_43 : decode c50 43 = .ok (.aload_n 0, 1) := by decide +kernel
theorem d50_44 : decode c50 44 = .ok (.getfield 65, 3) := by decide +kernel
theorem d50_47 : decode c50 47 = .ok (.iload_n 1, 1) := by decide +kernel
theorem d50_48 : decode c50 48 = .ok (.iload 4, 2) := by decide +kernel
theorem d50_50 : decode c50 50 = .ok (.invokevirtual 106, 3) := by decide +kernel
theorem d50_53 : decode c50 53 = .ok (.iinc 1 1, 3) := by decide +kernel
theorem d50_56 : decode c50 56 = .ok (.goto (-54), 3) := by decide +kernel
abbrev c51 : ByteArray := prog_1_method_61_code
theorem d51_0 : decode c51 0 = .ok (.iconst 0, 1) := by decide +kernel
theorem d51_1 : decode c51 1 = .ok (.istore_n 1, 1) := by decide +kernel
theorem d51_2 : decode c51 2 = .ok (.iload_n 1, 1) := by decide +kernel
theorem d51_3 : decode c51 3 = .ok (.aload_n 0, 1) := by decide +kernel
theorem d51_4 : decode c51 4 = .ok (.getfield 75, 3) := by decide +kernel
theorem d51_7 : decode c51 7 = .ok (.if_icmp .ge 43, 3) := by decide +kernel
theorem d51_50 : decode c51 50 = .ok (.return_, 1) := by decide +kernel
theorem d51_10 : decode c51 10 = .ok (.aload_n 0, 1) := by decide +kernel
theorem d51_11 : decode c51 11 = .ok (.aload_n 0, 1) := by decide +kernel
theorem d51_12 : decode c51 12 = .ok (.getfield 62, 3) := by decide +kernel
theorem d51_15 : decode c51 15 = .ok (.aload_n 0, 1) := by decide +kernel
theorem d51_16 : decode c51 16 = .ok (.getfield 65, 3) := by decide +kernel
theorem d51_19 : decode c51 19 = .ok (.iload_n 1, 1) := by decide +kernel
theorem d51_20 : decode c51 20 = .ok (.invokevirtual 249, 3) := by decide +kernel
theorem d51_23 : decode c51 23 = .ok (.istore_n 2, 1) := by decide +kernel
theorem d51_24 : decode c51 24 = .ok (.aload_n 0, 1) := by decide +kernel
theorem d51_25 : decode c51 25 = .ok (.iload_n 2, 1) := by decide +kernel
theorem d51_26 : decode c51 26 = .ok (.aload_n 0, 1) := by decide +kernel
theorem d51_27 : decode c51 27 = .ok (.getfield 82, 3) := by decide +kernel
theorem d51_30 : decode c51 30 = .ok (.invokevirtual 157, 3) := by decide +kernel
theorem d51_33 : decode c51 33 = .ok (.istore_n 3, 1) := by decide +kernel
theorem d51_34 : decode c51 34 = .ok (.aload_n 0, 1) := by decide +kernel
theorem d51_35 : decode c51 35 = .ok (.aload_n 0, 1) := by decide +kernel
theorem d51_36 : decode c51 36 = .ok (.getfield 68, 3) := by decide +kernel
theorem d51_39 : decode c51 39 = .ok (.iload_n 1, 1) := by decide +kernel
theorem d51_40 : decode c51 40 = .ok (.iload_n 3, 1) := by decide +kernel
theorem d51_41 : decode c51 41 = .ok (.invokevirtual 106, 3) := by decide +kernel
theorem d51_44 : decode c51 44 = .ok (.iinc 1 1, 3) := by decide +kernel
theorem d51_47 : decode c51 47 = .ok (.goto (-45), 3) := by decide +kernel
abbrev c52 : ByteArray := prog_1_method_37_code
theorem d52_0 : decode c52 0 = .ok (.iconst 0, 1) := by decide +kernel
theorem d52_1 : decode c52 1 = .ok (.istore_n 3, 1) := by decide +kernel
theorem d52_2 : decode c52 2 = .ok (.iload_n 3, 1) := by decide +kernel
theorem d52_3 : decode c52 3 = .ok (.aload_n 0, 1) := by decide +kernel
theorem d52_4 : decode c52 4 = .ok (.getfield 75, 3) := by decide +kernel
theorem d52_7 : decode c52 7 = .ok (.if_icmp .ge 25, 3) := by decide +kernel
theorem d52_32 : decode c52 32 = .ok (.return_, 1) := by decide +kernel
theorem d52_10 : decode c52 10 = .ok (.aload_n 0, 1) := by decide +kernel
theorem d52_11 : decode c52 11 = .ok (.iload_n 1, 1) := by decide +kernel
theorem d52_12 : decode c52 12 = .ok (.iload_n 3, 1) := by decide +kernel
theorem d52_13 : decode c52 13 = .ok (.invokevirtual 153, 3) := by decide +kernel
theorem d52_16 : decode c52 16 = .ok (.istore 4, 2) := by decide +kernel
theorem d52_18 : decode c52 18 = .ok (.aload_n 0, 1) := by decide +kernel
theorem d52_19 : decode c52 19 = .ok (.iload_n 2, 1) := by decide +kernel
theorem d52_20 : decode c52 20 = .ok (.iload_n 3, 1) := by decide +kernel
theorem d52_21 : decode c52 21 = .ok (.iload 4, 2) := by decide +kernel
theorem d52_23 : decode c52 23 = .ok (.invokevirtual 106, 3) := by decide +kernel
theorem d52_26 : decode c52 26 = .ok (.iinc 3 1, 3) := by decide +kernel
theorem d52_29 : decode c52 29 = .ok (.goto (-27), 3) := by decide +kernel
abbrev c49 : ByteArray := prog_1_method_59_code
theorem d49_0 : decode c49 0 = .ok (.aload_n 0, 1) := by decide +kernel
theorem d49_1 : decode c49 1 = .ok (.invokevirtual 240, 3) := by decide +kernel
theorem d49_4 : decode c49 4 = .ok (.aload_n 0, 1) := by decide +kernel
theorem d49_5 : decode c49 5 = .ok (.invokevirtual 243, 3) := by decide +kernel
theorem d49_8 : decode c49 8 = .ok (.aload_n 0, 1) := by decide +kernel
theorem d49_9 : decode c49 9 = .ok (.aload_n 0, 1) := by decide +kernel
theorem d49_10 : decode c49 10 = .ok (.getfield 68, 3) := by decide +kernel
theorem d49_13 : decode c49 13 = .ok (.aload_n 0, 1) := by decide +kernel
theorem d49_14 : decode c49 14 = .ok (.getfield 62, 3) := by decide +kernel
theorem d49_17 : decode c49 17 = .ok (.invokevirtual 246, 3) := by decide +kernel
theorem d49_20 : decode c49 20 = .ok (.return_, 1) := by decide +kernel
abbrev c48 : ByteArray := prog_1_method_58_code
theorem d48_0 : decode c48 0 = .ok (.aload_n 0, 1) := by decide +kernel
theorem d48_1 : decode c48 1 = .ok (.iconst 2, 1) := by decide +kernel
theorem d48_2 : decode c48 2 = .ok (.aload_n 0, 1) := by decide +kernel
theorem d48_3 : decode c48 3 = .ok (.getfield 62, 3) := by decide +kernel
theorem d48_6 : decode c48 6 = .ok (.invokevirtual 234, 3) := by decide +kernel
theorem d48_9 : decode c48 9 = .ok (.istore_n 1, 1) := by decide +kernel
theorem d48_10 : decode c48 10 = .ok (.iload_n 1, 1) := by decide +kernel
theorem d48_11 : decode c48 11 = .ok (.ifCond .ne 5, 3) := by decide +kernel
theorem d48_16 : decode c48 16 = .ok (.iconst 0, 1) := by decide +kernel
theorem d48_17 : decode c48 17 = .ok (.istore_n 2, 1) := by decide +kernel
theorem d48_18 : decode c48 18 = .ok (.iload_n 2, 1) := by decide +kernel
theorem d48_19 : decode c48 19 = .ok (.iconst 3, 1) := by decide +kernel
theorem d48_20 : decode c48 20 = .ok (.if_icmp .ge 13, 3) := by decide +kernel
theorem d48_33 : decode c48 33 = .ok (.aload_n 0, 1) := by decide +kernel
theorem d48_34 : decode c48 34 = .ok (.aload_n 0, 1) := by decide +kernel
theorem d48_35 : decode c48 35 = .ok (.getfield 62, 3) := by decide +kernel
theorem d48_38 : decode c48 38 = .ok (.aload_n 0, 1) := by decide +kernel
theorem d48_39 : decode c48 39 = .ok (.getfield 82, 3) := by decide +kernel
theorem d48_42 : decode c48 42 = .ok (.invokevirtual 231, 3) := by decide +kernel
theorem d48_45 : decode c48 45 = .ok (.ireturn, 1) := by decide +kernel
theorem d48_23 : decode c48 23 = .ok (.aload_n 0, 1) := by decide +kernel
theorem d48_24 : decode c48 24 = .ok (.invokevirtual 237, 3) := by decide +kernel
theorem d48_27 : decode c48 27 = .ok (.iinc 2 1, 3) := by decide +kernel
theorem d48_30 : decode c48 30 = .ok (.goto (-12), 3) := by decide +kernel
theorem d48_14 : decode c48 14 = .ok (.iconst 0, 1) := by decide +kernel
theorem d48_15 : decode c48 15 = .ok (.ireturn, 1) := by decide +kernel
abbrev c54 : ByteArray := prog_1_method_64_code
theorem d54_0 : decode c54 0 = .ok (.iconst 0, 1) := by decide +kernel
theorem d54_1 : decode c54 1 = .ok (.istore_n 1, 1) := by decide +kernel
theorem d54_2 : decode c54 2 = .ok (.iload_n 1, 1) := by decide +kernel
theorem d54_3 : decode c54 3 = .ok (.aload_n 0, 1) := by decide +kernel
theorem d54_4 : decode c54 4 = .ok (.getfield 75, 3) := by decide +kernel
theorem d54_7 : decode c54 7 = .ok (.if_icmp .ge 36, 3) := by decide +kernel
theorem d54_43 : decode c54 43 = .ok (.return_, 1) := by decide +kernel
theorem d54_10 : decode c54 10 = .ok (.aload_n 0, 1) := by decide +kernel
theorem d54_11 : decode c54 11 = .ok (.bipush 7, 2) := by decide +kernel
theorem d54_13 : decode c54 13 = .ok (.iconst 1, 1) := by decide +kernel
theorem d54_14 : decode c54 14 = .ok (.iload_n 1, 1) := by decide +kernel
theorem d54_15 : decode c54 15 = .ok (.invokevirtual 249, 3) := by decide +kernel
theorem d54_18 : decode c54 18 = .ok (.istore_n 2, 1) := by decide +kernel
theorem d54_19 : decode c54 19 = .ok (.aload_n 0, 1) := by decide +kernel
theorem d54_20 : decode c54 20 = .ok (.iload_n 2, 1) := by decide +kernel
theorem d54_21 : decode c54 21 = .ok (.aload_n 0, 1) := by decide +kernel
theorem d54_22 : decode c54 22 = .ok (.getfield 82, 3) := by decide +kernel
theorem d54_25 : decode c54 25 = .ok (.invokevirtual 157, 3) := by decide +kernel
theorem d54_28 : decode c54 28 = .ok (.istore_n 3, 1) := by decide +kernel
theorem d54_29 : decode c54 29 = .ok (.aload_n 0, 1) := by decide +kernel
theorem d54_30 : decode c54 30 = .ok (.bipush 8, 2) := by decide +kernel
theorem d54_32 : decode c54 32 = .ok (.iload_n 1, 1) := by decide +kernel
theorem d54_33 : decode c54 33 = .ok (.iload_n 3, 1) := by decide +kernel
theorem d54_34 : decode c54 34 = .ok (.invokevirtual 106, 3) := by decide +kernel
theorem d54_37 : decode c54 37 = .ok (.iinc 1 1, 3) := by decide +kernel
theorem d54_40 : decode c54 40 = .ok (.goto (-38), 3) := by decide +kernel
abbrev c53 : ByteArray := prog_1_method_63_code
theorem d53_0 : decode c53 0 = .ok (.aload_n 0, 1) := by decide +kernel
theorem d53_1 : decode c53 1 = .ok (.iconst 0, 1) := by decide +kernel
theorem d53_2 : decode c53 2 = .ok (.iconst 5, 1) := by decide +kernel
theorem d53_3 : decode c53 3 = .ok (.invokevirtual 246, 3) := by decide +kernel
theorem d53_6 : decode c53 6 = .ok (.aload_n 0, 1) := by decide +kernel
theorem d53_7 : decode c53 7 = .ok (.aload_n 0, 1) := by decide +kernel
theorem d53_8 : decode c53 8 = .ok (.getfield 58, 3) := by decide +kernel
theorem d53_11 : decode c53 11 = .ok (.bipush 6, 2) := by decide +kernel
theorem d53_13 : decode c53 13 = .ok (.invokevirtual 246, 3) := by decide +kernel
theorem d53_16 : decode c53 16 = .ok (.aload_n 0, 1) := by decide +kernel
theorem d53_17 : decode c53 17 = .ok (.aload_n 0, 1) := by decide +kernel
theorem d53_18 : decode c53 18 = .ok (.getfield 62, 3) := by decide +kernel
theorem d53_21 : decode c53 21 = .ok (.bipush 7, 2) := by decide +kernel
theorem d53_23 : decode c53 23 = .ok (.invokevirtual 246, 3) := by decide +kernel
theorem d53_26 : decode c53 26 = .ok (.aload_n 0, 1) := by decide +kernel
theorem d53_27 : decode c53 27 = .ok (.invokevirtual 252, 3) := by decide +kernel
theorem d53_30 : decode c53 30 = .ok (.aload_n 0, 1) := by decide +kernel
theorem d53_31 : decode c53 31 = .ok (.iconst 1, 1) := by decide +kernel
theorem d53_32 : decode c53 32 = .ok (.putfield 88, 3) := by decide +kernel
theorem d53_35 : decode c53 35 = .ok (.aload_n 0, 1) := by decide +kernel
theorem d53_36 : decode c53 36 = .ok (.aload_n 0, 1) := by decide +kernel
theorem d53_37 : decode c53 37 = .ok (.getfield 92, 3) := by decide +kernel
theorem d53_40 : decode c53 40 = .ok (.iconst 1, 1) := by decide +kernel
theorem d53_41 : decode c53 41 = .ok (.iadd, 1) := by decide +kernel
theorem d53_42 : decode c53 42 = .ok (.putfield 92, 3) := by decide +kernel
theorem d53_45 : decode c53 45 = .ok (.return_, 1) := by decide +kernel
abbrev c28 : ByteArray := prog_1_method_8_code
theorem d28_0 : decode c28 0 = .ok (.aload_n 0, 1) := by decide +kernel
theorem d28_1 : decode c28 1 = .ok (.invokevirtual 128, 3) := by decide +kernel
theorem d28_4 : decode c28 4 = .ok (.istore_n 1, 1) := by decide +kernel
theorem d28_5 : decode c28 5 = .ok (.iload_n 1, 1) := by decide +kernel
theorem d28_6 : decode c28 6 = .ok (.ifCond .ne 5, 3) := by decide +kernel
theorem d28_11 : decode c28 11 = .ok (.aload_n 0, 1) := by decide +kernel
theorem d28_12 : decode c28 12 = .ok (.invokevirtual 132, 3) := by decide +kernel
theorem d28_15 : decode c28 15 = .ok (.istore_n 2, 1) := by decide +kernel
theorem d28_16 : decode c28 16 = .ok (.iload_n 2, 1) := by decide +kernel
theorem d28_17 : decode c28 17 = .ok (.ifCond .ne 5, 3) := by decide +kernel
theorem d28_22 : decode c28 22 = .ok (.aload_n 0, 1) := by decide +kernel
theorem d28_23 : decode c28 23 = .ok (.invokevirtual 135, 3) := by decide +kernel
theorem d28_26 : decode c28 26 = .ok (.iconst 0, 1) := by decide +kernel
theorem d28_27 : decode c28 27 = .ok (.ireturn, 1) := by decide +kernel
theorem d28_20 : decode c28 20 = .ok (.iconst 2, 1) := by decide +kernel
theorem d28_21 : decode c28 21 = .ok (.ireturn, 1) := by decide +kernel
theorem d28_9 : decode c28 9 = .ok (.iconst 1, 1) := by decide +kernel
theorem d28_10 : decode c28 10 = .ok (.ireturn, 1) := by decide +kernel
abbrev c56 : ByteArray := prog_1_method_38_code
theorem d56_0 : decode c56 0 = .ok (.iconst 0, 1) := by decide +kernel
theorem d56_1 : decode c56 1 = .ok (.istore_n 2, 1) := by decide +kernel
theorem d56_2 : decode c56 2 = .ok (.iconst 0, 1) := by decide +kernel
theorem d56_3 : decode c56 3 = .ok (.istore_n 3, 1) := by decide +kernel
theorem d56_4 : decode c56 4 = .ok (.iload_n 3, 1) := by decide +kernel
theorem d56_5 : decode c56 5 = .ok (.aload_n 0, 1) := by decide +kernel
theorem d56_6 : decode c56 6 = .ok (.getfield 75, 3) := by decide +kernel
theorem d56_9 : decode c56 9 = .ok (.if_icmp .ge 21, 3) := by decide +kernel
theorem d56_30 : decode c56 30 = .ok (.iload_n 2, 1) := by decide +kernel
theorem d56_31 : decode c56 31 = .ok (.ireturn, 1) := by decide +kernel
theorem d56_12 : decode c56 12 = .ok (.aload_n 0, 1) := by decide +kernel
theorem d56_13 : decode c56 13 = .ok (.iload_n 1, 1) := by decide +kernel
theorem d56_14 : decode c56 14 = .ok (.iload_n 3, 1) := by decide +kernel
theorem d56_15 : decode c56 15 = .ok (.invokevirtual 153, 3) := by decide +kernel
theorem d56_18 : decode c56 18 = .ok (.ifCond .eq 6, 3) := by decide +kernel
theorem d56_21 : decode c56 21 = .ok (.iinc 2 1, 3) := by decide +kernel
theorem d56_24 : decode c56 24 = .ok (.iinc 3 1, 3) := by decide +kernel
theorem d56_27 : decode c56 27 = .ok (.goto (-23), 3) := by decide +kernel
abbrev c58 : ByteArray := prog_1_method_66_code
theorem d58_0 : decode c58 0 = .ok (.aload_n 0, 1) := by decide +kernel
theorem d58_1 : decode c58 1 = .ok (.iconst 3, 1) := by decide +kernel
theorem d58_2 : decode c58 2 = .ok (.bipush 8, 2) := by decide +kernel
theorem d58_4 : decode c58 4 = .ok (.iload_n 1, 1) := by decide +kernel
theorem d58_5 : decode c58 5 = .ok (.invokevirtual 249, 3) := by decide +kernel
theorem d58_8 : decode c58 8 = .ok (.istore_n 2, 1) := by decide +kernel
theorem d58_9 : decode c58 9 = .ok (.aload_n 0, 1) := by decide +kernel
theorem d58_10 : decode c58 10 = .ok (.iconst 2, 1) := by decide +kernel
theorem d58_11 : decode c58 11 = .ok (.iload_n 1, 1) := by decide +kernel
theorem d58_12 : decode c58 12 = .ok (.invokevirtual 153, 3) := by decide +kernel
theorem d58_15 : decode c58 15 = .ok (.istore_n 3, 1) := by decide +kernel
theorem d58_16 : decode c58 16 = .ok (.iconst 3, 1) := by decide +kernel
theorem d58_17 : decode c58 17 = .ok (.iload_n 2, 1) := by decide +kernel
theorem d58_18 : decode c58 18 = .ok (.imul, 1) := by decide +kernel
theorem d58_19 : decode c58 19 = .ok (.iload_n 3, 1) := by decide +kernel
theorem d58_20 : decode c58 20 = .ok (.iadd, 1) := by decide +kernel
theorem d58_21 : decode c58 21 = .ok (.istore 4, 2) := by decide +kernel
theorem d58_23 : decode c58 23 = .ok (.aload_n 0, 1) := by decide +kernel
theorem d58_24 : decode c58 24 = .ok (.iload 4, 2) := by decide +kernel
theorem d58_26 : decode c58 26 = .ok (.aload_n 0, 1) := by decide +kernel
theorem d58_27 : decode c58 27 = .ok (.getfield 82, 3) := by decide +kernel
theorem d58_30 : decode c58 30 = .ok (.invokevirtual 157, 3) := by decide +kernel
theorem d58_33 : decode c58 33 = .ok (.ireturn, 1) := by decide +kernel
abbrev c57 : ByteArray := prog_1_method_65_code
theorem d57_0 : decode c57 0 = .ok (.iconst 0, 1) := by decide +kernel
theorem d57_1 : decode c57 1 = .ok (.istore_n 1, 1) := by decide +kernel
theorem d57_2 : decode c57 2 = .ok (.iload_n 1, 1) := by decide +kernel
theorem d57_3 : decode c57 3 = .ok (.aload_n 0, 1) := by decide +kernel
theorem d57_4 : decode c57 4 = .ok (.getfield 75, 3) := by decide +kernel
theorem d57_7 : decode c57 7 = .ok (.if_icmp .ge 22, 3) := by decide +kernel
theorem d57_29 : decode c57 29 = .ok (.return_, 1) := by decide +kernel
theorem d57_10 : decode c57 10 = .ok (.aload_n 0, 1) := by decide +kernel
theorem d57_11 : decode c57 11 = .ok (.iload_n 1, 1) := by decide +kernel
theorem d57_12 : decode c57 12 = .ok (.invokevirtual 255, 3) := by decide +kernel
theorem d57_15 : decode c57 15 = .ok (.istore_n 2, 1) := by decide +kernel
theorem d57_16 : decode c57 16 = .ok (.aload_n 0, 1) := by decide +kernel
theorem d57_17 : decode c57 17 = .ok (.iconst 4, 1) := by decide +kernel
theorem d57_18 : decode c57 18 = .ok (.iload_n 1, 1) := by decide +kernel
theorem d57_19 : decode c57 19 = .ok (.iload_n 2, 1) := by decide +kernel
theorem d57_20 : decode c57 20 = .ok (.invokevirtual 106, 3) := by decide +kernel
theorem d57_23 : decode c57 23 = .ok (.iinc 1 1, 3) := by decide +kernel
theorem d57_26 : decode c57 26 = .ok (.goto (-24), 3) := by decide +kernel
abbrev c55 : ByteArray := prog_1_method_11_code
theorem d55_0 : decode c55 0 = .ok (.aload_n 0, 1) := by decide +kernel
theorem d55_1 : decode c55 1 = .ok (.getfield 88, 3) := by decide +kernel
theorem d55_4 : decode c55 4 = .ok (.ifCond .ne 5, 3) := by decide +kernel
theorem d55_9 : decode c55 9 = .ok (.aload_n 0, 1) := by decide +kernel
theorem d55_10 : decode c55 10 = .ok (.iconst 2, 1) := by decide +kernel
theorem d55_11 : decode c55 11 = .ok (.invokevirtual 138, 3) := by decide +kernel
theorem d55_14 : decode c55 14 = .ok (.istore_n 1, 1) := by decide +kernel
theorem d55_15 : decode c55 15 = .ok (.iload_n 1, 1) := by decide +kernel
theorem d55_16 : decode c55 16 = .ok (.aload_n 0, 1) := by decide +kernel
theorem d55_17 : decode c55 17 = .ok (.getfield 85, 3) := by decide +kernel
theorem d55_20 : decode c55 20 = .ok (.if_icmp .le 5, 3) := by decide +kernel
theorem d55_25 : decode c55 25 = .ok (.aload_n 0, 1) := by decide +kernel
theorem d55_26 : decode c55 26 = .ok (.iconst 3, 1) := by decide +kernel
theorem d55_27 : decode c55 27 = .ok (.invokevirtual 138, 3) := by decide +kernel
theorem d55_30 : decode c55 30 = .ok (.istore_n 2, 1) := by decide +kernel
theorem d55_31 : decode c55 31 = .ok (.iload_n 2, 1) := by decide +kernel
theorem d55_32 : decode c55 32 = .ok (.aload_n 0, 1) := by decide +kernel
theorem d55_33 : decode c55 33 = .ok (.getfield 85, 3) := by decide +kernel
theorem d55_36 : decode c55 36 = .ok (.if_icmp .le 5, 3) := by decide +kernel
theorem d55_41 : decode c55 41 = .ok (.aload_n 0, 1) := by decide +kernel
theorem d55_42 : decode c55 42 = .ok (.invokevirtual 141, 3) := by decide +kernel
theorem d55_45 : decode c55 45 = .ok (.iconst 0, 1) := by decide +kernel
theorem d55_46 : decode c55 46 = .ok (.ireturn, 1) := by decide +kernel
theorem d55_39 : decode c55 39 = .ok (.iconst 3, 1) := by decide +kernel
theorem d55_40 : decode c55 40 = .ok (.ireturn, 1) := by decide +kernel
theorem d55_23 : decode c55 23 = .ok (.iconst 2, 1) := by decide +kernel
theorem d55_24 : decode c55 24 = .ok (.ireturn, 1) := by decide +kernel
theorem d55_7 : decode c55 7 = .ok (.iconst 1, 1) := by decide +kernel
theorem d55_8 : decode c55 8 = .ok (.ireturn, 1) := by decide +kernel
abbrev c61 : ByteArray := prog_1_method_21_code
theorem d61_0 : decode c61 0 = .ok (.aload_n 0, 1) := by decide +kernel
theorem d61_1 : decode c61 1 = .ok (.getfield 82, 3) := by decide +kernel
theorem d61_4 : decode c61 4 = .ok (.iconst 2, 1) := by decide +kernel
theorem d61_5 : decode c61 5 = .ok (.idiv, 1) := by decide +kernel
theorem d61_6 : decode c61 6 = .ok (.istore_n 2, 1) := by decide +kernel
theorem d61_7 : decode c61 7 = .ok (.iload_n 1, 1) := by decide +kernel
theorem d61_8 : decode c61 8 = .ok (.iload_n 2, 1) := by decide +kernel
theorem d61_9 : decode c61 9 = .ok (.if_icmp .gt 5, 3) := by decide +kernel
theorem d61_14 : decode c61 14 = .ok (.iload_n 1, 1) := by decide +kernel
theorem d61_15 : decode c61 15 = .ok (.aload_n 0, 1) := by decide +kernel
theorem d61_16 : decode c61 16 = .ok (.getfield 82, 3) := by decide +kernel
theorem d61_19 : decode c61 19 = .ok (.isub, 1) := by decide +kernel
theorem d61_20 : decode c61 20 = .ok (.ireturn, 1) := by decide +kernel
theorem d61_12 : decode c61 12 = .ok (.iload_n 1, 1) := by decide +kernel
theorem d61_13 : decode c61 13 = .ok (.ireturn, 1) := by decide +kernel
abbrev c60 : ByteArray := prog_1_method_67_code
theorem d60_0 : decode c60 0 = .ok (.iconst 0, 1) := by decide +kernel
theorem d60_1 : decode c60 1 = .ok (.istore_n 1, 1) := by decide +kernel
theorem d60_2 : decode c60 2 = .ok (.iload_n 1, 1) := by decide +kernel
theorem d60_3 : decode c60 3 = .ok (.aload_n 0, 1) := by decide +kernel
theorem d60_4 : decode c60 4 = .ok (.getfield 75, 3) := by decide +kernel
theorem d60_7 : decode c60 7 = .ok (.if_icmp .ge 43, 3) := by decide +kernel
theorem d60_50 : decode c60 50 = .ok (.return_, 1) := by decide +kernel
theorem d60_10 : decode c60 10 = .ok (.aload_n 0, 1) := by decide +kernel
theorem d60_11 : decode c60 11 = .ok (.iconst 5, 1) := by decide +kernel
theorem d60_12 : decode c60 12 = .ok (.iconst 4, 1) := by decide +kernel
theorem d60_13 : decode c60 13 = .ok (.iload_n 1, 1) := by decide +kernel
theorem d60_14 : decode c60 14 = .ok (.invokevirtual 249, 3) := by decide +kernel
theorem d60_17 : decode c60 17 = .ok (.istore_n 2, 1) := by decide +kernel
theorem d60_18 : decode c60 18 = .ok (.aload_n 0, 1) := by decide +kernel
theorem d60_19 : decode c60 19 = .ok (.iload_n 2, 1) := by decide +kernel
theorem d60_20 : decode c60 20 = .ok (.aload_n 0, 1) := by decide +kernel
theorem d60_21 : decode c60 21 = .ok (.getfield 82, 3) := by decide +kernel
theorem d60_24 : decode c60 24 = .ok (.invokevirtual 157, 3) := by decide +kernel
theorem d60_27 : decode c60 27 = .ok (.istore_n 3, 1) := by decide +kernel
theorem d60_28 : decode c60 28 = .ok (.aload_n 0, 1) := by decide +kernel
theorem d60_29 : decode c60 29 = .ok (.iload_n 3, 1) := by decide +kernel
theorem d60_30 : decode c60 30 = .ok (.invokevirtual 258, 3) := by decide +kernel
theorem d60_33 : decode c60 33 = .ok (.istore 4, 2) := by decide +kernel
theorem d60_35 : decode c60 35 = .ok (.aload_n 0, 1) := by decide +kernel
theorem d60_36 : decode c60 36 = .ok (.bipush 9, 2) := by decide +kernel
theorem d60_38 : decode c60 38 = .ok (.iload_n 1, 1) := by decide +kernel
theorem d60_39 : decode c60 39 = .ok (.iload 4, 2) := by decide +kernel
theorem d60_41 : decode c60 41 = .ok (.invokevirtual 106, 3) := by decide +kernel
theorem d60_44 : decode c60 44 = .ok (.iinc 1 1, 3) := by decide +kernel
theorem d60_47 : decode c60 47 = .ok (.goto (-45), 3) := by decide +kernel
abbrev c63 : ByteArray := prog_1_method_22_code
theorem d63_0 : decode c63 0 = .ok (.iload_n 1, 1) := by decide +kernel
theorem d63_1 : decode c63 1 = .ok (.iconst 1, 1) := by decide +kernel
theorem d63_2 : decode c63 2 = .ok (.if_icmp .gt 5, 3) := by decide +kernel
theorem d63_7 : decode c63 7 = .ok (.iconst (-1), 1) := by decide +kernel
theorem d63_8 : decode c63 8 = .ok (.ireturn, 1) := by decide +kernel
theorem d63_5 : decode c63 5 = .ok (.iload_n 1, 1) := by decide +kernel
theorem d63_6 : decode c63 6 = .ok (.ireturn, 1) := by decide +kernel
abbrev c62 : ByteArray := prog_1_method_68_code
theorem d62_0 : decode c62 0 = .ok (.iconst 0, 1) := by decide +kernel
theorem d62_1 : decode c62 1 = .ok (.istore_n 1, 1) := by decide +kernel
theorem d62_2 : decode c62 2 = .ok (.iload_n 1, 1) := by decide +kernel
theorem d62_3 : decode c62 3 = .ok (.aload_n 0, 1) := by decide +kernel
theorem d62_4 : decode c62 4 = .ok (.getfield 75, 3) := by decide +kernel
theorem d62_7 : decode c62 7 = .ok (.if_icmp .ge 42, 3) := by decide +kernel
theorem d62_49 : decode c62 49 = .ok (.return_, 1) := by decide +kernel
theorem d62_10 : decode c62 10 = .ok (.aload_n 0, 1) := by decide +kernel
theorem d62_11 : decode c62 11 = .ok (.bipush 6, 2) := by decide +kernel
theorem d62_13 : decode c62 13 = .ok (.bipush 9, 2) := by decide +kernel
theorem d62_15 : decode c62 15 = .ok (.iload_n 1, 1) := by decide +kernel
theorem d62_16 : decode c62 16 = .ok (.invokevirtual 249, 3) := by decide +kernel
theorem d62_19 : decode c62 19 = .ok (.istore_n 2, 1) := by decide +kernel
theorem d62_20 : decode c62 20 = .ok (.aload_n 0, 1) := by decide +kernel
theorem d62_21 : decode c62 21 = .ok (.iload_n 2, 1) := by decide +kernel
theorem d62_22 : decode c62 22 = .ok (.iconst 3, 1) := by decide +kernel
theorem d62_23 : decode c62 23 = .ok (.invokevirtual 157, 3) := by decide +kernel
theorem d62_26 : decode c62 26 = .ok (.istore_n 3, 1) := by decide +kernel
theorem d62_27 : decode c62 27 = .ok (.aload_n 0, 1) := by decide +kernel
theorem d62_28 : decode c62 28 = .ok (.iload_n 3, 1) := by decide +kernel
theorem d62_29 : decode c62 29 = .ok (.invokevirtual 261, 3) := by decide +kernel
theorem d62_32 : decode c62 32 = .ok (.istore 4, 2) := by decide +kernel
theorem d62_34 : decode c62 34 = .ok (.aload_n 0, 1) := by decide +kernel
theorem d62_35 : decode c62 35 = .ok (.bipush 10, 2) := by decide +kernel
theorem d62_37 : decode c62 37 = .ok (.iload_n 1, 1) := by decide +kernel
theorem d62_38 : decode c62 38 = .ok (.iload 4, 2) := by decide +kernel
theorem d62_40 : decode c62 40 = .ok (.invokevirtual 106, 3) := by decide +kernel
theorem d62_43 : decode c62 43 = .ok (.iinc 1 1, 3) := by decide +kernel
theorem d62_46 : decode c62 46 = .ok (.goto (-44), 3) := by decide +kernel
abbrev c59 : ByteArray := prog_1_method_12_code
theorem d59_0 : decode c59 0 = .ok (.aload_n 0, 1) := by decide +kernel
theorem d59_1 : decode c59 1 = .ok (.getfield 88, 3) := by decide +kernel
theorem d59_4 : decode c59 4 = .ok (.ifCond .ne 5, 3) := by decide +kernel
theorem d59_9 : decode c59 9 = .ok (.aload_n 0, 1) := by decide +kernel
theorem d59_10 : decode c59 10 = .ok (.invokevirtual 144, 3) := by decide +kernel
theorem d59_13 : decode c59 13 = .ok (.aload_n 0, 1) := by decide +kernel
theorem d59_14 : decode c59 14 = .ok (.invokevirtual 147, 3) := by decide +kernel
theorem d59_17 : decode c59 17 = .ok (.iconst 0, 1) := by decide +kernel
theorem d59_18 : decode c59 18 = .ok (.ireturn, 1) := by decide +kernel
theorem d59_7 : decode c59 7 = .ok (.iconst 1, 1) := by decide +kernel
theorem d59_8 : decode c59 8 = .ok (.ireturn, 1) := by decide +kernel
abbrev c65 : ByteArray := prog_1_method_15_code
theorem d65_0 : decode c65 0 = .ok (.iload_n 1, 1) := by decide +kernel
theorem d65_1 : decode c65 1 = .ok (.iload_n 2, 1) := by decide +kernel
theorem d65_2 : decode c65 2 = .ok (.if_icmp .ge 5, 3) := by decide +kernel
theorem d65_7 : decode c65 7 = .ok (.iload_n 1, 1) := by decide +kernel
theorem d65_8 : decode c65 8 = .ok (.iload_n 3, 1) := by decide +kernel
theorem d65_9 : decode c65 9 = .ok (.if_icmp .le 5, 3) := by decide +kernel
theorem d65_14 : decode c65 14 = .ok (.iload_n 1, 1) := by decide +kernel
theorem d65_15 : decode c65 15 = .ok (.ireturn, 1) := by decide +kernel
theorem d65_12 : decode c65 12 = .ok (.iload_n 3, 1) := by decide +kernel
theorem d65_13 : decode c65 13 = .ok (.ireturn, 1) := by decide +kernel
theorem d65_5 : decode c65 5 = .ok (.iload_n 2, 1) := by decide +kernel
theorem d65_6 : decode c65 6 = .ok (.ireturn, 1) := by decide +kernel
abbrev c66 : ByteArray := prog_1_method_16_code
theorem d66_0 : decode c66 0 = .ok (.iconst 1, 1) := by decide +kernel
theorem d66_1 : decode c66 1 = .ok (.istore_n 2, 1) := by decide +kernel
theorem d66_2 : decode c66 2 = .ok (.iconst 0, 1) := by decide +kernel
theorem d66_3 : decode c66 3 = .ok (.istore_n 3, 1) := by decide +kernel
theorem d66_4 : decode c66 4 = .ok (.iload_n 3, 1) := by decide +kernel
theorem d66_5 : decode c66 5 = .ok (.iload_n 1, 1) := by decide +kernel
theorem d66_6 : decode c66 6 = .ok (.if_icmp .ge 19, 3) := by decide +kernel
theorem d66_9 : decode c66 9 = .ok (.iload_n 3, 1) := by decide +kernel
theorem d66_10 : decode c66 10 = .ok (.bipush 30, 2) := by decide +kernel
theorem d66_12 : decode c66 12 = .ok (.if_icmp .ge 13, 3) := by decide +kernel
theorem d66_25 : decode c66 25 = .ok (.iload_n 2, 1) := by decide +kernel
theorem d66_26 : decode c66 26 = .ok (.ireturn, 1) := by decide +kernel
theorem d66_15 : decode c66 15 = .ok (.iload_n 2, 1) := by decide +kernel
theorem d66_16 : decode c66 16 = .ok (.iconst 2, 1) := by decide +kernel
theorem d66_17 : decode c66 17 = .ok (.imul, 1) := by decide +kernel
theorem d66_18 : decode c66 18 = .ok (.istore_n 2, 1) := by decide +kernel
theorem d66_19 : decode c66 19 = .ok (.iinc 3 1, 3) := by decide +kernel
theorem d66_22 : decode c66 22 = .ok (.goto (-18), 3) := by decide +kernel
abbrev c64 : ByteArray := prog_1_method_1_code
theorem d64_0 : decode c64 0 = .ok (.aload_n 0, 1) := by decide +kernel
theorem d64_1 : decode c64 1 = .ok (.invokespecial 1, 3) := by decide +kernel
theorem d64_4 : decode c64 4 = .ok (.aload_n 0, 1) := by decide +kernel
theorem d64_5 : decode c64 5 = .ok (.bipush 17, 2) := by decide +kernel
theorem d64_7 : decode c64 7 = .ok (.newarray .int, 2) := by decide +kernel
theorem d64_9 : decode c64 9 = .ok (.putfield 7, 3) := by decide +kernel
theorem d64_12 : decode c64 12 = .ok (.aload_n 0, 1) := by decide +kernel
theorem d64_13 : decode c64 13 = .ok (.bipush 17, 2) := by decide +kernel
theorem d64_15 : decode c64 15 = .ok (.newarray .int, 2) := by decide +kernel
theorem d64_17 : decode c64 17 = .ok (.putfield 13, 3) := by decide +kernel
theorem d64_20 : decode c64 20 = .ok (.aload_n 0, 1) := by decide +kernel
theorem d64_21 : decode c64 21 = .ok (.bipush 17, 2) := by decide +kernel
theorem d64_23 : decode c64 23 = .ok (.newarray .int, 2) := by decide +kernel
theorem d64_25 : decode c64 25 = .ok (.putfield 16, 3) := by decide +kernel
theorem d64_28 : decode c64 28 = .ok (.aload_n 0, 1) := by decide +kernel
theorem d64_29 : decode c64 29 = .ok (.bipush 17, 2) := by decide +kernel
theorem d64_31 : decode c64 31 = .ok (.newarray .int, 2) := by decide +kernel
theorem d64_33 : decode c64 33 = .ok (.putfield 19, 3) := by decide +kernel
theorem d64_36 : decode c64 36 = .ok (.aload_n 0, 1) := by decide +kernel
theorem d64_37 : decode c64 37 = .ok (.bipush 17, 2) := by decide +kernel
theorem d64_39 : decode c64 39 = .ok (.newarray .int, 2) := by decide +kernel
theorem d64_41 : decode c64 41 = .ok (.putfield 22, 3) := by decide +kernel
theorem d64_44 : decode c64 44 = .ok (.aload_n 0, 1) := by decide +kernel
theorem d64_45 : decode c64 45 = .ok (.bipush 17, 2) := by decide +kernel
theorem d64_47 : decode c64 47 = .ok (.newarray .int, 2) := by decide +kernel
theorem d64_49 : decode c64 49 = .ok (.putfield 25, 3) := by decide +kernel
theorem d64_52 : decode c64 52 = .ok (.aload_n 0, 1) := by decide +kernel
theorem d64_53 : decode c64 53 = .ok (.bipush 17, 2) := by decide +kernel
theorem d64_55 : decode c64 55 = .ok (.newarray .int, 2) := by decide +kernel
theorem d64_57 : decode c64 57 = .ok (.putfield 28, 3) := by decide +kernel
theorem d64_60 : decode c64 60 = .ok (.aload_n 0, 1) := by decide +kernel
theorem d64_61 : decode c64 61 = .ok (.bipush 17, 2) := by decide +kernel
theorem d64_63 : decode c64 63 = .ok (.newarray .int, 2) := by decide +kernel
theorem d64_65 : decode c64 65 = .ok (.putfield 31, 3) := by decide +kernel
theorem d64_68 : decode c64 68 = .ok (.aload_n 0, 1) := by decide +kernel
theorem d64_69 : decode c64 69 = .ok (.bipush 17, 2) := by decide +kernel
theorem d64_71 : decode c64 71 = .ok (.newarray .int, 2) := by decide +kernel
theorem d64_73 : decode c64 73 = .ok (.putfield 34, 3) := by decide +kernel
theorem d64_76 : decode c64 76 = .ok (.aload_n 0, 1) := by decide +kernel
theorem d64_77 : decode c64 77 = .ok (.bipush 17, 2) := by decide +kernel
theorem d64_79 : decode c64 79 = .ok (.newarray .int, 2) := by decide +kernel
theorem d64_81 : decode c64 81 = .ok (.putfield 37, 3) := by decide +kernel
theorem d64_84 : decode c64 84 = .ok (.aload_n 0, 1) := by decide +kernel
theorem d64_85 : decode c64 85 = .ok (.bipush 17, 2) := by decide +kernel
theorem d64_87 : decode c64 87 = .ok (.newarray .int, 2) := by decide +kernel
theorem d64_89 : decode c64 89 = .ok (.putfield 40, 3) := by decide +kernel
theorem d64_92 : decode c64 92 = .ok (.aload_n 0, 1) := by decide +kernel
theorem d64_93 : decode c64 93 = .ok (.sipush 306, 3) := by decide +kernel
theorem d64_96 : decode c64 96 = .ok (.newarray .int, 2) := by decide +kernel
theorem d64_98 : decode c64 98 = .ok (.putfield 43, 3) := by decide +kernel
theorem d64_101 : decode c64 101 = .ok (.aload_n 0, 1) := by decide +kernel
theorem d64_102 : decode c64 102 = .ok (.bipush 17, 2) := by decide +kernel
theorem d64_104 : decode c64 104 = .ok (.newarray .int, 2) := by decide +kernel
theorem d64_106 : decode c64 106 = .ok (.putfield 46, 3) := by decide +kernel
theorem d64_109 : decode c64 109 = .ok (.aload_n 0, 1) := by decide +kernel
theorem d64_110 : decode c64 110 = .ok (.bipush 17, 2) := by decide +kernel
theorem d64_112 : decode c64 112 = .ok (.newarray .int, 2) := by decide +kernel
theorem d64_114 : decode c64 114 = .ok (.putfield 49, 3) := by decide +kernel
theorem d64_117 : decode c64 117 = .ok (.aload_n 0, 1) := by decide +kernel
theorem d64_118 : decode c64 118 = .ok (.bipush 17, 2) := by decide +kernel
theorem d64_120 : decode c64 120 = .ok (.newarray .int, 2) := by decide +kernel
theorem d64_122 : decode c64 122 = .ok (.putfield 52, 3) := by decide +kernel
theorem d64_125 : decode c64 125 = .ok (.aload_n 0, 1) := by decide +kernel
theorem d64_126 : decode c64 126 = .ok (.bipush 17, 2) := by decide +kernel
theorem d64_128 : decode c64 128 = .ok (.newarray .int, 2) := by decide +kernel
theorem d64_130 : decode c64 130 = .ok (.putfield 55, 3) := by decide +kernel
theorem d64_133 : decode c64 133 = .ok (.aload_n 0, 1) := by decide +kernel
theorem d64_134 : decode c64 134 = .ok (.bipush 11, 2) := by decide +kernel
theorem d64_136 : decode c64 136 = .ok (.putfield 58, 3) := by decide +kernel
theorem d64_139 : decode c64 139 = .ok (.aload_n 0, 1) := by decide +kernel
theorem d64_140 : decode c64 140 = .ok (.bipush 12, 2) := by decide +kernel
theorem d64_142 : decode c64 142 = .ok (.putfield 62, 3) := by decide +kernel
theorem d64_145 : decode c64 145 = .ok (.aload_n 0, 1) := by decide +kernel
theorem d64_146 : decode c64 146 = .ok (.bipush 13, 2) := by decide +kernel
theorem d64_148 : decode c64 148 = .ok (.putfield 65, 3) := by decide +kernel
theorem d64_151 : decode c64 151 = .ok (.aload_n 0, 1) := by decide +kernel
theorem d64_152 : decode c64 152 = .ok (.bipush 14, 2) := by decide +kernel
theorem d64_154 : decode c64 154 = .ok (.putfield 68, 3) := by decide +kernel
theorem d64_157 : decode c64 157 = .ok (.aload_n 0, 1) := by decide +kernel
theorem d64_158 : decode c64 158 = .ok (.iload_n 1, 1) := by decide +kernel
theorem d64_159 : decode c64 159 = .ok (.iconst 5, 1) := by decide +kernel
theorem d64_160 : decode c64 160 = .ok (.bipush 17, 2) := by decide +kernel
theorem d64_162 : decode c64 162 = .ok (.invokevirtual 71, 3) := by decide +kernel
theorem d64_165 : decode c64 165 = .ok (.istore_n 3, 1) := by decide +kernel
theorem d64_166 : decode c64 166 = .ok (.aload_n 0, 1) := by decide +kernel
theorem d64_167 : decode c64 167 = .ok (.iload_n 2, 1) := by decide +kernel
theorem d64_168 : decode c64 168 = .ok (.iconst 5, 1) := by decide +kernel
theorem d64_169 : decode c64 169 = .ok (.bipush 8, 2) := by decide +kernel
theorem d64_171 : decode c64 171 = .ok (.invokevirtual 71, 3) := by decide +kernel
theorem d64_174 : decode c64 174 = .ok (.istore 4, 2) := by decide +kernel
theorem d64_176 : decode c64 176 = .ok (.aload_n 0, 1) := by decide +kernel
theorem d64_177 : decode c64 177 = .ok (.iload_n 3, 1) := by decide +kernel
theorem d64_178 : decode c64 178 = .ok (.putfield 75, 3) := by decide +kernel
theorem d64_181 : decode c64 181 = .ok (.aload_n 0, 1) := by decide +kernel
theorem d64_182 : decode c64 182 = .ok (.aload_n 0, 1) := by decide +kernel
theorem d64_183 : decode c64 183 = .ok (.iload 4, 2) := by decide +kernel
theorem d64_185 : decode c64 185 = .ok (.invokevirtual 78, 3) := by decide +kernel
theorem d64_188 : decode c64 188 = .ok (.putfield 82, 3) := by decide +kernel
theorem d64_191 : decode c64 191 = .ok (.aload_n 0, 1) := by decide +kernel
theorem d64_192 : decode c64 192 = .ok (.aload_n 0, 1) := by decide +kernel
theorem d64_193 : decode c64 193 = .ok (.getfield 82, 3) := by decide +kernel
theorem d64_196 : decode c64 196 = .ok (.bipush 8, 2) := by decide +kernel
theorem d64_198 : decode c64 198 = .ok (.idiv, 1) := by decide +kernel
theorem d64_199 : decode c64 199 = .ok (.iconst 1, 1) := by decide +kernel
theorem d64_200 : decode c64 200 = .ok (.isub, 1) := by decide +kernel
theorem d64_201 : decode c64 201 = .ok (.putfield 85, 3) := by decide +kernel
theorem d64_204 : decode c64 204 = .ok (.aload_n 0, 1) := by decide +kernel
theorem d64_205 : decode c64 205 = .ok (.iconst 0, 1) := by decide +kernel
theorem d64_206 : decode c64 206 = .ok (.putfield 88, 3) := by decide +kernel
theorem d64_209 : decode c64 209 = .ok (.aload_n 0, 1) := by decide +kernel
theorem d64_210 : decode c64 210 = .ok (.iconst 0, 1) := by decide +kernel
theorem d64_211 : decode c64 211 = .ok (.putfield 92, 3) := by decide +kernel
theorem d64_214 : decode c64 214 = .ok (.return_, 1) := by decide +kernel
abbrev KM_M_isSelector (X : Cx (St × Nat)) (Z : State) (a0 : Array Value) (l : Launch) (n1 : Nat) (a : Addr) (h0 : Heap) : Prop := CtxC X Z a0 cC cFS cFA 16 25 l n1 a h0 ce0 ⟨0, 0, 0, 0⟩ "isSelector" c4 2 (some .boolean)
def M_isSelector (σ : St) (v1 : Int32) : Option (Int32 × St) :=
  (if v1 < 0 then (some ((0 : Int32), σ)) else (if (10 : Int32) < v1 then (some ((0 : Int32), σ)) else (some ((1 : Int32), σ))))
theorem ok_M_isSelector {X : Cx (St × Nat)} {Z : State} {a0 : Array Value} {l : Launch} {n1 : Nat} {a : Addr} {h0 : Heap} (K : KM_M_isSelector X Z a0 l n1 a h0) (hw : HW a0 Z) {σ : St} {v1 : Int32} {r : Int32 × St} (h : M_isSelector σ v1 = some r) : Go X (some (.int r.1), (r.2, 16)) 0 [some (.ref 0), some (.int v1)] [] (σ, 16) := by
  unfold M_isSelector at h
  refine g_iloadN (pc := 0) K.1 d4_0 rfl ?_
  rcases ifs h with ⟨hc1, h⟩ | ⟨hc1, h⟩
  · refine g_ifT (pc := 1) (pc' := 14) K.1 d4_1 (by decide) ((if0 _ _).trans (tlt hc1).1) ?_
    refine g_iconst (pc := 14) (v := 0) K.1 d4_14 (by decide) ?_
    cases h; exact g_ireturnN (t := .boolean) K.1 rfl (Or.inl rfl) d4_15 rfl (capC K)
  refine g_ifF (pc := 1) K.1 d4_1 ((if0 _ _).trans (flt hc1).1) ?_
  refine g_iloadN (pc := 4) K.1 d4_4 rfl ?_
  refine g_bipush (pc := 5) (v := 10) K.1 d4_5 (by decide) ?_
  rcases ifs h with ⟨hc7, h⟩ | ⟨hc7, h⟩
  · refine g_icT (pc := 7) (pc' := 14) K.1 d4_7 (by decide) ((tlt hc7).2.2.1) ?_
    refine g_iconst (pc := 14) (v := 0) K.1 d4_14 (by decide) ?_
    cases h; exact g_ireturnN (t := .boolean) K.1 rfl (Or.inl rfl) d4_15 rfl (capC K)
  refine g_icF (pc := 7) K.1 d4_7 ((flt hc7).2.2.1) ?_
  refine g_iconst (pc := 10) (v := 1) K.1 d4_10 (by decide) ?_
  refine g_goto (pc := 11) (pc' := 15) K.1 d4_11 (by decide) ?_
  cases h; exact g_ireturnN (t := .boolean) K.1 rfl (Or.inl rfl) d4_15 rfl (capC K)
theorem con_M_isSelector (l : Launch) (Z : State) (a0 : Array Value) (hw : HW a0 Z) (n1 : Nat) (a : Addr) (ha : n1 ≤ a) {σ : St} {v1 : Int32} {r : Int32 × St} (h : M_isSelector σ v1 = some r) : Con l Z cC cFS cFA 16 n1 a ⟨cC, "isSelector", "(I)Z"⟩ c4 2 (some .boolean) ⟨0, 0, 0, 0⟩ [.ref 0, .int v1] σ (some (.int r.1)) r.2 :=
  con_of_go pnC rfl (layW hw) lgood ha (fun X h1 K => ok_M_isSelector K hw h)
abbrev KM_M_isIndex (X : Cx (St × Nat)) (Z : State) (a0 : Array Value) (l : Launch) (n1 : Nat) (a : Addr) (h0 : Heap) : Prop := CtxC X Z a0 cC cFS cFA 16 25 l n1 a h0 ce0 ⟨0, 0, 0, 0⟩ "isIndex" c5 2 (some .boolean)
def M_isIndex (σ : St) (v1 : Int32) : Option (Int32 × St) :=
  (if v1 < 0 then (some ((0 : Int32), σ)) else (if v1 < (gI σ 121) then (some ((1 : Int32), σ)) else (some ((0 : Int32), σ))))
theorem ok_M_isIndex {X : Cx (St × Nat)} {Z : State} {a0 : Array Value} {l : Launch} {n1 : Nat} {a : Addr} {h0 : Heap} (K : KM_M_isIndex X Z a0 l n1 a h0) (hw : HW a0 Z) {σ : St} {v1 : Int32} {r : Int32 × St} (h : M_isIndex σ v1 = some r) : Go X (some (.int r.1), (r.2, 16)) 0 [some (.ref 0), some (.int v1)] [] (σ, 16) := by
  unfold M_isIndex at h
  refine g_iloadN (pc := 0) K.1 d5_0 rfl ?_
  rcases ifs h with ⟨hc1, h⟩ | ⟨hc1, h⟩
  · refine g_ifT (pc := 1) (pc' := 16) K.1 d5_1 (by decide) ((if0 _ _).trans (tlt hc1).1) ?_
    refine g_iconst (pc := 16) (v := 0) K.1 d5_16 (by decide) ?_
    cases h; exact g_ireturnN (t := .boolean) K.1 rfl (Or.inl rfl) d5_17 rfl (capC K)
  refine g_ifF (pc := 1) K.1 d5_1 ((if0 _ _).trans (flt hc1).1) ?_
  refine g_iloadN (pc := 4) K.1 d5_4 rfl ?_
  refine g_aloadN (pc := 5) K.1 d5_5 rfl ?_
  refine g_getI (pc := 6) K d5_6 (w54 hw) mf_n ?_
  rcases ifs h with ⟨hc9, h⟩ | ⟨hc9, h⟩
  · refine g_icF (pc := 9) K.1 d5_9 ((tlt hc9).2.1) ?_
    refine g_iconst (pc := 12) (v := 1) K.1 d5_12 (by decide) ?_
    refine g_goto (pc := 13) (pc' := 17) K.1 d5_13 (by decide) ?_
    cases h; exact g_ireturnN (t := .boolean) K.1 rfl (Or.inl rfl) d5_17 rfl (capC K)
  refine g_icT (pc := 9) (pc' := 16) K.1 d5_9 (by decide) ((flt hc9).2.1) ?_
  refine g_iconst (pc := 16) (v := 0) K.1 d5_16 (by decide) ?_
  cases h; exact g_ireturnN (t := .boolean) K.1 rfl (Or.inl rfl) d5_17 rfl (capC K)
theorem con_M_isIndex (l : Launch) (Z : State) (a0 : Array Value) (hw : HW a0 Z) (n1 : Nat) (a : Addr) (ha : n1 ≤ a) {σ : St} {v1 : Int32} {r : Int32 × St} (h : M_isIndex σ v1 = some r) : Con l Z cC cFS cFA 16 n1 a ⟨cC, "isIndex", "(I)Z"⟩ c5 2 (some .boolean) ⟨0, 0, 0, 0⟩ [.ref 0, .int v1] σ (some (.int r.1)) r.2 :=
  con_of_go pnC rfl (layW hw) lgood ha (fun X h1 K => ok_M_isIndex K hw h)
abbrev KM_M_loadHeld (X : Cx (St × Nat)) (Z : State) (a0 : Array Value) (l : Launch) (n1 : Nat) (a : Addr) (h0 : Heap) : Prop := CtxC X Z a0 cC cFS cFA 16 25 l n1 a h0 ce0 ⟨0, 0, 0, 0⟩ "loadHeld" c7 3 (some .int)
def M_loadHeld (σ : St) (v1 : Int32) (v2 : Int32) : Option (Int32 × St) :=
  (if v1 = 0 then (if 0 ≤ (v2).toInt ∧ (v2).toInt < 17 then (some ((gA σ 1 (v2).toInt), σ)) else none) else (if v1 = 1 then (if 0 ≤ (v2).toInt ∧ (v2).toInt < 17 then (some ((gA σ 2 (v2).toInt), σ)) else none) else (if v1 = 2 then (if 0 ≤ (v2).toInt ∧ (v2).toInt < 17 then (some ((gA σ 3 (v2).toInt), σ)) else none) else (if v1 = 3 then (if 0 ≤ (v2).toInt ∧ (v2).toInt < 17 then (some ((gA σ 4 (v2).toInt), σ)) else none) else (if v1 = 4 then (if 0 ≤ (v2).toInt ∧ (v2).toInt < 17 then (some ((gA σ 5 (v2).toInt), σ)) else none) else (if v1 = 5 then (if 0 ≤ (v2).toInt ∧ (v2).toInt < 17 then (some ((gA σ 6 (v2).toInt), σ)) else none) else (if v1 = 6 then (if 0 ≤ (v2).toInt ∧ (v2).toInt < 17 then (some ((gA σ 7 (v2).toInt), σ)) else none) else (if v1 = 7 then (if 0 ≤ (v2).toInt ∧ (v2).toInt < 17 then (some ((gA σ 8 (v2).toInt), σ)) else none) else (if v1 = 8 then (if 0 ≤ (v2).toInt ∧ (v2).toInt < 17 then (some ((gA σ 9 (v2).toInt), σ)) else none) else (if v1 = 9 then (if 0 ≤ (v2).toInt ∧ (v2).toInt < 17 then (some ((gA σ 10 (v2).toInt), σ)) else none) else (if v1 = 10 then (if 0 ≤ (v2).toInt ∧ (v2).toInt < 17 then (some ((gA σ 11 (v2).toInt), σ)) else none) else (some ((0 : Int32), σ)))))))))))))
theorem ok_M_loadHeld {X : Cx (St × Nat)} {Z : State} {a0 : Array Value} {l : Launch} {n1 : Nat} {a : Addr} {h0 : Heap} (K : KM_M_loadHeld X Z a0 l n1 a h0) (hw : HW a0 Z) {σ : St} {v1 : Int32} {v2 : Int32} {r : Int32 × St} (h : M_loadHeld σ v1 v2 = some r) : Go X (some (.int r.1), (r.2, 16)) 0 [some (.ref 0), some (.int v1), some (.int v2)] [] (σ, 16) := by
  unfold M_loadHeld at h
  refine g_iloadN (pc := 0) K.1 d7_0 rfl ?_
  rcases ifs h with ⟨hc1_0, h⟩ | ⟨hc1_0, h⟩
  · refine g_tswIn (pc := 1) (o := 59) (pc' := 60) K.1 d7_1 (by rw [hc1_0]; decide) (by rw [hc1_0]; rfl) (by decide) ?_
    refine g_aloadN (pc := 60) K.1 d7_60 rfl ?_
    refine g_getA (pc := 61) K d7_61 (w10 hw) mf_f rfl ?_
    refine g_iloadN (pc := 64) K.1 d7_64 rfl ?_
    obtain ⟨hc65, h⟩ := ifn h
    refine g_iaload (pc := 65) K d7_65 ma_f rfl hc65 ?_
    cases h; exact g_ireturn K.1 d7_66 (capC K)
  rcases ifs h with ⟨hc1_1, h⟩ | ⟨hc1_1, h⟩
  · refine g_tswIn (pc := 1) (o := 66) (pc' := 67) K.1 d7_1 (by rw [hc1_1]; decide) (by rw [hc1_1]; rfl) (by decide) ?_
    refine g_aloadN (pc := 67) K.1 d7_67 rfl ?_
    refine g_getA (pc := 68) K d7_68 (w12 hw) mf_g rfl ?_
    refine g_iloadN (pc := 71) K.1 d7_71 rfl ?_
    obtain ⟨hc72, h⟩ := ifn h
    refine g_iaload (pc := 72) K d7_72 ma_g rfl hc72 ?_
    cases h; exact g_ireturn K.1 d7_73 (capC K)
  rcases ifs h with ⟨hc1_2, h⟩ | ⟨hc1_2, h⟩
  · refine g_tswIn (pc := 1) (o := 73) (pc' := 74) K.1 d7_1 (by rw [hc1_2]; decide) (by rw [hc1_2]; rfl) (by decide) ?_
    refine g_aloadN (pc := 74) K.1 d7_74 rfl ?_
    refine g_getA (pc := 75) K d7_75 (w14 hw) mf_m rfl ?_
    refine g_iloadN (pc := 78) K.1 d7_78 rfl ?_
    obtain ⟨hc79, h⟩ := ifn h
    refine g_iaload (pc := 79) K d7_79 ma_m rfl hc79 ?_
    cases h; exact g_ireturn K.1 d7_80 (capC K)
  rcases ifs h with ⟨hc1_3, h⟩ | ⟨hc1_3, h⟩
  · refine g_tswIn (pc := 1) (o := 80) (pc' := 81) K.1 d7_1 (by rw [hc1_3]; decide) (by rw [hc1_3]; rfl) (by decide) ?_
    refine g_aloadN (pc := 81) K.1 d7_81 rfl ?_
    refine g_getA (pc := 82) K d7_82 (w16 hw) mf_r rfl ?_
    refine g_iloadN (pc := 85) K.1 d7_85 rfl ?_
    obtain ⟨hc86, h⟩ := ifn h
    refine g_iaload (pc := 86) K d7_86 ma_r rfl hc86 ?_
    cases h; exact g_ireturn K.1 d7_87 (capC K)
  rcases ifs h with ⟨hc1_4, h⟩ | ⟨hc1_4, h⟩
  · refine g_tswIn (pc := 1) (o := 87) (pc' := 88) K.1 d7_1 (by rw [hc1_4]; decide) (by rw [hc1_4]; rfl) (by decide) ?_
    refine g_aloadN (pc := 88) K.1 d7_88 rfl ?_
    refine g_getA (pc := 89) K d7_89 (w18 hw) mf_c rfl ?_
    refine g_iloadN (pc := 92) K.1 d7_92 rfl ?_
    obtain ⟨hc93, h⟩ := ifn h
    refine g_iaload (pc := 93) K d7_93 ma_c rfl hc93 ?_
    cases h; exact g_ireturn K.1 d7_94 (capC K)
  rcases ifs h with ⟨hc1_5, h⟩ | ⟨hc1_5, h⟩
  · refine g_tswIn (pc := 1) (o := 94) (pc' := 95) K.1 d7_1 (by rw [hc1_5]; decide) (by rw [hc1_5]; rfl) (by decide) ?_
    refine g_aloadN (pc := 95) K.1 d7_95 rfl ?_
    refine g_getA (pc := 96) K d7_96 (w20 hw) mf_kf rfl ?_
    refine g_iloadN (pc := 99) K.1 d7_99 rfl ?_
    obtain ⟨hc100, h⟩ := ifn h
    refine g_iaload (pc := 100) K d7_100 ma_kf rfl hc100 ?_
    cases h; exact g_ireturn K.1 d7_101 (capC K)
  rcases ifs h with ⟨hc1_6, h⟩ | ⟨hc1_6, h⟩
  · refine g_tswIn (pc := 1) (o := 101) (pc' := 102) K.1 d7_1 (by rw [hc1_6]; decide) (by rw [hc1_6]; rfl) (by decide) ?_
    refine g_aloadN (pc := 102) K.1 d7_102 rfl ?_
    refine g_getA (pc := 103) K d7_103 (w22 hw) mf_fp rfl ?_
    refine g_iloadN (pc := 106) K.1 d7_106 rfl ?_
    obtain ⟨hc107, h⟩ := ifn h
    refine g_iaload (pc := 107) K d7_107 ma_fp rfl hc107 ?_
    cases h; exact g_ireturn K.1 d7_108 (capC K)
  rcases ifs h with ⟨hc1_7, h⟩ | ⟨hc1_7, h⟩
  · refine g_tswIn (pc := 1) (o := 108) (pc' := 109) K.1 d7_1 (by rw [hc1_7]; decide) (by rw [hc1_7]; rfl) (by decide) ?_
    refine g_aloadN (pc := 109) K.1 d7_109 rfl ?_
    refine g_getA (pc := 110) K d7_110 (w24 hw) mf_fq rfl ?_
    refine g_iloadN (pc := 113) K.1 d7_113 rfl ?_
    obtain ⟨hc114, h⟩ := ifn h
    refine g_iaload (pc := 114) K d7_114 ma_fq rfl hc114 ?_
    cases h; exact g_ireturn K.1 d7_115 (capC K)
  rcases ifs h with ⟨hc1_8, h⟩ | ⟨hc1_8, h⟩
  · refine g_tswIn (pc := 1) (o := 115) (pc' := 116) K.1 d7_1 (by rw [hc1_8]; decide) (by rw [hc1_8]; rfl) (by decide) ?_
    refine g_aloadN (pc := 116) K.1 d7_116 rfl ?_
    refine g_getA (pc := 117) K d7_117 (w26 hw) mf_h rfl ?_
    refine g_iloadN (pc := 120) K.1 d7_120 rfl ?_
    obtain ⟨hc121, h⟩ := ifn h
    refine g_iaload (pc := 121) K d7_121 ma_h rfl hc121 ?_
    cases h; exact g_ireturn K.1 d7_122 (capC K)
  rcases ifs h with ⟨hc1_9, h⟩ | ⟨hc1_9, h⟩
  · refine g_tswIn (pc := 1) (o := 122) (pc' := 123) K.1 d7_1 (by rw [hc1_9]; decide) (by rw [hc1_9]; rfl) (by decide) ?_
    refine g_aloadN (pc := 123) K.1 d7_123 rfl ?_
    refine g_getA (pc := 124) K d7_124 (w28 hw) mf_a rfl ?_
    refine g_iloadN (pc := 127) K.1 d7_127 rfl ?_
    obtain ⟨hc128, h⟩ := ifn h
    refine g_iaload (pc := 128) K d7_128 ma_a rfl hc128 ?_
    cases h; exact g_ireturn K.1 d7_129 (capC K)
  rcases ifs h with ⟨hc1_10, h⟩ | ⟨hc1_10, h⟩
  · refine g_tswIn (pc := 1) (o := 129) (pc' := 130) K.1 d7_1 (by rw [hc1_10]; decide) (by rw [hc1_10]; rfl) (by decide) ?_
    refine g_aloadN (pc := 130) K.1 d7_130 rfl ?_
    refine g_getA (pc := 131) K d7_131 (w30 hw) mf_d rfl ?_
    refine g_iloadN (pc := 134) K.1 d7_134 rfl ?_
    obtain ⟨hc135, h⟩ := ifn h
    refine g_iaload (pc := 135) K d7_135 ma_d rfl hc135 ?_
    cases h; exact g_ireturn K.1 d7_136 (capC K)
  refine g_tswOut (pc := 1) (pc' := 137) K.1 d7_1 (by have q0 : (v1).toInt ≠ 0 := fun q => hc1_0 (Int32.toInt_inj.mp q); have q1 : (v1).toInt ≠ 1 := fun q => hc1_1 (Int32.toInt_inj.mp q); have q2 : (v1).toInt ≠ 2 := fun q => hc1_2 (Int32.toInt_inj.mp q); have q3 : (v1).toInt ≠ 3 := fun q => hc1_3 (Int32.toInt_inj.mp q); have q4 : (v1).toInt ≠ 4 := fun q => hc1_4 (Int32.toInt_inj.mp q); have q5 : (v1).toInt ≠ 5 := fun q => hc1_5 (Int32.toInt_inj.mp q); have q6 : (v1).toInt ≠ 6 := fun q => hc1_6 (Int32.toInt_inj.mp q); have q7 : (v1).toInt ≠ 7 := fun q => hc1_7 (Int32.toInt_inj.mp q); have q8 : (v1).toInt ≠ 8 := fun q => hc1_8 (Int32.toInt_inj.mp q); have q9 : (v1).toInt ≠ 9 := fun q => hc1_9 (Int32.toInt_inj.mp q); have q10 : (v1).toInt ≠ 10 := fun q => hc1_10 (Int32.toInt_inj.mp q); omega) (by decide) ?_
  refine g_iconst (pc := 137) (v := 0) K.1 d7_137 (by decide) ?_
  cases h; exact g_ireturn K.1 d7_138 (capC K)
theorem con_M_loadHeld (l : Launch) (Z : State) (a0 : Array Value) (hw : HW a0 Z) (n1 : Nat) (a : Addr) (ha : n1 ≤ a) {σ : St} {v1 : Int32} {v2 : Int32} {r : Int32 × St} (h : M_loadHeld σ v1 v2 = some r) : Con l Z cC cFS cFA 16 n1 a ⟨cC, "loadHeld", "(II)I"⟩ c7 3 (some .int) ⟨0, 0, 0, 0⟩ [.ref 0, .int v1, .int v2] σ (some (.int r.1)) r.2 :=
  con_of_go pnC rfl (layW hw) lgood ha (fun X h1 K => ok_M_loadHeld K hw h)
abbrev KM_M_loadScratch (X : Cx (St × Nat)) (Z : State) (a0 : Array Value) (l : Launch) (n1 : Nat) (a : Addr) (h0 : Heap) : Prop := CtxC X Z a0 cC cFS cFA 16 25 l n1 a h0 ce0 ⟨0, 0, 0, 0⟩ "loadScratch" c8 3 (some .int)
def M_loadScratch (σ : St) (v1 : Int32) (v2 : Int32) : Option (Int32 × St) :=
  (if v1 = 11 then (if 0 ≤ (v2).toInt ∧ (v2).toInt < 17 then (some ((gA σ 13 (v2).toInt), σ)) else none) else (if v1 = 12 then (if 0 ≤ (v2).toInt ∧ (v2).toInt < 17 then (some ((gA σ 14 (v2).toInt), σ)) else none) else (if v1 = 13 then (if 0 ≤ (v2).toInt ∧ (v2).toInt < 17 then (some ((gA σ 15 (v2).toInt), σ)) else none) else (if v1 = 14 then (if 0 ≤ (v2).toInt ∧ (v2).toInt < 17 then (some ((gA σ 16 (v2).toInt), σ)) else none) else (some ((0 : Int32), σ))))))
theorem ok_M_loadScratch {X : Cx (St × Nat)} {Z : State} {a0 : Array Value} {l : Launch} {n1 : Nat} {a : Addr} {h0 : Heap} (K : KM_M_loadScratch X Z a0 l n1 a h0) (hw : HW a0 Z) {σ : St} {v1 : Int32} {v2 : Int32} {r : Int32 × St} (h : M_loadScratch σ v1 v2 = some r) : Go X (some (.int r.1), (r.2, 16)) 0 [some (.ref 0), some (.int v1), some (.int v2)] [] (σ, 16) := by
  unfold M_loadScratch at h
  refine g_iloadN (pc := 0) K.1 d8_0 rfl ?_
  rcases ifs h with ⟨hc1_11, h⟩ | ⟨hc1_11, h⟩
  · refine g_tswIn (pc := 1) (o := 31) (pc' := 32) K.1 d8_1 (by rw [hc1_11]; decide) (by rw [hc1_11]; rfl) (by decide) ?_
    refine g_aloadN (pc := 32) K.1 d8_32 rfl ?_
    refine g_getA (pc := 33) K d8_33 (w34 hw) mf_invP rfl ?_
    refine g_iloadN (pc := 36) K.1 d8_36 rfl ?_
    obtain ⟨hc37, h⟩ := ifn h
    refine g_iaload (pc := 37) K d8_37 ma_invP rfl hc37 ?_
    cases h; exact g_ireturn K.1 d8_38 (capC K)
  rcases ifs h with ⟨hc1_12, h⟩ | ⟨hc1_12, h⟩
  · refine g_tswIn (pc := 1) (o := 38) (pc' := 39) K.1 d8_1 (by rw [hc1_12]; decide) (by rw [hc1_12]; rfl) (by decide) ?_
    refine g_aloadN (pc := 39) K.1 d8_39 rfl ?_
    refine g_getA (pc := 40) K d8_40 (w36 hw) mf_invQ rfl ?_
    refine g_iloadN (pc := 43) K.1 d8_43 rfl ?_
    obtain ⟨hc44, h⟩ := ifn h
    refine g_iaload (pc := 44) K d8_44 ma_invQ rfl hc44 ?_
    cases h; exact g_ireturn K.1 d8_45 (capC K)
  rcases ifs h with ⟨hc1_13, h⟩ | ⟨hc1_13, h⟩
  · refine g_tswIn (pc := 1) (o := 45) (pc' := 46) K.1 d8_1 (by rw [hc1_13]; decide) (by rw [hc1_13]; rfl) (by decide) ?_
    refine g_aloadN (pc := 46) K.1 d8_46 rfl ?_
    refine g_getA (pc := 47) K d8_47 (w38 hw) mf_lift rfl ?_
    refine g_iloadN (pc := 50) K.1 d8_50 rfl ?_
    obtain ⟨hc51, h⟩ := ifn h
    refine g_iaload (pc := 51) K d8_51 ma_lift rfl hc51 ?_
    cases h; exact g_ireturn K.1 d8_52 (capC K)
  rcases ifs h with ⟨hc1_14, h⟩ | ⟨hc1_14, h⟩
  · refine g_tswIn (pc := 1) (o := 52) (pc' := 53) K.1 d8_1 (by rw [hc1_14]; decide) (by rw [hc1_14]; rfl) (by decide) ?_
    refine g_aloadN (pc := 53) K.1 d8_53 rfl ?_
    refine g_getA (pc := 54) K d8_54 (w40 hw) mf_lift2 rfl ?_
    refine g_iloadN (pc := 57) K.1 d8_57 rfl ?_
    obtain ⟨hc58, h⟩ := ifn h
    refine g_iaload (pc := 58) K d8_58 ma_lift2 rfl hc58 ?_
    cases h; exact g_ireturn K.1 d8_59 (capC K)
  refine g_tswOut (pc := 1) (pc' := 60) K.1 d8_1 (by have q11 : (v1).toInt ≠ 11 := fun q => hc1_11 (Int32.toInt_inj.mp q); have q12 : (v1).toInt ≠ 12 := fun q => hc1_12 (Int32.toInt_inj.mp q); have q13 : (v1).toInt ≠ 13 := fun q => hc1_13 (Int32.toInt_inj.mp q); have q14 : (v1).toInt ≠ 14 := fun q => hc1_14 (Int32.toInt_inj.mp q); omega) (by decide) ?_
  refine g_iconst (pc := 60) (v := 0) K.1 d8_60 (by decide) ?_
  cases h; exact g_ireturn K.1 d8_61 (capC K)
theorem con_M_loadScratch (l : Launch) (Z : State) (a0 : Array Value) (hw : HW a0 Z) (n1 : Nat) (a : Addr) (ha : n1 ≤ a) {σ : St} {v1 : Int32} {v2 : Int32} {r : Int32 × St} (h : M_loadScratch σ v1 v2 = some r) : Con l Z cC cFS cFA 16 n1 a ⟨cC, "loadScratch", "(II)I"⟩ c8 3 (some .int) ⟨0, 0, 0, 0⟩ [.ref 0, .int v1, .int v2] σ (some (.int r.1)) r.2 :=
  con_of_go pnC rfl (layW hw) lgood ha (fun X h1 K => ok_M_loadScratch K hw h)
abbrev KM_M_load (X : Cx (St × Nat)) (Z : State) (a0 : Array Value) (l : Launch) (n1 : Nat) (a : Addr) (h0 : Heap) : Prop := CtxC X Z a0 cC cFS cFA 16 25 l n1 a h0 ce0 ⟨1, 0, 0, 14⟩ "load" c6 3 (some .int)
def M_load (σ : St) (v1 : Int32) (v2 : Int32) : Option (Int32 × St) :=
  (if v2 < 0 then (some ((0 : Int32), σ)) else (if v2 < (17 : Int32) then (if v1 < (11 : Int32) then ((M_loadHeld σ v1 v2).bind fun q28 => (some (q28.1, q28.2))) else ((M_loadScratch σ v1 v2).bind fun q21 => (some (q21.1, q21.2)))) else (some ((0 : Int32), σ))))
theorem ok_M_load {X : Cx (St × Nat)} {Z : State} {a0 : Array Value} {l : Launch} {n1 : Nat} {a : Addr} {h0 : Heap} (K : KM_M_load X Z a0 l n1 a h0) (hw : HW a0 Z) {σ : St} {v1 : Int32} {v2 : Int32} {r : Int32 × St} (h : M_load σ v1 v2 = some r) : Go X (some (.int r.1), (r.2, 16)) 0 [some (.ref 0), some (.int v1), some (.int v2)] [] (σ, 16) := by
  unfold M_load at h
  refine g_iloadN (pc := 0) K.1 d6_0 rfl ?_
  rcases ifs h with ⟨hc1, h⟩ | ⟨hc1, h⟩
  · refine g_ifT (pc := 1) (pc' := 10) K.1 d6_1 (by decide) ((if0 _ _).trans (tlt hc1).1) ?_
    refine g_iconst (pc := 10) (v := 0) K.1 d6_10 (by decide) ?_
    cases h; exact g_ireturn K.1 d6_11 (capC K)
  refine g_ifF (pc := 1) K.1 d6_1 ((if0 _ _).trans (flt hc1).1) ?_
  refine g_iloadN (pc := 4) K.1 d6_4 rfl ?_
  refine g_bipush (pc := 5) (v := 17) K.1 d6_5 (by decide) ?_
  rcases ifs h with ⟨hc7, h⟩ | ⟨hc7, h⟩
  · refine g_icT (pc := 7) (pc' := 12) K.1 d6_7 (by decide) ((tlt hc7).1) ?_
    refine g_iloadN (pc := 12) K.1 d6_12 rfl ?_
    refine g_bipush (pc := 13) (v := 11) K.1 d6_13 (by decide) ?_
    rcases ifs h with ⟨hc15, h⟩ | ⟨hc15, h⟩
    · refine g_icT (pc := 15) (pc' := 25) K.1 d6_15 (by decide) ((tlt hc15).1) ?_
      refine g_aloadN (pc := 25) K.1 d6_25 rfl ?_
      refine g_iloadN (pc := 26) K.1 d6_26 rfl ?_
      refine g_iloadN (pc := 27) K.1 d6_27 rfl ?_
      obtain ⟨q28, hq28, h⟩ := Option.bind_eq_some_iff.mp h
      refine g_callP (pc := 28) (vs := [.int v1, .int v2]) K d6_28 (w101 hw) (w102 hw) (w103 hw) (w104 hw) hyC pd_0 rfl rfl (con_M_loadHeld l Z a0 hw n1 a (ctx_le K) hq28) rfl (Nat.le_of_ble_eq_true rfl) (Nat.le_of_ble_eq_true rfl) rfl rfl ?_
      cases h; exact g_ireturn K.1 d6_31 (capC K)
    refine g_icF (pc := 15) K.1 d6_15 ((flt hc15).1) ?_
    refine g_aloadN (pc := 18) K.1 d6_18 rfl ?_
    refine g_iloadN (pc := 19) K.1 d6_19 rfl ?_
    refine g_iloadN (pc := 20) K.1 d6_20 rfl ?_
    obtain ⟨q21, hq21, h⟩ := Option.bind_eq_some_iff.mp h
    refine g_callP (pc := 21) (vs := [.int v1, .int v2]) K d6_21 (w248 hw) (w249 hw) (w250 hw) (w251 hw) hyC pd_0 rfl rfl (con_M_loadScratch l Z a0 hw n1 a (ctx_le K) hq21) rfl (Nat.le_of_ble_eq_true rfl) (Nat.le_of_ble_eq_true rfl) rfl rfl ?_
    cases h; exact g_ireturn K.1 d6_24 (capC K)
  refine g_icF (pc := 7) K.1 d6_7 ((flt hc7).1) ?_
  refine g_iconst (pc := 10) (v := 0) K.1 d6_10 (by decide) ?_
  cases h; exact g_ireturn K.1 d6_11 (capC K)
theorem con_M_load (l : Launch) (Z : State) (a0 : Array Value) (hw : HW a0 Z) (n1 : Nat) (a : Addr) (ha : n1 ≤ a) {σ : St} {v1 : Int32} {v2 : Int32} {r : Int32 × St} (h : M_load σ v1 v2 = some r) : Con l Z cC cFS cFA 16 n1 a ⟨cC, "load", "(II)I"⟩ c6 3 (some .int) ⟨1, 0, 0, 14⟩ [.ref 0, .int v1, .int v2] σ (some (.int r.1)) r.2 :=
  con_of_go pnC rfl (layW hw) lgood ha (fun X h1 K => ok_M_load K hw h)
abbrev KM_M_coeff (X : Cx (St × Nat)) (Z : State) (a0 : Array Value) (l : Launch) (n1 : Nat) (a : Addr) (h0 : Heap) : Prop := CtxC X Z a0 cC cFS cFA 16 25 l n1 a h0 ce0 ⟨2, 0, 0, 28⟩ "coeff" c3 3 (some .int)
def M_coeff (σ : St) (v1 : Int32) (v2 : Int32) : Option (Int32 × St) :=
  ((M_isSelector σ v1).bind fun q2 => (if q2.1 = 0 then (some ((0 : Int32), q2.2)) else ((M_isIndex q2.2 v2).bind fun q12 => (if q12.1 = 0 then (some ((0 : Int32), q12.2)) else ((M_load q12.2 v1 v2).bind fun q23 => (some (q23.1, q23.2)))))))
theorem ok_M_coeff {X : Cx (St × Nat)} {Z : State} {a0 : Array Value} {l : Launch} {n1 : Nat} {a : Addr} {h0 : Heap} (K : KM_M_coeff X Z a0 l n1 a h0) (hw : HW a0 Z) {σ : St} {v1 : Int32} {v2 : Int32} {r : Int32 × St} (h : M_coeff σ v1 v2 = some r) : Go X (some (.int r.1), (r.2, 16)) 0 [some (.ref 0), some (.int v1), some (.int v2)] [] (σ, 16) := by
  unfold M_coeff at h
  refine g_aloadN (pc := 0) K.1 d3_0 rfl ?_
  refine g_iloadN (pc := 1) K.1 d3_1 rfl ?_
  obtain ⟨q2, hq2, h⟩ := Option.bind_eq_some_iff.mp h
  refine g_callP (pc := 2) (vs := [.int v1]) K d3_2 (w148 hw) (w149 hw) (w150 hw) (w151 hw) hyC pd_1 rfl rfl (con_M_isSelector l Z a0 hw n1 a (ctx_le K) hq2) rfl (Nat.le_of_ble_eq_true rfl) (Nat.le_of_ble_eq_true rfl) rfl rfl ?_
  rcases ifs h with ⟨hc5, h⟩ | ⟨hc5, h⟩
  · refine g_ifF (pc := 5) K.1 d3_5 ((if0 _ _).trans (teq hc5).2) ?_
    refine g_iconst (pc := 8) (v := 0) K.1 d3_8 (by decide) ?_
    cases h; exact g_ireturn K.1 d3_9 (capC K)
  refine g_ifT (pc := 5) (pc' := 10) K.1 d3_5 (by decide) ((if0 _ _).trans (feq hc5).2) ?_
  refine g_aloadN (pc := 10) K.1 d3_10 rfl ?_
  refine g_iloadN (pc := 11) K.1 d3_11 rfl ?_
  obtain ⟨q12, hq12, h⟩ := Option.bind_eq_some_iff.mp h
  refine g_callP (pc := 12) (vs := [.int v2]) K d3_12 (w152 hw) (w153 hw) (w154 hw) (w155 hw) hyC pd_1 rfl rfl (con_M_isIndex l Z a0 hw n1 a (ctx_le K) hq12) rfl (Nat.le_of_ble_eq_true rfl) (Nat.le_of_ble_eq_true rfl) rfl rfl ?_
  rcases ifs h with ⟨hc15, h⟩ | ⟨hc15, h⟩
  · refine g_ifF (pc := 15) K.1 d3_15 ((if0 _ _).trans (teq hc15).2) ?_
    refine g_iconst (pc := 18) (v := 0) K.1 d3_18 (by decide) ?_
    cases h; exact g_ireturn K.1 d3_19 (capC K)
  refine g_ifT (pc := 15) (pc' := 20) K.1 d3_15 (by decide) ((if0 _ _).trans (feq hc15).2) ?_
  refine g_aloadN (pc := 20) K.1 d3_20 rfl ?_
  refine g_iloadN (pc := 21) K.1 d3_21 rfl ?_
  refine g_iloadN (pc := 22) K.1 d3_22 rfl ?_
  obtain ⟨q23, hq23, h⟩ := Option.bind_eq_some_iff.mp h
  refine g_callP (pc := 23) (vs := [.int v1, .int v2]) K d3_23 (w97 hw) (w98 hw) (w99 hw) (w100 hw) hyC pd_0 rfl rfl (con_M_load l Z a0 hw n1 a (ctx_le K) hq23) rfl (Nat.le_of_ble_eq_true rfl) (Nat.le_of_ble_eq_true rfl) rfl rfl ?_
  cases h; exact g_ireturn K.1 d3_26 (capC K)
theorem con_M_coeff (l : Launch) (Z : State) (a0 : Array Value) (hw : HW a0 Z) (n1 : Nat) (a : Addr) (ha : n1 ≤ a) {σ : St} {v1 : Int32} {v2 : Int32} {r : Int32 × St} (h : M_coeff σ v1 v2 = some r) : Con l Z cC cFS cFA 16 n1 a ⟨cC, "coeff", "(II)I"⟩ c3 3 (some .int) ⟨2, 0, 0, 28⟩ [.ref 0, .int v1, .int v2] σ (some (.int r.1)) r.2 :=
  con_of_go pnC rfl (layW hw) lgood ha (fun X h1 K => ok_M_coeff K hw h)
abbrev KM_M_hasKey (X : Cx (St × Nat)) (Z : State) (a0 : Array Value) (l : Launch) (n1 : Nat) (a : Addr) (h0 : Heap) : Prop := CtxC X Z a0 cC cFS cFA 16 25 l n1 a h0 ce0 ⟨0, 0, 0, 0⟩ "hasKey" c9 1 (some .boolean)
def M_hasKey (σ : St) : Option (Int32 × St) :=
  (some ((nar .boolean (gI σ 124)), σ))
theorem ok_M_hasKey {X : Cx (St × Nat)} {Z : State} {a0 : Array Value} {l : Launch} {n1 : Nat} {a : Addr} {h0 : Heap} (K : KM_M_hasKey X Z a0 l n1 a h0) (hw : HW a0 Z) {σ : St} {r : Int32 × St} (h : M_hasKey σ = some r) : Go X (some (.int r.1), (r.2, 16)) 0 [some (.ref 0)] [] (σ, 16) := by
  unfold M_hasKey at h
  refine g_aloadN (pc := 0) K.1 d9_0 rfl ?_
  refine g_getI (pc := 1) K d9_1 (w64 hw) mf_keyed ?_
  cases h; exact g_ireturnN (t := .boolean) K.1 rfl (Or.inl rfl) d9_4 rfl (capC K)
theorem con_M_hasKey (l : Launch) (Z : State) (a0 : Array Value) (hw : HW a0 Z) (n1 : Nat) (a : Addr) (ha : n1 ≤ a) {σ : St} {r : Int32 × St} (h : M_hasKey σ = some r) : Con l Z cC cFS cFA 16 n1 a ⟨cC, "hasKey", "()Z"⟩ c9 1 (some .boolean) ⟨0, 0, 0, 0⟩ [.ref 0] σ (some (.int r.1)) r.2 :=
  con_of_go pnC rfl (layW hw) lgood ha (fun X h1 K => ok_M_hasKey K hw h)
abbrev KM_M_keyCount (X : Cx (St × Nat)) (Z : State) (a0 : Array Value) (l : Launch) (n1 : Nat) (a : Addr) (h0 : Heap) : Prop := CtxC X Z a0 cC cFS cFA 16 25 l n1 a h0 ce0 ⟨0, 0, 0, 0⟩ "keyCount" c10 1 (some .int)
def M_keyCount (σ : St) : Option (Int32 × St) :=
  (some ((gI σ 125), σ))
theorem ok_M_keyCount {X : Cx (St × Nat)} {Z : State} {a0 : Array Value} {l : Launch} {n1 : Nat} {a : Addr} {h0 : Heap} (K : KM_M_keyCount X Z a0 l n1 a h0) (hw : HW a0 Z) {σ : St} {r : Int32 × St} (h : M_keyCount σ = some r) : Go X (some (.int r.1), (r.2, 16)) 0 [some (.ref 0)] [] (σ, 16) := by
  unfold M_keyCount at h
  refine g_aloadN (pc := 0) K.1 d10_0 rfl ?_
  refine g_getI (pc := 1) K d10_1 (w66 hw) mf_keys ?_
  cases h; exact g_ireturn K.1 d10_4 (capC K)
theorem con_M_keyCount (l : Launch) (Z : State) (a0 : Array Value) (hw : HW a0 Z) (n1 : Nat) (a : Addr) (ha : n1 ≤ a) {σ : St} {r : Int32 × St} (h : M_keyCount σ = some r) : Con l Z cC cFS cFA 16 n1 a ⟨cC, "keyCount", "()I"⟩ c10 1 (some .int) ⟨0, 0, 0, 0⟩ [.ref 0] σ (some (.int r.1)) r.2 :=
  con_of_go pnC rfl (layW hw) lgood ha (fun X h1 K => ok_M_keyCount K hw h)
abbrev KM_H_same (X : Cx (List (St × Nat))) (Z : State) (a0 : Array Value) (l : Launch) (n1 : Nat) (sc : Addr) (H0 : Heap) : Prop := CtxL X Z a0 cC cFS cFA 16 25 l n1 sc H0 ceS ⟨3, 0, 0, 43⟩ 0 0 "NtruToyL5" "same" c2 4 (some .boolean)
def H_same_w36 (NF : Nat) (z : Int32) (f : Int → Int32) (k28 : Int32 → St → St → Option (Int32 × St × St)) (k36 : Int32 → Int32 → St → St → Option (Int32 × St × St)) (i2 : Int32) (i3 : Int32) (x0 : St) (x1 : St) : Option (Int32 × St × St) :=
  (if i3 < (5 : Int32) then ((M_coeff x0 i2 i3).bind fun q44 => ((M_coeff x1 i2 i3).bind fun q50 => (if q44.1 = q50.1 then k36 i2 (i3 + (1 : Int32)) q44.2 q50.2 else (some ((0 : Int32), q44.2, q50.2))))) else k28 (i2 + (1 : Int32)) x0 x1)
theorem ok_H_same_w36 {X : Cx (List (St × Nat))} {Z : State} {a0 : Array Value} {l : Launch} {n1 : Nat} {sc : Addr} {H0 : Heap} {NF : Nat} {z : Int32} {f : Int → Int32} (K : KM_H_same X Z a0 l n1 sc H0) (hw : HW a0 Z) (hS : Script Z H0 sc z f) {k28 : Int32 → St → St → Option (Int32 × St × St)} {k36 : Int32 → Int32 → St → St → Option (Int32 × St × St)} {i2 : Int32} {i3 : Int32} {x0 : St} {x1 : St} {r : Int32 × St × St} (hk28 : ∀ (i2 : Int32) (x0 : St) (x1 : St) (h : k28 i2 x0 x1 = some r), Go X (some (.int r.1), [(r.2.1, 16), (r.2.2, 16)]) 28 [some (.ref 0), some (.ref 1), some (.int i2), none] [] [(x0, 16), (x1, 16)]) (hk36 : ∀ (i2 : Int32) (i3 : Int32) (x0 : St) (x1 : St) (h : k36 i2 i3 x0 x1 = some r), Go X (some (.int r.1), [(r.2.1, 16), (r.2.2, 16)]) 36 [some (.ref 0), some (.ref 1), some (.int i2), some (.int i3)] [] [(x0, 16), (x1, 16)]) (h : H_same_w36 NF z f k28 k36 i2 i3 x0 x1 = some r) : Go X (some (.int r.1), [(r.2.1, 16), (r.2.2, 16)]) 36 [some (.ref 0), some (.ref 1), some (.int i2), some (.int i3)] [] [(x0, 16), (x1, 16)] := by
  unfold H_same_w36 at h
  refine g_iloadN (pc := 36) K.1 d2_36 rfl ?_
  refine g_iconst (pc := 37) (v := 5) K.1 d2_37 (by decide) ?_
  rcases ifs h with ⟨hc38, h⟩ | ⟨hc38, h⟩
  · refine g_icF (pc := 38) K.1 d2_38 ((tlt hc38).2.1) ?_
    refine g_aloadN (pc := 41) K.1 d2_41 rfl ?_
    refine g_iloadN (pc := 42) K.1 d2_42 rfl ?_
    refine g_iloadN (pc := 43) K.1 d2_43 rfl ?_
    obtain ⟨q44, hq44, h⟩ := Option.bind_eq_some_iff.mp h
    refine l_call (pc := 44) (vs := [.int i2, .int i3]) (i := 0) (W' := [(q44.2, 16), (x1, 16)]) K d2_44 (w143 hw) (w145 hw) (w144 hw) (w146 hw) (w147 hw) hyC pd_0 (by intro v q; simp only [List.mem_cons, List.not_mem_nil, or_false] at q; rcases q with rfl | rfl <;> rfl) (by decide) rfl rfl (fun _ q => by cases q; rfl) rfl rfl (con_M_coeff l Z a0 hw n1 _ (Nat.le_add_right _ _) hq44) rfl (ble rfl) (ble rfl) rfl rfl rfl (ble rfl) (ble rfl) ?_
    refine g_aloadN (pc := 47) K.1 d2_47 rfl ?_
    refine g_iloadN (pc := 48) K.1 d2_48 rfl ?_
    refine g_iloadN (pc := 49) K.1 d2_49 rfl ?_
    obtain ⟨q50, hq50, h⟩ := Option.bind_eq_some_iff.mp h
    refine l_call (pc := 50) (vs := [.int i2, .int i3]) (i := 1) (W' := [(q44.2, 16), (q50.2, 16)]) K d2_50 (w143 hw) (w145 hw) (w144 hw) (w146 hw) (w147 hw) hyC pd_0 (by intro v q; simp only [List.mem_cons, List.not_mem_nil, or_false] at q; rcases q with rfl | rfl <;> rfl) (by decide) rfl rfl (fun _ q => by cases q; rfl) rfl rfl (con_M_coeff l Z a0 hw n1 _ (Nat.le_add_right _ _) hq50) rfl (ble rfl) (ble rfl) rfl rfl rfl (ble rfl) (ble rfl) ?_
    rcases ifs h with ⟨hc53, h⟩ | ⟨hc53, h⟩
    · refine g_icT (pc := 53) (pc' := 58) K.1 d2_53 (by decide) ((teq hc53).1) ?_
      refine g_iinc (pc := 58) (w := 1) (L' := [some (.ref 0), some (.ref 1), some (.int i2), some (.int (i3 + (1 : Int32)))]) K.1 d2_58 rfl (by decide) rfl ?_
      refine g_goto (pc := 61) (pc' := 36) K.1 d2_61 (by decide) ?_
      exact hk36 _ _ _ _ h
    refine g_icF (pc := 53) K.1 d2_53 ((feq hc53).1) ?_
    refine g_iconst (pc := 56) (v := 0) K.1 d2_56 (by decide) ?_
    cases h; exact g_ireturnN (t := .boolean) K.1 rfl (Or.inl rfl) d2_57 rfl (capL K (ble rfl) (ble rfl))
  refine g_icT (pc := 38) (pc' := 64) K.1 d2_38 (by decide) ((flt hc38).2.1) ?_
  refine g_iinc (pc := 64) (w := 1) (L' := [some (.ref 0), some (.ref 1), some (.int (i2 + (1 : Int32))), some (.int i3)]) K.1 d2_64 rfl (by decide) rfl ?_
  refine g_goto (pc := 67) (pc' := 28) K.1 d2_67 (by decide) ?_
  exact g_less (hk28 _ _ _ h) (ls (ls (ls (ln l0))))
def H_same_l36 (NF : Nat) (z : Int32) (f : Int → Int32) (k28 : Int32 → St → St → Option (Int32 × St × St)) : Nat → Int32 → Int32 → St → St → Option (Int32 × St × St)
  | 0 => fun _ _ _ _ => none
  | n + 1 => fun i2 i3 x0 x1 => H_same_w36 NF z f k28 (H_same_l36 NF z f k28 n) i2 i3 x0 x1
theorem ok_H_same_l36 {X : Cx (List (St × Nat))} {Z : State} {a0 : Array Value} {l : Launch} {n1 : Nat} {sc : Addr} {H0 : Heap} {NF : Nat} {z : Int32} {f : Int → Int32} (K : KM_H_same X Z a0 l n1 sc H0) (hw : HW a0 Z) (hS : Script Z H0 sc z f) (n : Nat) {k28 : Int32 → St → St → Option (Int32 × St × St)} {r : Int32 × St × St} (hk28 : ∀ (i2 : Int32) (x0 : St) (x1 : St) (h : k28 i2 x0 x1 = some r), Go X (some (.int r.1), [(r.2.1, 16), (r.2.2, 16)]) 28 [some (.ref 0), some (.ref 1), some (.int i2), none] [] [(x0, 16), (x1, 16)]) : ∀ (i2 : Int32) (i3 : Int32) (x0 : St) (x1 : St) (h : H_same_l36 NF z f k28 n i2 i3 x0 x1 = some r), Go X (some (.int r.1), [(r.2.1, 16), (r.2.2, 16)]) 36 [some (.ref 0), some (.ref 1), some (.int i2), some (.int i3)] [] [(x0, 16), (x1, 16)] := by
  induction n with
  | zero => intro i2 i3 x0 x1 h; cases h
  | succ n ih => intro i2 i3 x0 x1 h; exact ok_H_same_w36 (NF := NF) K hw hS hk28 ih h
def H_same_w28 (NF : Nat) (z : Int32) (f : Int → Int32) (k28 : Int32 → St → St → Option (Int32 × St × St)) (i2 : Int32) (x0 : St) (x1 : St) : Option (Int32 × St × St) :=
  (if i2 < (11 : Int32) then H_same_l36 NF z f k28 NF i2 (0 : Int32) x0 x1 else (some ((1 : Int32), x0, x1)))
theorem ok_H_same_w28 {X : Cx (List (St × Nat))} {Z : State} {a0 : Array Value} {l : Launch} {n1 : Nat} {sc : Addr} {H0 : Heap} {NF : Nat} {z : Int32} {f : Int → Int32} (K : KM_H_same X Z a0 l n1 sc H0) (hw : HW a0 Z) (hS : Script Z H0 sc z f) {k28 : Int32 → St → St → Option (Int32 × St × St)} {i2 : Int32} {x0 : St} {x1 : St} {r : Int32 × St × St} (hk28 : ∀ (i2 : Int32) (x0 : St) (x1 : St) (h : k28 i2 x0 x1 = some r), Go X (some (.int r.1), [(r.2.1, 16), (r.2.2, 16)]) 28 [some (.ref 0), some (.ref 1), some (.int i2), none] [] [(x0, 16), (x1, 16)]) (h : H_same_w28 NF z f k28 i2 x0 x1 = some r) : Go X (some (.int r.1), [(r.2.1, 16), (r.2.2, 16)]) 28 [some (.ref 0), some (.ref 1), some (.int i2), none] [] [(x0, 16), (x1, 16)] := by
  unfold H_same_w28 at h
  refine g_iloadN (pc := 28) K.1 d2_28 rfl ?_
  refine g_bipush (pc := 29) (v := 11) K.1 d2_29 (by decide) ?_
  rcases ifs h with ⟨hc31, h⟩ | ⟨hc31, h⟩
  · refine g_icF (pc := 31) K.1 d2_31 ((tlt hc31).2.1) ?_
    refine g_iconst (pc := 34) (v := 0) K.1 d2_34 (by decide) ?_
    refine g_istoreN (pc := 35) (L' := [some (.ref 0), some (.ref 1), some (.int i2), some (.int (0 : Int32))]) K.1 d2_35 (blt rfl) rfl ?_
    exact ok_H_same_l36 K hw hS NF hk28 _ _ _ _ h
  refine g_icT (pc := 31) (pc' := 70) K.1 d2_31 (by decide) ((flt hc31).2.1) ?_
  refine g_iconst (pc := 70) (v := 1) K.1 d2_70 (by decide) ?_
  cases h; exact g_ireturnN (t := .boolean) K.1 rfl (Or.inl rfl) d2_71 rfl (capL K (ble rfl) (ble rfl))
def H_same_l28 (NF : Nat) (z : Int32) (f : Int → Int32)  : Nat → Int32 → St → St → Option (Int32 × St × St)
  | 0 => fun _ _ _ => none
  | n + 1 => fun i2 x0 x1 => H_same_w28 NF z f  (H_same_l28 NF z f  n) i2 x0 x1
theorem ok_H_same_l28 {X : Cx (List (St × Nat))} {Z : State} {a0 : Array Value} {l : Launch} {n1 : Nat} {sc : Addr} {H0 : Heap} {NF : Nat} {z : Int32} {f : Int → Int32} (K : KM_H_same X Z a0 l n1 sc H0) (hw : HW a0 Z) (hS : Script Z H0 sc z f) (n : Nat)  {r : Int32 × St × St}  : ∀ (i2 : Int32) (x0 : St) (x1 : St) (h : H_same_l28 NF z f  n i2 x0 x1 = some r), Go X (some (.int r.1), [(r.2.1, 16), (r.2.2, 16)]) 28 [some (.ref 0), some (.ref 1), some (.int i2), none] [] [(x0, 16), (x1, 16)] := by
  induction n with
  | zero => intro i2 x0 x1 h; cases h
  | succ n ih => intro i2 x0 x1 h; exact ok_H_same_w28 (NF := NF) K hw hS  ih h
def H_same (NF : Nat) (z : Int32) (f : Int → Int32) (x0 : St) (x1 : St) : Option (Int32 × St × St) :=
  ((M_hasKey x0).bind fun q1 => ((M_hasKey x1).bind fun q5 => (if q1.1 = q5.1 then ((M_keyCount q1.2).bind fun q14 => ((M_keyCount q5.2).bind fun q18 => (if q14.1 = q18.1 then H_same_l28 NF z f NF (0 : Int32) q14.2 q18.2 else (some ((0 : Int32), q14.2, q18.2))))) else (some ((0 : Int32), q1.2, q5.2)))))
theorem ok_H_same {X : Cx (List (St × Nat))} {Z : State} {a0 : Array Value} {l : Launch} {n1 : Nat} {sc : Addr} {H0 : Heap} {NF : Nat} {z : Int32} {f : Int → Int32} (K : KM_H_same X Z a0 l n1 sc H0) (hw : HW a0 Z) (hS : Script Z H0 sc z f) {x0 : St} {x1 : St} {r : Int32 × St × St} (h : H_same NF z f x0 x1 = some r) : Go X (some (.int r.1), [(r.2.1, 16), (r.2.2, 16)]) 0 [some (.ref 0), some (.ref 1), none, none] [] [(x0, 16), (x1, 16)] := by
  unfold H_same at h
  refine g_aloadN (pc := 0) K.1 d2_0 rfl ?_
  obtain ⟨q1, hq1, h⟩ := Option.bind_eq_some_iff.mp h
  refine l_call (pc := 1) (vs := []) (i := 0) (W' := [(q1.2, 16), (x1, 16)]) K d2_1 (w133 hw) (w135 hw) (w134 hw) (w136 hw) (w137 hw) hyC pd_3 (fun _ q => by cases q) (by decide) rfl rfl (fun _ q => by cases q; rfl) rfl rfl (con_M_hasKey l Z a0 hw n1 _ (Nat.le_add_right _ _) hq1) rfl (ble rfl) (ble rfl) rfl rfl rfl (ble rfl) (ble rfl) ?_
  refine g_aloadN (pc := 4) K.1 d2_4 rfl ?_
  obtain ⟨q5, hq5, h⟩ := Option.bind_eq_some_iff.mp h
  refine l_call (pc := 5) (vs := []) (i := 1) (W' := [(q1.2, 16), (q5.2, 16)]) K d2_5 (w133 hw) (w135 hw) (w134 hw) (w136 hw) (w137 hw) hyC pd_3 (fun _ q => by cases q) (by decide) rfl rfl (fun _ q => by cases q; rfl) rfl rfl (con_M_hasKey l Z a0 hw n1 _ (Nat.le_add_right _ _) hq5) rfl (ble rfl) (ble rfl) rfl rfl rfl (ble rfl) (ble rfl) ?_
  rcases ifs h with ⟨hc8, h⟩ | ⟨hc8, h⟩
  · refine g_icT (pc := 8) (pc' := 13) K.1 d2_8 (by decide) ((teq hc8).1) ?_
    refine g_aloadN (pc := 13) K.1 d2_13 rfl ?_
    obtain ⟨q14, hq14, h⟩ := Option.bind_eq_some_iff.mp h
    refine l_call (pc := 14) (vs := []) (i := 0) (W' := [(q14.2, 16), (q5.2, 16)]) K d2_14 (w138 hw) (w140 hw) (w139 hw) (w141 hw) (w142 hw) hyC pd_2 (fun _ q => by cases q) (by decide) rfl rfl (fun _ q => by cases q; rfl) rfl rfl (con_M_keyCount l Z a0 hw n1 _ (Nat.le_add_right _ _) hq14) rfl (ble rfl) (ble rfl) rfl rfl rfl (ble rfl) (ble rfl) ?_
    refine g_aloadN (pc := 17) K.1 d2_17 rfl ?_
    obtain ⟨q18, hq18, h⟩ := Option.bind_eq_some_iff.mp h
    refine l_call (pc := 18) (vs := []) (i := 1) (W' := [(q14.2, 16), (q18.2, 16)]) K d2_18 (w138 hw) (w140 hw) (w139 hw) (w141 hw) (w142 hw) hyC pd_2 (fun _ q => by cases q) (by decide) rfl rfl (fun _ q => by cases q; rfl) rfl rfl (con_M_keyCount l Z a0 hw n1 _ (Nat.le_add_right _ _) hq18) rfl (ble rfl) (ble rfl) rfl rfl rfl (ble rfl) (ble rfl) ?_
    rcases ifs h with ⟨hc21, h⟩ | ⟨hc21, h⟩
    · refine g_icT (pc := 21) (pc' := 26) K.1 d2_21 (by decide) ((teq hc21).1) ?_
      refine g_iconst (pc := 26) (v := 0) K.1 d2_26 (by decide) ?_
      refine g_istoreN (pc := 27) (L' := [some (.ref 0), some (.ref 1), some (.int (0 : Int32)), none]) K.1 d2_27 (blt rfl) rfl ?_
      exact ok_H_same_l28 K hw hS NF  _ _ _ h
    refine g_icF (pc := 21) K.1 d2_21 ((feq hc21).1) ?_
    refine g_iconst (pc := 24) (v := 0) K.1 d2_24 (by decide) ?_
    cases h; exact g_ireturnN (t := .boolean) K.1 rfl (Or.inl rfl) d2_25 rfl (capL K (ble rfl) (ble rfl))
  refine g_icF (pc := 8) K.1 d2_8 ((feq hc8).1) ?_
  refine g_iconst (pc := 11) (v := 0) K.1 d2_11 (by decide) ?_
  cases h; exact g_ireturnN (t := .boolean) K.1 rfl (Or.inl rfl) d2_12 rfl (capL K (ble rfl) (ble rfl))
theorem con_H_same (l : Launch) (Z : State) (a0 : Array Value) (hw : HW a0 Z) (n1 : Nat) (sc : Addr) (H0 : Heap) {NF : Nat} {z : Int32} {f : Int → Int32} (hS : Script Z H0 sc z f) (hH : H0.size = n1) {x0 : St} {x1 : St} {r : Int32 × St × St} (h : H_same NF z f x0 x1 = some r) : ConL l Z cC cFS cFA 16 n1 sc H0 ⟨"NtruToyL5", "same", "(LNtruToy;LNtruToy;)Z"⟩ c2 4 (some .boolean) ⟨3, 0, 0, 43⟩ [.ref 0, .ref 1] [(x0, 16), (x1, 16)] (some (.int r.1)) [(r.2.1, 16), (r.2.2, 16)] :=
  conl_of_go pnL rfl (layW hw) lgood hH (fun X K => ok_H_same K hw hS h)
abbrev KM_M_isWritable (X : Cx (St × Nat)) (Z : State) (a0 : Array Value) (l : Launch) (n1 : Nat) (a : Addr) (h0 : Heap) : Prop := CtxC X Z a0 cC cFS cFA 16 25 l n1 a h0 ce0 ⟨0, 0, 0, 0⟩ "isWritable" c12 2 (some .boolean)
def M_isWritable (σ : St) (v1 : Int32) : Option (Int32 × St) :=
  (if v1 < 0 then (some ((0 : Int32), σ)) else (if (4 : Int32) < v1 then (some ((0 : Int32), σ)) else (some ((1 : Int32), σ))))
theorem ok_M_isWritable {X : Cx (St × Nat)} {Z : State} {a0 : Array Value} {l : Launch} {n1 : Nat} {a : Addr} {h0 : Heap} (K : KM_M_isWritable X Z a0 l n1 a h0) (hw : HW a0 Z) {σ : St} {v1 : Int32} {r : Int32 × St} (h : M_isWritable σ v1 = some r) : Go X (some (.int r.1), (r.2, 16)) 0 [some (.ref 0), some (.int v1)] [] (σ, 16) := by
  unfold M_isWritable at h
  refine g_iloadN (pc := 0) K.1 d12_0 rfl ?_
  rcases ifs h with ⟨hc1, h⟩ | ⟨hc1, h⟩
  · refine g_ifT (pc := 1) (pc' := 13) K.1 d12_1 (by decide) ((if0 _ _).trans (tlt hc1).1) ?_
    refine g_iconst (pc := 13) (v := 0) K.1 d12_13 (by decide) ?_
    cases h; exact g_ireturnN (t := .boolean) K.1 rfl (Or.inl rfl) d12_14 rfl (capC K)
  refine g_ifF (pc := 1) K.1 d12_1 ((if0 _ _).trans (flt hc1).1) ?_
  refine g_iloadN (pc := 4) K.1 d12_4 rfl ?_
  refine g_iconst (pc := 5) (v := 4) K.1 d12_5 (by decide) ?_
  rcases ifs h with ⟨hc6, h⟩ | ⟨hc6, h⟩
  · refine g_icT (pc := 6) (pc' := 13) K.1 d12_6 (by decide) ((tlt hc6).2.2.1) ?_
    refine g_iconst (pc := 13) (v := 0) K.1 d12_13 (by decide) ?_
    cases h; exact g_ireturnN (t := .boolean) K.1 rfl (Or.inl rfl) d12_14 rfl (capC K)
  refine g_icF (pc := 6) K.1 d12_6 ((flt hc6).2.2.1) ?_
  refine g_iconst (pc := 9) (v := 1) K.1 d12_9 (by decide) ?_
  refine g_goto (pc := 10) (pc' := 14) K.1 d12_10 (by decide) ?_
  cases h; exact g_ireturnN (t := .boolean) K.1 rfl (Or.inl rfl) d12_14 rfl (capC K)
theorem con_M_isWritable (l : Launch) (Z : State) (a0 : Array Value) (hw : HW a0 Z) (n1 : Nat) (a : Addr) (ha : n1 ≤ a) {σ : St} {v1 : Int32} {r : Int32 × St} (h : M_isWritable σ v1 = some r) : Con l Z cC cFS cFA 16 n1 a ⟨cC, "isWritable", "(I)Z"⟩ c12 2 (some .boolean) ⟨0, 0, 0, 0⟩ [.ref 0, .int v1] σ (some (.int r.1)) r.2 :=
  con_of_go pnC rfl (layW hw) lgood ha (fun X h1 K => ok_M_isWritable K hw h)
abbrev KM_M_isCipherValue (X : Cx (St × Nat)) (Z : State) (a0 : Array Value) (l : Launch) (n1 : Nat) (a : Addr) (h0 : Heap) : Prop := CtxC X Z a0 cC cFS cFA 16 25 l n1 a h0 ce0 ⟨0, 0, 0, 0⟩ "isCipherValue" c14 2 (some .boolean)
def M_isCipherValue (σ : St) (v1 : Int32) : Option (Int32 × St) :=
  (if v1 < 0 then (some ((0 : Int32), σ)) else (if v1 < (gI σ 122) then (some ((1 : Int32), σ)) else (some ((0 : Int32), σ))))
theorem ok_M_isCipherValue {X : Cx (St × Nat)} {Z : State} {a0 : Array Value} {l : Launch} {n1 : Nat} {a : Addr} {h0 : Heap} (K : KM_M_isCipherValue X Z a0 l n1 a h0) (hw : HW a0 Z) {σ : St} {v1 : Int32} {r : Int32 × St} (h : M_isCipherValue σ v1 = some r) : Go X (some (.int r.1), (r.2, 16)) 0 [some (.ref 0), some (.int v1)] [] (σ, 16) := by
  unfold M_isCipherValue at h
  refine g_iloadN (pc := 0) K.1 d14_0 rfl ?_
  rcases ifs h with ⟨hc1, h⟩ | ⟨hc1, h⟩
  · refine g_ifT (pc := 1) (pc' := 16) K.1 d14_1 (by decide) ((if0 _ _).trans (tlt hc1).1) ?_
    refine g_iconst (pc := 16) (v := 0) K.1 d14_16 (by decide) ?_
    cases h; exact g_ireturnN (t := .boolean) K.1 rfl (Or.inl rfl) d14_17 rfl (capC K)
  refine g_ifF (pc := 1) K.1 d14_1 ((if0 _ _).trans (flt hc1).1) ?_
  refine g_iloadN (pc := 4) K.1 d14_4 rfl ?_
  refine g_aloadN (pc := 5) K.1 d14_5 rfl ?_
  refine g_getI (pc := 6) K d14_6 (w60 hw) mf_q ?_
  rcases ifs h with ⟨hc9, h⟩ | ⟨hc9, h⟩
  · refine g_icF (pc := 9) K.1 d14_9 ((tlt hc9).2.1) ?_
    refine g_iconst (pc := 12) (v := 1) K.1 d14_12 (by decide) ?_
    refine g_goto (pc := 13) (pc' := 17) K.1 d14_13 (by decide) ?_
    cases h; exact g_ireturnN (t := .boolean) K.1 rfl (Or.inl rfl) d14_17 rfl (capC K)
  refine g_icT (pc := 9) (pc' := 16) K.1 d14_9 (by decide) ((flt hc9).2.1) ?_
  refine g_iconst (pc := 16) (v := 0) K.1 d14_16 (by decide) ?_
  cases h; exact g_ireturnN (t := .boolean) K.1 rfl (Or.inl rfl) d14_17 rfl (capC K)
theorem con_M_isCipherValue (l : Launch) (Z : State) (a0 : Array Value) (hw : HW a0 Z) (n1 : Nat) (a : Addr) (ha : n1 ≤ a) {σ : St} {v1 : Int32} {r : Int32 × St} (h : M_isCipherValue σ v1 = some r) : Con l Z cC cFS cFA 16 n1 a ⟨cC, "isCipherValue", "(I)Z"⟩ c14 2 (some .boolean) ⟨0, 0, 0, 0⟩ [.ref 0, .int v1] σ (some (.int r.1)) r.2 :=
  con_of_go pnC rfl (layW hw) lgood ha (fun X h1 K => ok_M_isCipherValue K hw h)
abbrev KM_M_isTernary (X : Cx (St × Nat)) (Z : State) (a0 : Array Value) (l : Launch) (n1 : Nat) (a : Addr) (h0 : Heap) : Prop := CtxC X Z a0 cC cFS cFA 16 25 l n1 a h0 ce0 ⟨0, 0, 0, 0⟩ "isTernary" c15 2 (some .boolean)
def M_isTernary (σ : St) (v1 : Int32) : Option (Int32 × St) :=
  (if v1 < (-1 : Int32) then (some ((0 : Int32), σ)) else (if (1 : Int32) < v1 then (some ((0 : Int32), σ)) else (some ((1 : Int32), σ))))
theorem ok_M_isTernary {X : Cx (St × Nat)} {Z : State} {a0 : Array Value} {l : Launch} {n1 : Nat} {a : Addr} {h0 : Heap} (K : KM_M_isTernary X Z a0 l n1 a h0) (hw : HW a0 Z) {σ : St} {v1 : Int32} {r : Int32 × St} (h : M_isTernary σ v1 = some r) : Go X (some (.int r.1), (r.2, 16)) 0 [some (.ref 0), some (.int v1)] [] (σ, 16) := by
  unfold M_isTernary at h
  refine g_iloadN (pc := 0) K.1 d15_0 rfl ?_
  refine g_iconst (pc := 1) (v := -1) K.1 d15_1 (by decide) ?_
  rcases ifs h with ⟨hc2, h⟩ | ⟨hc2, h⟩
  · refine g_icT (pc := 2) (pc' := 14) K.1 d15_2 (by decide) ((tlt hc2).1) ?_
    refine g_iconst (pc := 14) (v := 0) K.1 d15_14 (by decide) ?_
    cases h; exact g_ireturnN (t := .boolean) K.1 rfl (Or.inl rfl) d15_15 rfl (capC K)
  refine g_icF (pc := 2) K.1 d15_2 ((flt hc2).1) ?_
  refine g_iloadN (pc := 5) K.1 d15_5 rfl ?_
  refine g_iconst (pc := 6) (v := 1) K.1 d15_6 (by decide) ?_
  rcases ifs h with ⟨hc7, h⟩ | ⟨hc7, h⟩
  · refine g_icT (pc := 7) (pc' := 14) K.1 d15_7 (by decide) ((tlt hc7).2.2.1) ?_
    refine g_iconst (pc := 14) (v := 0) K.1 d15_14 (by decide) ?_
    cases h; exact g_ireturnN (t := .boolean) K.1 rfl (Or.inl rfl) d15_15 rfl (capC K)
  refine g_icF (pc := 7) K.1 d15_7 ((flt hc7).2.2.1) ?_
  refine g_iconst (pc := 10) (v := 1) K.1 d15_10 (by decide) ?_
  refine g_goto (pc := 11) (pc' := 15) K.1 d15_11 (by decide) ?_
  cases h; exact g_ireturnN (t := .boolean) K.1 rfl (Or.inl rfl) d15_15 rfl (capC K)
theorem con_M_isTernary (l : Launch) (Z : State) (a0 : Array Value) (hw : HW a0 Z) (n1 : Nat) (a : Addr) (ha : n1 ≤ a) {σ : St} {v1 : Int32} {r : Int32 × St} (h : M_isTernary σ v1 = some r) : Con l Z cC cFS cFA 16 n1 a ⟨cC, "isTernary", "(I)Z"⟩ c15 2 (some .boolean) ⟨0, 0, 0, 0⟩ [.ref 0, .int v1] σ (some (.int r.1)) r.2 :=
  con_of_go pnC rfl (layW hw) lgood ha (fun X h1 K => ok_M_isTernary K hw h)
abbrev KM_M_acceptsValue (X : Cx (St × Nat)) (Z : State) (a0 : Array Value) (l : Launch) (n1 : Nat) (a : Addr) (h0 : Heap) : Prop := CtxC X Z a0 cC cFS cFA 16 25 l n1 a h0 ce0 ⟨1, 0, 0, 13⟩ "acceptsValue" c13 3 (some .boolean)
def M_acceptsValue (σ : St) (v1 : Int32) (v2 : Int32) : Option (Int32 × St) :=
  (if v1 = (4 : Int32) then ((M_isCipherValue σ v2).bind fun q7 => (some ((nar .boolean q7.1), q7.2))) else ((M_isTernary σ v2).bind fun q13 => (some ((nar .boolean q13.1), q13.2))))
theorem ok_M_acceptsValue {X : Cx (St × Nat)} {Z : State} {a0 : Array Value} {l : Launch} {n1 : Nat} {a : Addr} {h0 : Heap} (K : KM_M_acceptsValue X Z a0 l n1 a h0) (hw : HW a0 Z) {σ : St} {v1 : Int32} {v2 : Int32} {r : Int32 × St} (h : M_acceptsValue σ v1 v2 = some r) : Go X (some (.int r.1), (r.2, 16)) 0 [some (.ref 0), some (.int v1), some (.int v2)] [] (σ, 16) := by
  unfold M_acceptsValue at h
  refine g_iloadN (pc := 0) K.1 d13_0 rfl ?_
  refine g_iconst (pc := 1) (v := 4) K.1 d13_1 (by decide) ?_
  rcases ifs h with ⟨hc2, h⟩ | ⟨hc2, h⟩
  · refine g_icF (pc := 2) K.1 d13_2 ((teq hc2).2) ?_
    refine g_aloadN (pc := 5) K.1 d13_5 rfl ?_
    refine g_iloadN (pc := 6) K.1 d13_6 rfl ?_
    obtain ⟨q7, hq7, h⟩ := Option.bind_eq_some_iff.mp h
    refine g_callP (pc := 7) (vs := [.int v2]) K d13_7 (w318 hw) (w319 hw) (w320 hw) (w321 hw) hyC pd_1 rfl rfl (con_M_isCipherValue l Z a0 hw n1 a (ctx_le K) hq7) rfl (Nat.le_of_ble_eq_true rfl) (Nat.le_of_ble_eq_true rfl) rfl rfl ?_
    cases h; exact g_ireturnN (t := .boolean) K.1 rfl (Or.inl rfl) d13_10 rfl (capC K)
  refine g_icT (pc := 2) (pc' := 11) K.1 d13_2 (by decide) ((feq hc2).2) ?_
  refine g_aloadN (pc := 11) K.1 d13_11 rfl ?_
  refine g_iloadN (pc := 12) K.1 d13_12 rfl ?_
  obtain ⟨q13, hq13, h⟩ := Option.bind_eq_some_iff.mp h
  refine g_callP (pc := 13) (vs := [.int v2]) K d13_13 (w207 hw) (w208 hw) (w209 hw) (w210 hw) hyC pd_1 rfl rfl (con_M_isTernary l Z a0 hw n1 a (ctx_le K) hq13) rfl (Nat.le_of_ble_eq_true rfl) (Nat.le_of_ble_eq_true rfl) rfl rfl ?_
  cases h; exact g_ireturnN (t := .boolean) K.1 rfl (Or.inl rfl) d13_16 rfl (capC K)
theorem con_M_acceptsValue (l : Launch) (Z : State) (a0 : Array Value) (hw : HW a0 Z) (n1 : Nat) (a : Addr) (ha : n1 ≤ a) {σ : St} {v1 : Int32} {v2 : Int32} {r : Int32 × St} (h : M_acceptsValue σ v1 v2 = some r) : Con l Z cC cFS cFA 16 n1 a ⟨cC, "acceptsValue", "(II)Z"⟩ c13 3 (some .boolean) ⟨1, 0, 0, 13⟩ [.ref 0, .int v1, .int v2] σ (some (.int r.1)) r.2 :=
  con_of_go pnC rfl (layW hw) lgood ha (fun X h1 K => ok_M_acceptsValue K hw h)
abbrev KM_M_storeHeld (X : Cx (St × Nat)) (Z : State) (a0 : Array Value) (l : Launch) (n1 : Nat) (a : Addr) (h0 : Heap) : Prop := CtxC X Z a0 cC cFS cFA 16 25 l n1 a h0 ce0 ⟨0, 0, 0, 0⟩ "storeHeld" c17 4 none
def M_storeHeld (σ : St) (v1 : Int32) (v2 : Int32) (v3 : Int32) : Option (St) :=
  (if v1 = 0 then (if 0 ≤ (v2).toInt ∧ (v2).toInt < 17 then (some (sA σ 1 (v2).toInt v3)) else none) else (if v1 = 1 then (if 0 ≤ (v2).toInt ∧ (v2).toInt < 17 then (some (sA σ 2 (v2).toInt v3)) else none) else (if v1 = 2 then (if 0 ≤ (v2).toInt ∧ (v2).toInt < 17 then (some (sA σ 3 (v2).toInt v3)) else none) else (if v1 = 3 then (if 0 ≤ (v2).toInt ∧ (v2).toInt < 17 then (some (sA σ 4 (v2).toInt v3)) else none) else (if v1 = 4 then (if 0 ≤ (v2).toInt ∧ (v2).toInt < 17 then (some (sA σ 5 (v2).toInt v3)) else none) else (if v1 = 5 then (if 0 ≤ (v2).toInt ∧ (v2).toInt < 17 then (some (sA σ 6 (v2).toInt v3)) else none) else (if v1 = 6 then (if 0 ≤ (v2).toInt ∧ (v2).toInt < 17 then (some (sA σ 7 (v2).toInt v3)) else none) else (if v1 = 7 then (if 0 ≤ (v2).toInt ∧ (v2).toInt < 17 then (some (sA σ 8 (v2).toInt v3)) else none) else (if v1 = 8 then (if 0 ≤ (v2).toInt ∧ (v2).toInt < 17 then (some (sA σ 9 (v2).toInt v3)) else none) else (if v1 = 9 then (if 0 ≤ (v2).toInt ∧ (v2).toInt < 17 then (some (sA σ 10 (v2).toInt v3)) else none) else (if v1 = 10 then (if 0 ≤ (v2).toInt ∧ (v2).toInt < 17 then (some (sA σ 11 (v2).toInt v3)) else none) else (some σ))))))))))))
theorem ok_M_storeHeld {X : Cx (St × Nat)} {Z : State} {a0 : Array Value} {l : Launch} {n1 : Nat} {a : Addr} {h0 : Heap} (K : KM_M_storeHeld X Z a0 l n1 a h0) (hw : HW a0 Z) {σ : St} {v1 : Int32} {v2 : Int32} {v3 : Int32} {r : St} (h : M_storeHeld σ v1 v2 v3 = some r) : Go X (none, (r, 16)) 0 [some (.ref 0), some (.int v1), some (.int v2), some (.int v3)] [] (σ, 16) := by
  unfold M_storeHeld at h
  refine g_iloadN (pc := 0) K.1 d17_0 rfl ?_
  rcases ifs h with ⟨hc1_0, h⟩ | ⟨hc1_0, h⟩
  · refine g_tswIn (pc := 1) (o := 59) (pc' := 60) K.1 d17_1 (by rw [hc1_0]; decide) (by rw [hc1_0]; rfl) (by decide) ?_
    refine g_aloadN (pc := 60) K.1 d17_60 rfl ?_
    refine g_getA (pc := 61) K d17_61 (w10 hw) mf_f rfl ?_
    refine g_iloadN (pc := 64) K.1 d17_64 rfl ?_
    refine g_iloadN (pc := 65) K.1 d17_65 rfl ?_
    obtain ⟨hc66, h⟩ := ifn h
    refine g_iastore (pc := 66) K d17_66 ma_f rfl hc66 ?_
    refine g_goto (pc := 67) (pc' := 170) K.1 d17_67 (by decide) ?_
    cases h; exact g_return K.1 d17_170 (capC K)
  rcases ifs h with ⟨hc1_1, h⟩ | ⟨hc1_1, h⟩
  · refine g_tswIn (pc := 1) (o := 69) (pc' := 70) K.1 d17_1 (by rw [hc1_1]; decide) (by rw [hc1_1]; rfl) (by decide) ?_
    refine g_aloadN (pc := 70) K.1 d17_70 rfl ?_
    refine g_getA (pc := 71) K d17_71 (w12 hw) mf_g rfl ?_
    refine g_iloadN (pc := 74) K.1 d17_74 rfl ?_
    refine g_iloadN (pc := 75) K.1 d17_75 rfl ?_
    obtain ⟨hc76, h⟩ := ifn h
    refine g_iastore (pc := 76) K d17_76 ma_g rfl hc76 ?_
    refine g_goto (pc := 77) (pc' := 170) K.1 d17_77 (by decide) ?_
    cases h; exact g_return K.1 d17_170 (capC K)
  rcases ifs h with ⟨hc1_2, h⟩ | ⟨hc1_2, h⟩
  · refine g_tswIn (pc := 1) (o := 79) (pc' := 80) K.1 d17_1 (by rw [hc1_2]; decide) (by rw [hc1_2]; rfl) (by decide) ?_
    refine g_aloadN (pc := 80) K.1 d17_80 rfl ?_
    refine g_getA (pc := 81) K d17_81 (w14 hw) mf_m rfl ?_
    refine g_iloadN (pc := 84) K.1 d17_84 rfl ?_
    refine g_iloadN (pc := 85) K.1 d17_85 rfl ?_
    obtain ⟨hc86, h⟩ := ifn h
    refine g_iastore (pc := 86) K d17_86 ma_m rfl hc86 ?_
    refine g_goto (pc := 87) (pc' := 170) K.1 d17_87 (by decide) ?_
    cases h; exact g_return K.1 d17_170 (capC K)
  rcases ifs h with ⟨hc1_3, h⟩ | ⟨hc1_3, h⟩
  · refine g_tswIn (pc := 1) (o := 89) (pc' := 90) K.1 d17_1 (by rw [hc1_3]; decide) (by rw [hc1_3]; rfl) (by decide) ?_
    refine g_aloadN (pc := 90) K.1 d17_90 rfl ?_
    refine g_getA (pc := 91) K d17_91 (w16 hw) mf_r rfl ?_
    refine g_iloadN (pc := 94) K.1 d17_94 rfl ?_
    refine g_iloadN (pc := 95) K.1 d17_95 rfl ?_
    obtain ⟨hc96, h⟩ := ifn h
    refine g_iastore (pc := 96) K d17_96 ma_r rfl hc96 ?_
    refine g_goto (pc := 97) (pc' := 170) K.1 d17_97 (by decide) ?_
    cases h; exact g_return K.1 d17_170 (capC K)
  rcases ifs h with ⟨hc1_4, h⟩ | ⟨hc1_4, h⟩
  · refine g_tswIn (pc := 1) (o := 99) (pc' := 100) K.1 d17_1 (by rw [hc1_4]; decide) (by rw [hc1_4]; rfl) (by decide) ?_
    refine g_aloadN (pc := 100) K.1 d17_100 rfl ?_
    refine g_getA (pc := 101) K d17_101 (w18 hw) mf_c rfl ?_
    refine g_iloadN (pc := 104) K.1 d17_104 rfl ?_
    refine g_iloadN (pc := 105) K.1 d17_105 rfl ?_
    obtain ⟨hc106, h⟩ := ifn h
    refine g_iastore (pc := 106) K d17_106 ma_c rfl hc106 ?_
    refine g_goto (pc := 107) (pc' := 170) K.1 d17_107 (by decide) ?_
    cases h; exact g_return K.1 d17_170 (capC K)
  rcases ifs h with ⟨hc1_5, h⟩ | ⟨hc1_5, h⟩
  · refine g_tswIn (pc := 1) (o := 109) (pc' := 110) K.1 d17_1 (by rw [hc1_5]; decide) (by rw [hc1_5]; rfl) (by decide) ?_
    refine g_aloadN (pc := 110) K.1 d17_110 rfl ?_
    refine g_getA (pc := 111) K d17_111 (w20 hw) mf_kf rfl ?_
    refine g_iloadN (pc := 114) K.1 d17_114 rfl ?_
    refine g_iloadN (pc := 115) K.1 d17_115 rfl ?_
    obtain ⟨hc116, h⟩ := ifn h
    refine g_iastore (pc := 116) K d17_116 ma_kf rfl hc116 ?_
    refine g_goto (pc := 117) (pc' := 170) K.1 d17_117 (by decide) ?_
    cases h; exact g_return K.1 d17_170 (capC K)
  rcases ifs h with ⟨hc1_6, h⟩ | ⟨hc1_6, h⟩
  · refine g_tswIn (pc := 1) (o := 119) (pc' := 120) K.1 d17_1 (by rw [hc1_6]; decide) (by rw [hc1_6]; rfl) (by decide) ?_
    refine g_aloadN (pc := 120) K.1 d17_120 rfl ?_
    refine g_getA (pc := 121) K d17_121 (w22 hw) mf_fp rfl ?_
    refine g_iloadN (pc := 124) K.1 d17_124 rfl ?_
    refine g_iloadN (pc := 125) K.1 d17_125 rfl ?_
    obtain ⟨hc126, h⟩ := ifn h
    refine g_iastore (pc := 126) K d17_126 ma_fp rfl hc126 ?_
    refine g_goto (pc := 127) (pc' := 170) K.1 d17_127 (by decide) ?_
    cases h; exact g_return K.1 d17_170 (capC K)
  rcases ifs h with ⟨hc1_7, h⟩ | ⟨hc1_7, h⟩
  · refine g_tswIn (pc := 1) (o := 129) (pc' := 130) K.1 d17_1 (by rw [hc1_7]; decide) (by rw [hc1_7]; rfl) (by decide) ?_
    refine g_aloadN (pc := 130) K.1 d17_130 rfl ?_
    refine g_getA (pc := 131) K d17_131 (w24 hw) mf_fq rfl ?_
    refine g_iloadN (pc := 134) K.1 d17_134 rfl ?_
    refine g_iloadN (pc := 135) K.1 d17_135 rfl ?_
    obtain ⟨hc136, h⟩ := ifn h
    refine g_iastore (pc := 136) K d17_136 ma_fq rfl hc136 ?_
    refine g_goto (pc := 137) (pc' := 170) K.1 d17_137 (by decide) ?_
    cases h; exact g_return K.1 d17_170 (capC K)
  rcases ifs h with ⟨hc1_8, h⟩ | ⟨hc1_8, h⟩
  · refine g_tswIn (pc := 1) (o := 139) (pc' := 140) K.1 d17_1 (by rw [hc1_8]; decide) (by rw [hc1_8]; rfl) (by decide) ?_
    refine g_aloadN (pc := 140) K.1 d17_140 rfl ?_
    refine g_getA (pc := 141) K d17_141 (w26 hw) mf_h rfl ?_
    refine g_iloadN (pc := 144) K.1 d17_144 rfl ?_
    refine g_iloadN (pc := 145) K.1 d17_145 rfl ?_
    obtain ⟨hc146, h⟩ := ifn h
    refine g_iastore (pc := 146) K d17_146 ma_h rfl hc146 ?_
    refine g_goto (pc := 147) (pc' := 170) K.1 d17_147 (by decide) ?_
    cases h; exact g_return K.1 d17_170 (capC K)
  rcases ifs h with ⟨hc1_9, h⟩ | ⟨hc1_9, h⟩
  · refine g_tswIn (pc := 1) (o := 149) (pc' := 150) K.1 d17_1 (by rw [hc1_9]; decide) (by rw [hc1_9]; rfl) (by decide) ?_
    refine g_aloadN (pc := 150) K.1 d17_150 rfl ?_
    refine g_getA (pc := 151) K d17_151 (w28 hw) mf_a rfl ?_
    refine g_iloadN (pc := 154) K.1 d17_154 rfl ?_
    refine g_iloadN (pc := 155) K.1 d17_155 rfl ?_
    obtain ⟨hc156, h⟩ := ifn h
    refine g_iastore (pc := 156) K d17_156 ma_a rfl hc156 ?_
    refine g_goto (pc := 157) (pc' := 170) K.1 d17_157 (by decide) ?_
    cases h; exact g_return K.1 d17_170 (capC K)
  rcases ifs h with ⟨hc1_10, h⟩ | ⟨hc1_10, h⟩
  · refine g_tswIn (pc := 1) (o := 159) (pc' := 160) K.1 d17_1 (by rw [hc1_10]; decide) (by rw [hc1_10]; rfl) (by decide) ?_
    refine g_aloadN (pc := 160) K.1 d17_160 rfl ?_
    refine g_getA (pc := 161) K d17_161 (w30 hw) mf_d rfl ?_
    refine g_iloadN (pc := 164) K.1 d17_164 rfl ?_
    refine g_iloadN (pc := 165) K.1 d17_165 rfl ?_
    obtain ⟨hc166, h⟩ := ifn h
    refine g_iastore (pc := 166) K d17_166 ma_d rfl hc166 ?_
    refine g_goto (pc := 167) (pc' := 170) K.1 d17_167 (by decide) ?_
    cases h; exact g_return K.1 d17_170 (capC K)
  refine g_tswOut (pc := 1) (pc' := 170) K.1 d17_1 (by have q0 : (v1).toInt ≠ 0 := fun q => hc1_0 (Int32.toInt_inj.mp q); have q1 : (v1).toInt ≠ 1 := fun q => hc1_1 (Int32.toInt_inj.mp q); have q2 : (v1).toInt ≠ 2 := fun q => hc1_2 (Int32.toInt_inj.mp q); have q3 : (v1).toInt ≠ 3 := fun q => hc1_3 (Int32.toInt_inj.mp q); have q4 : (v1).toInt ≠ 4 := fun q => hc1_4 (Int32.toInt_inj.mp q); have q5 : (v1).toInt ≠ 5 := fun q => hc1_5 (Int32.toInt_inj.mp q); have q6 : (v1).toInt ≠ 6 := fun q => hc1_6 (Int32.toInt_inj.mp q); have q7 : (v1).toInt ≠ 7 := fun q => hc1_7 (Int32.toInt_inj.mp q); have q8 : (v1).toInt ≠ 8 := fun q => hc1_8 (Int32.toInt_inj.mp q); have q9 : (v1).toInt ≠ 9 := fun q => hc1_9 (Int32.toInt_inj.mp q); have q10 : (v1).toInt ≠ 10 := fun q => hc1_10 (Int32.toInt_inj.mp q); omega) (by decide) ?_
  cases h; exact g_return K.1 d17_170 (capC K)
theorem con_M_storeHeld (l : Launch) (Z : State) (a0 : Array Value) (hw : HW a0 Z) (n1 : Nat) (a : Addr) (ha : n1 ≤ a) {σ : St} {v1 : Int32} {v2 : Int32} {v3 : Int32} {r : St} (h : M_storeHeld σ v1 v2 v3 = some r) : Con l Z cC cFS cFA 16 n1 a ⟨cC, "storeHeld", "(III)V"⟩ c17 4 none ⟨0, 0, 0, 0⟩ [.ref 0, .int v1, .int v2, .int v3] σ none r :=
  con_of_go pnC rfl (layW hw) lgood ha (fun X h1 K => ok_M_storeHeld K hw h)
abbrev KM_M_storeScratch (X : Cx (St × Nat)) (Z : State) (a0 : Array Value) (l : Launch) (n1 : Nat) (a : Addr) (h0 : Heap) : Prop := CtxC X Z a0 cC cFS cFA 16 25 l n1 a h0 ce0 ⟨0, 0, 0, 0⟩ "storeScratch" c18 4 none
def M_storeScratch (σ : St) (v1 : Int32) (v2 : Int32) (v3 : Int32) : Option (St) :=
  (if v1 = 11 then (if 0 ≤ (v2).toInt ∧ (v2).toInt < 17 then (some (sA σ 13 (v2).toInt v3)) else none) else (if v1 = 12 then (if 0 ≤ (v2).toInt ∧ (v2).toInt < 17 then (some (sA σ 14 (v2).toInt v3)) else none) else (if v1 = 13 then (if 0 ≤ (v2).toInt ∧ (v2).toInt < 17 then (some (sA σ 15 (v2).toInt v3)) else none) else (if v1 = 14 then (if 0 ≤ (v2).toInt ∧ (v2).toInt < 17 then (some (sA σ 16 (v2).toInt v3)) else none) else (some σ)))))
theorem ok_M_storeScratch {X : Cx (St × Nat)} {Z : State} {a0 : Array Value} {l : Launch} {n1 : Nat} {a : Addr} {h0 : Heap} (K : KM_M_storeScratch X Z a0 l n1 a h0) (hw : HW a0 Z) {σ : St} {v1 : Int32} {v2 : Int32} {v3 : Int32} {r : St} (h : M_storeScratch σ v1 v2 v3 = some r) : Go X (none, (r, 16)) 0 [some (.ref 0), some (.int v1), some (.int v2), some (.int v3)] [] (σ, 16) := by
  unfold M_storeScratch at h
  refine g_iloadN (pc := 0) K.1 d18_0 rfl ?_
  rcases ifs h with ⟨hc1_11, h⟩ | ⟨hc1_11, h⟩
  · refine g_tswIn (pc := 1) (o := 31) (pc' := 32) K.1 d18_1 (by rw [hc1_11]; decide) (by rw [hc1_11]; rfl) (by decide) ?_
    refine g_aloadN (pc := 32) K.1 d18_32 rfl ?_
    refine g_getA (pc := 33) K d18_33 (w34 hw) mf_invP rfl ?_
    refine g_iloadN (pc := 36) K.1 d18_36 rfl ?_
    refine g_iloadN (pc := 37) K.1 d18_37 rfl ?_
    obtain ⟨hc38, h⟩ := ifn h
    refine g_iastore (pc := 38) K d18_38 ma_invP rfl hc38 ?_
    refine g_goto (pc := 39) (pc' := 72) K.1 d18_39 (by decide) ?_
    cases h; exact g_return K.1 d18_72 (capC K)
  rcases ifs h with ⟨hc1_12, h⟩ | ⟨hc1_12, h⟩
  · refine g_tswIn (pc := 1) (o := 41) (pc' := 42) K.1 d18_1 (by rw [hc1_12]; decide) (by rw [hc1_12]; rfl) (by decide) ?_
    refine g_aloadN (pc := 42) K.1 d18_42 rfl ?_
    refine g_getA (pc := 43) K d18_43 (w36 hw) mf_invQ rfl ?_
    refine g_iloadN (pc := 46) K.1 d18_46 rfl ?_
    refine g_iloadN (pc := 47) K.1 d18_47 rfl ?_
    obtain ⟨hc48, h⟩ := ifn h
    refine g_iastore (pc := 48) K d18_48 ma_invQ rfl hc48 ?_
    refine g_goto (pc := 49) (pc' := 72) K.1 d18_49 (by decide) ?_
    cases h; exact g_return K.1 d18_72 (capC K)
  rcases ifs h with ⟨hc1_13, h⟩ | ⟨hc1_13, h⟩
  · refine g_tswIn (pc := 1) (o := 51) (pc' := 52) K.1 d18_1 (by rw [hc1_13]; decide) (by rw [hc1_13]; rfl) (by decide) ?_
    refine g_aloadN (pc := 52) K.1 d18_52 rfl ?_
    refine g_getA (pc := 53) K d18_53 (w38 hw) mf_lift rfl ?_
    refine g_iloadN (pc := 56) K.1 d18_56 rfl ?_
    refine g_iloadN (pc := 57) K.1 d18_57 rfl ?_
    obtain ⟨hc58, h⟩ := ifn h
    refine g_iastore (pc := 58) K d18_58 ma_lift rfl hc58 ?_
    refine g_goto (pc := 59) (pc' := 72) K.1 d18_59 (by decide) ?_
    cases h; exact g_return K.1 d18_72 (capC K)
  rcases ifs h with ⟨hc1_14, h⟩ | ⟨hc1_14, h⟩
  · refine g_tswIn (pc := 1) (o := 61) (pc' := 62) K.1 d18_1 (by rw [hc1_14]; decide) (by rw [hc1_14]; rfl) (by decide) ?_
    refine g_aloadN (pc := 62) K.1 d18_62 rfl ?_
    refine g_getA (pc := 63) K d18_63 (w40 hw) mf_lift2 rfl ?_
    refine g_iloadN (pc := 66) K.1 d18_66 rfl ?_
    refine g_iloadN (pc := 67) K.1 d18_67 rfl ?_
    obtain ⟨hc68, h⟩ := ifn h
    refine g_iastore (pc := 68) K d18_68 ma_lift2 rfl hc68 ?_
    refine g_goto (pc := 69) (pc' := 72) K.1 d18_69 (by decide) ?_
    cases h; exact g_return K.1 d18_72 (capC K)
  refine g_tswOut (pc := 1) (pc' := 72) K.1 d18_1 (by have q11 : (v1).toInt ≠ 11 := fun q => hc1_11 (Int32.toInt_inj.mp q); have q12 : (v1).toInt ≠ 12 := fun q => hc1_12 (Int32.toInt_inj.mp q); have q13 : (v1).toInt ≠ 13 := fun q => hc1_13 (Int32.toInt_inj.mp q); have q14 : (v1).toInt ≠ 14 := fun q => hc1_14 (Int32.toInt_inj.mp q); omega) (by decide) ?_
  cases h; exact g_return K.1 d18_72 (capC K)
theorem con_M_storeScratch (l : Launch) (Z : State) (a0 : Array Value) (hw : HW a0 Z) (n1 : Nat) (a : Addr) (ha : n1 ≤ a) {σ : St} {v1 : Int32} {v2 : Int32} {v3 : Int32} {r : St} (h : M_storeScratch σ v1 v2 v3 = some r) : Con l Z cC cFS cFA 16 n1 a ⟨cC, "storeScratch", "(III)V"⟩ c18 4 none ⟨0, 0, 0, 0⟩ [.ref 0, .int v1, .int v2, .int v3] σ none r :=
  con_of_go pnC rfl (layW hw) lgood ha (fun X h1 K => ok_M_storeScratch K hw h)
abbrev KM_M_store (X : Cx (St × Nat)) (Z : State) (a0 : Array Value) (l : Launch) (n1 : Nat) (a : Addr) (h0 : Heap) : Prop := CtxC X Z a0 cC cFS cFA 16 25 l n1 a h0 ce0 ⟨1, 0, 0, 15⟩ "store" c16 4 none
def M_store (σ : St) (v1 : Int32) (v2 : Int32) (v3 : Int32) : Option (St) :=
  (if v2 < 0 then (some σ) else (if v2 < (17 : Int32) then (if v1 < (11 : Int32) then ((M_storeHeld σ v1 v2 v3).bind fun q29 => (some q29)) else ((M_storeScratch σ v1 v2 v3).bind fun q21 => (some q21))) else (some σ)))
theorem ok_M_store {X : Cx (St × Nat)} {Z : State} {a0 : Array Value} {l : Launch} {n1 : Nat} {a : Addr} {h0 : Heap} (K : KM_M_store X Z a0 l n1 a h0) (hw : HW a0 Z) {σ : St} {v1 : Int32} {v2 : Int32} {v3 : Int32} {r : St} (h : M_store σ v1 v2 v3 = some r) : Go X (none, (r, 16)) 0 [some (.ref 0), some (.int v1), some (.int v2), some (.int v3)] [] (σ, 16) := by
  unfold M_store at h
  refine g_iloadN (pc := 0) K.1 d16_0 rfl ?_
  rcases ifs h with ⟨hc1, h⟩ | ⟨hc1, h⟩
  · refine g_ifT (pc := 1) (pc' := 10) K.1 d16_1 (by decide) ((if0 _ _).trans (tlt hc1).1) ?_
    cases h; exact g_return K.1 d16_10 (capC K)
  refine g_ifF (pc := 1) K.1 d16_1 ((if0 _ _).trans (flt hc1).1) ?_
  refine g_iloadN (pc := 4) K.1 d16_4 rfl ?_
  refine g_bipush (pc := 5) (v := 17) K.1 d16_5 (by decide) ?_
  rcases ifs h with ⟨hc7, h⟩ | ⟨hc7, h⟩
  · refine g_icT (pc := 7) (pc' := 11) K.1 d16_7 (by decide) ((tlt hc7).1) ?_
    refine g_iloadN (pc := 11) K.1 d16_11 rfl ?_
    refine g_bipush (pc := 12) (v := 11) K.1 d16_12 (by decide) ?_
    rcases ifs h with ⟨hc14, h⟩ | ⟨hc14, h⟩
    · refine g_icT (pc := 14) (pc' := 25) K.1 d16_14 (by decide) ((tlt hc14).1) ?_
      refine g_aloadN (pc := 25) K.1 d16_25 rfl ?_
      refine g_iloadN (pc := 26) K.1 d16_26 rfl ?_
      refine g_iloadN (pc := 27) K.1 d16_27 rfl ?_
      refine g_iloadN (pc := 28) K.1 d16_28 rfl ?_
      obtain ⟨q29, hq29, h⟩ := Option.bind_eq_some_iff.mp h
      refine g_callP (pc := 29) (vs := [.int v1, .int v2, .int v3]) K d16_29 (w190 hw) (w191 hw) (w192 hw) (w193 hw) hyC pd_5 rfl rfl (con_M_storeHeld l Z a0 hw n1 a (ctx_le K) hq29) rfl (Nat.le_of_ble_eq_true rfl) (Nat.le_of_ble_eq_true rfl) rfl rfl ?_
      cases h; exact g_return K.1 d16_32 (capC K)
    refine g_icF (pc := 14) K.1 d16_14 ((flt hc14).1) ?_
    refine g_aloadN (pc := 17) K.1 d16_17 rfl ?_
    refine g_iloadN (pc := 18) K.1 d16_18 rfl ?_
    refine g_iloadN (pc := 19) K.1 d16_19 rfl ?_
    refine g_iloadN (pc := 20) K.1 d16_20 rfl ?_
    obtain ⟨q21, hq21, h⟩ := Option.bind_eq_some_iff.mp h
    refine g_callP (pc := 21) (vs := [.int v1, .int v2, .int v3]) K d16_21 (w236 hw) (w237 hw) (w238 hw) (w239 hw) hyC pd_5 rfl rfl (con_M_storeScratch l Z a0 hw n1 a (ctx_le K) hq21) rfl (Nat.le_of_ble_eq_true rfl) (Nat.le_of_ble_eq_true rfl) rfl rfl ?_
    cases h; exact g_return K.1 d16_24 (capC K)
  refine g_icF (pc := 7) K.1 d16_7 ((flt hc7).1) ?_
  cases h; exact g_return K.1 d16_10 (capC K)
theorem con_M_store (l : Launch) (Z : State) (a0 : Array Value) (hw : HW a0 Z) (n1 : Nat) (a : Addr) (ha : n1 ≤ a) {σ : St} {v1 : Int32} {v2 : Int32} {v3 : Int32} {r : St} (h : M_store σ v1 v2 v3 = some r) : Con l Z cC cFS cFA 16 n1 a ⟨cC, "store", "(III)V"⟩ c16 4 none ⟨1, 0, 0, 15⟩ [.ref 0, .int v1, .int v2, .int v3] σ none r :=
  con_of_go pnC rfl (layW hw) lgood ha (fun X h1 K => ok_M_store K hw h)
abbrev KM_M_setCoeff (X : Cx (St × Nat)) (Z : State) (a0 : Array Value) (l : Launch) (n1 : Nat) (a : Addr) (h0 : Heap) : Prop := CtxC X Z a0 cC cFS cFA 16 25 l n1 a h0 ce0 ⟨2, 0, 0, 30⟩ "setCoeff" c11 4 (some .boolean)
def M_setCoeff (σ : St) (v1 : Int32) (v2 : Int32) (v3 : Int32) : Option (Int32 × St) :=
  ((M_isWritable σ v1).bind fun q2 => (if q2.1 = 0 then (some ((0 : Int32), q2.2)) else ((M_isIndex q2.2 v2).bind fun q12 => (if q12.1 = 0 then (some ((0 : Int32), q12.2)) else ((M_acceptsValue q12.2 v1 v3).bind fun q23 => (if q23.1 = 0 then (some ((0 : Int32), q23.2)) else ((M_store q23.2 v1 v2 v3).bind fun q35 => (some ((1 : Int32), q35)))))))))
theorem ok_M_setCoeff {X : Cx (St × Nat)} {Z : State} {a0 : Array Value} {l : Launch} {n1 : Nat} {a : Addr} {h0 : Heap} (K : KM_M_setCoeff X Z a0 l n1 a h0) (hw : HW a0 Z) {σ : St} {v1 : Int32} {v2 : Int32} {v3 : Int32} {r : Int32 × St} (h : M_setCoeff σ v1 v2 v3 = some r) : Go X (some (.int r.1), (r.2, 16)) 0 [some (.ref 0), some (.int v1), some (.int v2), some (.int v3)] [] (σ, 16) := by
  unfold M_setCoeff at h
  refine g_aloadN (pc := 0) K.1 d11_0 rfl ?_
  refine g_iloadN (pc := 1) K.1 d11_1 rfl ?_
  obtain ⟨q2, hq2, h⟩ := Option.bind_eq_some_iff.mp h
  refine g_callP (pc := 2) (vs := [.int v1]) K d11_2 (w199 hw) (w200 hw) (w201 hw) (w202 hw) hyC pd_1 rfl rfl (con_M_isWritable l Z a0 hw n1 a (ctx_le K) hq2) rfl (Nat.le_of_ble_eq_true rfl) (Nat.le_of_ble_eq_true rfl) rfl rfl ?_
  rcases ifs h with ⟨hc5, h⟩ | ⟨hc5, h⟩
  · refine g_ifF (pc := 5) K.1 d11_5 ((if0 _ _).trans (teq hc5).2) ?_
    refine g_iconst (pc := 8) (v := 0) K.1 d11_8 (by decide) ?_
    cases h; exact g_ireturnN (t := .boolean) K.1 rfl (Or.inl rfl) d11_9 rfl (capC K)
  refine g_ifT (pc := 5) (pc' := 10) K.1 d11_5 (by decide) ((if0 _ _).trans (feq hc5).2) ?_
  refine g_aloadN (pc := 10) K.1 d11_10 rfl ?_
  refine g_iloadN (pc := 11) K.1 d11_11 rfl ?_
  obtain ⟨q12, hq12, h⟩ := Option.bind_eq_some_iff.mp h
  refine g_callP (pc := 12) (vs := [.int v2]) K d11_12 (w152 hw) (w153 hw) (w154 hw) (w155 hw) hyC pd_1 rfl rfl (con_M_isIndex l Z a0 hw n1 a (ctx_le K) hq12) rfl (Nat.le_of_ble_eq_true rfl) (Nat.le_of_ble_eq_true rfl) rfl rfl ?_
  rcases ifs h with ⟨hc15, h⟩ | ⟨hc15, h⟩
  · refine g_ifF (pc := 15) K.1 d11_15 ((if0 _ _).trans (teq hc15).2) ?_
    refine g_iconst (pc := 18) (v := 0) K.1 d11_18 (by decide) ?_
    cases h; exact g_ireturnN (t := .boolean) K.1 rfl (Or.inl rfl) d11_19 rfl (capC K)
  refine g_ifT (pc := 15) (pc' := 20) K.1 d11_15 (by decide) ((if0 _ _).trans (feq hc15).2) ?_
  refine g_aloadN (pc := 20) K.1 d11_20 rfl ?_
  refine g_iloadN (pc := 21) K.1 d11_21 rfl ?_
  refine g_iloadN (pc := 22) K.1 d11_22 rfl ?_
  obtain ⟨q23, hq23, h⟩ := Option.bind_eq_some_iff.mp h
  refine g_callP (pc := 23) (vs := [.int v1, .int v3]) K d11_23 (w203 hw) (w204 hw) (w205 hw) (w206 hw) hyC pd_6 rfl rfl (con_M_acceptsValue l Z a0 hw n1 a (ctx_le K) hq23) rfl (Nat.le_of_ble_eq_true rfl) (Nat.le_of_ble_eq_true rfl) rfl rfl ?_
  rcases ifs h with ⟨hc26, h⟩ | ⟨hc26, h⟩
  · refine g_ifF (pc := 26) K.1 d11_26 ((if0 _ _).trans (teq hc26).2) ?_
    refine g_iconst (pc := 29) (v := 0) K.1 d11_29 (by decide) ?_
    cases h; exact g_ireturnN (t := .boolean) K.1 rfl (Or.inl rfl) d11_30 rfl (capC K)
  refine g_ifT (pc := 26) (pc' := 31) K.1 d11_26 (by decide) ((if0 _ _).trans (feq hc26).2) ?_
  refine g_aloadN (pc := 31) K.1 d11_31 rfl ?_
  refine g_iloadN (pc := 32) K.1 d11_32 rfl ?_
  refine g_iloadN (pc := 33) K.1 d11_33 rfl ?_
  refine g_iloadN (pc := 34) K.1 d11_34 rfl ?_
  obtain ⟨q35, hq35, h⟩ := Option.bind_eq_some_iff.mp h
  refine g_callP (pc := 35) (vs := [.int v1, .int v2, .int v3]) K d11_35 (w186 hw) (w187 hw) (w188 hw) (w189 hw) hyC pd_5 rfl rfl (con_M_store l Z a0 hw n1 a (ctx_le K) hq35) rfl (Nat.le_of_ble_eq_true rfl) (Nat.le_of_ble_eq_true rfl) rfl rfl ?_
  refine g_iconst (pc := 38) (v := 1) K.1 d11_38 (by decide) ?_
  cases h; exact g_ireturnN (t := .boolean) K.1 rfl (Or.inl rfl) d11_39 rfl (capC K)
theorem con_M_setCoeff (l : Launch) (Z : State) (a0 : Array Value) (hw : HW a0 Z) (n1 : Nat) (a : Addr) (ha : n1 ≤ a) {σ : St} {v1 : Int32} {v2 : Int32} {v3 : Int32} {r : Int32 × St} (h : M_setCoeff σ v1 v2 v3 = some r) : Con l Z cC cFS cFA 16 n1 a ⟨cC, "setCoeff", "(III)Z"⟩ c11 4 (some .boolean) ⟨2, 0, 0, 30⟩ [.ref 0, .int v1, .int v2, .int v3] σ (some (.int r.1)) r.2 :=
  con_of_go pnC rfl (layW hw) lgood ha (fun X h1 K => ok_M_setCoeff K hw h)
abbrev KM_M_isDraft (X : Cx (St × Nat)) (Z : State) (a0 : Array Value) (l : Launch) (n1 : Nat) (a : Addr) (h0 : Heap) : Prop := CtxC X Z a0 cC cFS cFA 16 25 l n1 a h0 ce0 ⟨0, 0, 0, 0⟩ "isDraft" c20 2 (some .boolean)
def M_isDraft (σ : St) (v1 : Int32) : Option (Int32 × St) :=
  (if v1 < 0 then (some ((0 : Int32), σ)) else (if (3 : Int32) < v1 then (some ((0 : Int32), σ)) else (some ((1 : Int32), σ))))
theorem ok_M_isDraft {X : Cx (St × Nat)} {Z : State} {a0 : Array Value} {l : Launch} {n1 : Nat} {a : Addr} {h0 : Heap} (K : KM_M_isDraft X Z a0 l n1 a h0) (hw : HW a0 Z) {σ : St} {v1 : Int32} {r : Int32 × St} (h : M_isDraft σ v1 = some r) : Go X (some (.int r.1), (r.2, 16)) 0 [some (.ref 0), some (.int v1)] [] (σ, 16) := by
  unfold M_isDraft at h
  refine g_iloadN (pc := 0) K.1 d20_0 rfl ?_
  rcases ifs h with ⟨hc1, h⟩ | ⟨hc1, h⟩
  · refine g_ifT (pc := 1) (pc' := 13) K.1 d20_1 (by decide) ((if0 _ _).trans (tlt hc1).1) ?_
    refine g_iconst (pc := 13) (v := 0) K.1 d20_13 (by decide) ?_
    cases h; exact g_ireturnN (t := .boolean) K.1 rfl (Or.inl rfl) d20_14 rfl (capC K)
  refine g_ifF (pc := 1) K.1 d20_1 ((if0 _ _).trans (flt hc1).1) ?_
  refine g_iloadN (pc := 4) K.1 d20_4 rfl ?_
  refine g_iconst (pc := 5) (v := 3) K.1 d20_5 (by decide) ?_
  rcases ifs h with ⟨hc6, h⟩ | ⟨hc6, h⟩
  · refine g_icT (pc := 6) (pc' := 13) K.1 d20_6 (by decide) ((tlt hc6).2.2.1) ?_
    refine g_iconst (pc := 13) (v := 0) K.1 d20_13 (by decide) ?_
    cases h; exact g_ireturnN (t := .boolean) K.1 rfl (Or.inl rfl) d20_14 rfl (capC K)
  refine g_icF (pc := 6) K.1 d20_6 ((flt hc6).2.2.1) ?_
  refine g_iconst (pc := 9) (v := 1) K.1 d20_9 (by decide) ?_
  refine g_goto (pc := 10) (pc' := 14) K.1 d20_10 (by decide) ?_
  cases h; exact g_ireturnN (t := .boolean) K.1 rfl (Or.inl rfl) d20_14 rfl (capC K)
theorem con_M_isDraft (l : Launch) (Z : State) (a0 : Array Value) (hw : HW a0 Z) (n1 : Nat) (a : Addr) (ha : n1 ≤ a) {σ : St} {v1 : Int32} {r : Int32 × St} (h : M_isDraft σ v1 = some r) : Con l Z cC cFS cFA 16 n1 a ⟨cC, "isDraft", "(I)Z"⟩ c20 2 (some .boolean) ⟨0, 0, 0, 0⟩ [.ref 0, .int v1] σ (some (.int r.1)) r.2 :=
  con_of_go pnC rfl (layW hw) lgood ha (fun X h1 K => ok_M_isDraft K hw h)
abbrev KM_M_highBitsClear (X : Cx (St × Nat)) (Z : State) (a0 : Array Value) (l : Launch) (n1 : Nat) (a : Addr) (h0 : Heap) : Prop := CtxC X Z a0 cC cFS cFA 16 25 l n1 a h0 ce0 ⟨0, 0, 0, 0⟩ "highBitsClear" c21 4 (some .boolean)
def M_highBitsClear (σ : St) (v1 : Int64) : Option (Int32 × St) :=
  (if ((2 : Int32) * (gI σ 121)) < (64 : Int32) then (if (XT.ushrL v1 ((2 : Int32) * (gI σ 121))) = (0 : Int64) then (some ((1 : Int32), σ)) else (some ((0 : Int32), σ))) else (some ((1 : Int32), σ)))
theorem ok_M_highBitsClear {X : Cx (St × Nat)} {Z : State} {a0 : Array Value} {l : Launch} {n1 : Nat} {a : Addr} {h0 : Heap} (K : KM_M_highBitsClear X Z a0 l n1 a h0) (hw : HW a0 Z) {σ : St} {v1 : Int64} {r : Int32 × St} (h : M_highBitsClear σ v1 = some r) : Go X (some (.int r.1), (r.2, 16)) 0 [some (.ref 0), some (.long v1), none, none] [] (σ, 16) := by
  unfold M_highBitsClear at h
  refine g_iconst (pc := 0) (v := 2) K.1 d21_0 (by decide) ?_
  refine g_aloadN (pc := 1) K.1 d21_1 rfl ?_
  refine g_getI (pc := 2) K d21_2 (w54 hw) mf_n ?_
  refine g_imul (pc := 5) K.1 d21_5 ?_
  refine g_istoreN (pc := 6) (L' := [some (.ref 0), some (.long v1), none, some (.int ((2 : Int32) * (gI σ 121)))]) K.1 d21_6 (blt rfl) rfl ?_
  refine g_iloadN (pc := 7) K.1 d21_7 rfl ?_
  refine g_bipush (pc := 8) (v := 64) K.1 d21_8 (by decide) ?_
  rcases ifs h with ⟨hc10, h⟩ | ⟨hc10, h⟩
  · refine g_icT (pc := 10) (pc' := 15) K.1 d21_10 (by decide) ((tlt hc10).1) ?_
    refine g_lloadN (pc := 15) K.1 d21_15 rfl ?_
    refine g_iloadN (pc := 16) K.1 d21_16 rfl ?_
    refine g_lushr (pc := 17) K.1 d21_17 ?_
    refine g_lconst (pc := 18) (v := 0) K.1 d21_18 (by decide) ?_
    refine g_lcmp (pc := 19) K.1 d21_19 ?_
    rcases ifs h with ⟨hc20, h⟩ | ⟨hc20, h⟩
    · refine g_ifF (pc := 20) K.1 d21_20 ((if0 _ _).trans (teq (cl_eq.mpr hc20)).2) ?_
      refine g_iconst (pc := 23) (v := 1) K.1 d21_23 (by decide) ?_
      refine g_goto (pc := 24) (pc' := 28) K.1 d21_24 (by decide) ?_
      cases h; exact g_ireturnN (t := .boolean) K.1 rfl (Or.inl rfl) d21_28 rfl (capC K)
    refine g_ifT (pc := 20) (pc' := 27) K.1 d21_20 (by decide) ((if0 _ _).trans (feq (fun q => hc20 (cl_eq.mp q))).2) ?_
    refine g_iconst (pc := 27) (v := 0) K.1 d21_27 (by decide) ?_
    cases h; exact g_ireturnN (t := .boolean) K.1 rfl (Or.inl rfl) d21_28 rfl (capC K)
  refine g_icF (pc := 10) K.1 d21_10 ((flt hc10).1) ?_
  refine g_iconst (pc := 13) (v := 1) K.1 d21_13 (by decide) ?_
  cases h; exact g_ireturnN (t := .boolean) K.1 rfl (Or.inl rfl) d21_14 rfl (capC K)
theorem con_M_highBitsClear (l : Launch) (Z : State) (a0 : Array Value) (hw : HW a0 Z) (n1 : Nat) (a : Addr) (ha : n1 ≤ a) {σ : St} {v1 : Int64} {r : Int32 × St} (h : M_highBitsClear σ v1 = some r) : Con l Z cC cFS cFA 16 n1 a ⟨cC, "highBitsClear", "(J)Z"⟩ c21 4 (some .boolean) ⟨0, 0, 0, 0⟩ [.ref 0, .long v1] σ (some (.int r.1)) r.2 :=
  con_of_go pnC rfl (layW hw) lgood ha (fun X h1 K => ok_M_highBitsClear K hw h)
abbrev KM_M_fieldOf (X : Cx (St × Nat)) (Z : State) (a0 : Array Value) (l : Launch) (n1 : Nat) (a : Addr) (h0 : Heap) : Prop := CtxC X Z a0 cC cFS cFA 16 25 l n1 a h0 ce0 ⟨0, 0, 0, 0⟩ "fieldOf" c23 7 (some .int)
def M_fieldOf (σ : St) (v1 : Int64) (v2 : Int32) : Option (Int32 × St) :=
  (if ((2 : Int32) * v2) < 0 then (some ((0 : Int32), σ)) else (if (62 : Int32) < ((2 : Int32) * v2) then (some ((0 : Int32), σ)) else (some (((((XT.ushrL v1 ((2 : Int32) * v2)) &&& (3 : Int64))).toInt32), σ))))
theorem ok_M_fieldOf {X : Cx (St × Nat)} {Z : State} {a0 : Array Value} {l : Launch} {n1 : Nat} {a : Addr} {h0 : Heap} (K : KM_M_fieldOf X Z a0 l n1 a h0) (hw : HW a0 Z) {σ : St} {v1 : Int64} {v2 : Int32} {r : Int32 × St} (h : M_fieldOf σ v1 v2 = some r) : Go X (some (.int r.1), (r.2, 16)) 0 [some (.ref 0), some (.long v1), none, some (.int v2), none, none, none] [] (σ, 16) := by
  unfold M_fieldOf at h
  refine g_iconst (pc := 0) (v := 2) K.1 d23_0 (by decide) ?_
  refine g_iloadN (pc := 1) K.1 d23_1 rfl ?_
  refine g_imul (pc := 2) K.1 d23_2 ?_
  refine g_istore (pc := 3) (L' := [some (.ref 0), some (.long v1), none, some (.int v2), some (.int ((2 : Int32) * v2)), none, none]) K.1 d23_3 (blt rfl) rfl ?_
  refine g_iload (pc := 5) K.1 d23_5 rfl ?_
  rcases ifs h with ⟨hc7, h⟩ | ⟨hc7, h⟩
  · refine g_ifT (pc := 7) (pc' := 17) K.1 d23_7 (by decide) ((if0 _ _).trans (tlt hc7).1) ?_
    refine g_iconst (pc := 17) (v := 0) K.1 d23_17 (by decide) ?_
    cases h; exact g_ireturn K.1 d23_18 (capC K)
  refine g_ifF (pc := 7) K.1 d23_7 ((if0 _ _).trans (flt hc7).1) ?_
  refine g_iload (pc := 10) K.1 d23_10 rfl ?_
  refine g_bipush (pc := 12) (v := 62) K.1 d23_12 (by decide) ?_
  rcases ifs h with ⟨hc14, h⟩ | ⟨hc14, h⟩
  · refine g_icF (pc := 14) K.1 d23_14 ((tlt hc14).2.2.2) ?_
    refine g_iconst (pc := 17) (v := 0) K.1 d23_17 (by decide) ?_
    cases h; exact g_ireturn K.1 d23_18 (capC K)
  refine g_icT (pc := 14) (pc' := 19) K.1 d23_14 (by decide) ((flt hc14).2.2.2) ?_
  refine g_lloadN (pc := 19) K.1 d23_19 rfl ?_
  refine g_iload (pc := 20) K.1 d23_20 rfl ?_
  refine g_lushr (pc := 22) K.1 d23_22 ?_
  refine g_ldc2 (pc := 23) K.1 d23_23 (w177 hw) ?_
  refine g_land (pc := 26) K.1 d23_26 ?_
  refine g_lstore (pc := 27) (L' := [some (.ref 0), some (.long v1), none, some (.int v2), some (.int ((2 : Int32) * v2)), some (.long ((XT.ushrL v1 ((2 : Int32) * v2)) &&& (3 : Int64))), none]) K.1 d23_27 (blt rfl) rfl ?_
  refine g_lload (pc := 29) K.1 d23_29 rfl ?_
  refine g_l2i (pc := 31) K.1 d23_31 ?_
  cases h; exact g_ireturn K.1 d23_32 (capC K)
theorem con_M_fieldOf (l : Launch) (Z : State) (a0 : Array Value) (hw : HW a0 Z) (n1 : Nat) (a : Addr) (ha : n1 ≤ a) {σ : St} {v1 : Int64} {v2 : Int32} {r : Int32 × St} (h : M_fieldOf σ v1 v2 = some r) : Con l Z cC cFS cFA 16 n1 a ⟨cC, "fieldOf", "(JI)I"⟩ c23 7 (some .int) ⟨0, 0, 0, 0⟩ [.ref 0, .long v1, .int v2] σ (some (.int r.1)) r.2 :=
  con_of_go pnC rfl (layW hw) lgood ha (fun X h1 K => ok_M_fieldOf K hw h)
abbrev KM_M_fieldsValid (X : Cx (St × Nat)) (Z : State) (a0 : Array Value) (l : Launch) (n1 : Nat) (a : Addr) (h0 : Heap) : Prop := CtxC X Z a0 cC cFS cFA 16 25 l n1 a h0 ce0 ⟨1, 0, 0, 18⟩ "fieldsValid" c22 4 (some .boolean)
def M_fieldsValid_w2 (NF : Nat) (k2 : Int64 → Int32 → St → Option (Int32 × St)) (j1 : Int64) (i3 : Int32) (σ : St) : Option (Int32 × St) :=
  (if i3 < (gI σ 121) then ((M_fieldOf σ j1 i3).bind fun q13 => (if q13.1 = (3 : Int32) then (some ((0 : Int32), q13.2)) else k2 j1 (i3 + (1 : Int32)) q13.2)) else (some ((1 : Int32), σ)))
theorem ok_M_fieldsValid_w2 {X : Cx (St × Nat)} {Z : State} {a0 : Array Value} {l : Launch} {n1 : Nat} {a : Addr} {h0 : Heap} {NF : Nat} (K : KM_M_fieldsValid X Z a0 l n1 a h0) (hw : HW a0 Z) {k2 : Int64 → Int32 → St → Option (Int32 × St)} {j1 : Int64} {i3 : Int32} {σ : St} {r : Int32 × St} (hk2 : ∀ (j1 : Int64) (i3 : Int32) (σ : St) (h : k2 j1 i3 σ = some r), Go X (some (.int r.1), (r.2, 16)) 2 [some (.ref 0), some (.long j1), none, some (.int i3)] [] (σ, 16)) (h : M_fieldsValid_w2 NF k2 j1 i3 σ = some r) : Go X (some (.int r.1), (r.2, 16)) 2 [some (.ref 0), some (.long j1), none, some (.int i3)] [] (σ, 16) := by
  unfold M_fieldsValid_w2 at h
  refine g_iloadN (pc := 2) K.1 d22_2 rfl ?_
  refine g_aloadN (pc := 3) K.1 d22_3 rfl ?_
  refine g_getI (pc := 4) K d22_4 (w54 hw) mf_n ?_
  rcases ifs h with ⟨hc7, h⟩ | ⟨hc7, h⟩
  · refine g_icF (pc := 7) K.1 d22_7 ((tlt hc7).2.1) ?_
    refine g_aloadN (pc := 10) K.1 d22_10 rfl ?_
    refine g_lloadN (pc := 11) K.1 d22_11 rfl ?_
    refine g_iloadN (pc := 12) K.1 d22_12 rfl ?_
    obtain ⟨q13, hq13, h⟩ := Option.bind_eq_some_iff.mp h
    refine g_callP (pc := 13) (vs := [.long j1, .int i3]) K d22_13 (w173 hw) (w174 hw) (w175 hw) (w176 hw) hyC pd_8 rfl rfl (con_M_fieldOf l Z a0 hw n1 a (ctx_le K) hq13) rfl (Nat.le_of_ble_eq_true rfl) (Nat.le_of_ble_eq_true rfl) rfl rfl ?_
    refine g_iconst (pc := 16) (v := 3) K.1 d22_16 (by decide) ?_
    rcases ifs h with ⟨hc17, h⟩ | ⟨hc17, h⟩
    · refine g_icF (pc := 17) K.1 d22_17 ((teq hc17).2) ?_
      refine g_iconst (pc := 20) (v := 0) K.1 d22_20 (by decide) ?_
      cases h; exact g_ireturnN (t := .boolean) K.1 rfl (Or.inl rfl) d22_21 rfl (capC K)
    refine g_icT (pc := 17) (pc' := 22) K.1 d22_17 (by decide) ((feq hc17).2) ?_
    refine g_iinc (pc := 22) (w := 1) (L' := [some (.ref 0), some (.long j1), none, some (.int (i3 + (1 : Int32)))]) K.1 d22_22 rfl (by decide) rfl ?_
    refine g_goto (pc := 25) (pc' := 2) K.1 d22_25 (by decide) ?_
    exact hk2 _ _ _ h
  refine g_icT (pc := 7) (pc' := 28) K.1 d22_7 (by decide) ((flt hc7).2.1) ?_
  refine g_iconst (pc := 28) (v := 1) K.1 d22_28 (by decide) ?_
  cases h; exact g_ireturnN (t := .boolean) K.1 rfl (Or.inl rfl) d22_29 rfl (capC K)
def M_fieldsValid_l2 (NF : Nat)  : Nat → Int64 → Int32 → St → Option (Int32 × St)
  | 0 => fun _ _ _ => none
  | n + 1 => fun j1 i3 σ => M_fieldsValid_w2 NF  (M_fieldsValid_l2 NF  n) j1 i3 σ
theorem ok_M_fieldsValid_l2 {X : Cx (St × Nat)} {Z : State} {a0 : Array Value} {l : Launch} {n1 : Nat} {a : Addr} {h0 : Heap} {NF : Nat} (K : KM_M_fieldsValid X Z a0 l n1 a h0) (hw : HW a0 Z) (n : Nat)  {r : Int32 × St}  : ∀ (j1 : Int64) (i3 : Int32) (σ : St) (h : M_fieldsValid_l2 NF  n j1 i3 σ = some r), Go X (some (.int r.1), (r.2, 16)) 2 [some (.ref 0), some (.long j1), none, some (.int i3)] [] (σ, 16) := by
  induction n with
  | zero => intro j1 i3 σ h; cases h
  | succ n ih => intro j1 i3 σ h; exact ok_M_fieldsValid_w2 (NF := NF) K hw  ih h
def M_fieldsValid (NF : Nat) (σ : St) (v1 : Int64) : Option (Int32 × St) :=
  M_fieldsValid_l2 NF NF v1 (0 : Int32) σ
theorem ok_M_fieldsValid {X : Cx (St × Nat)} {Z : State} {a0 : Array Value} {l : Launch} {n1 : Nat} {a : Addr} {h0 : Heap} {NF : Nat} (K : KM_M_fieldsValid X Z a0 l n1 a h0) (hw : HW a0 Z) {σ : St} {v1 : Int64} {r : Int32 × St} (h : M_fieldsValid NF σ v1 = some r) : Go X (some (.int r.1), (r.2, 16)) 0 [some (.ref 0), some (.long v1), none, none] [] (σ, 16) := by
  unfold M_fieldsValid at h
  refine g_iconst (pc := 0) (v := 0) K.1 d22_0 (by decide) ?_
  refine g_istoreN (pc := 1) (L' := [some (.ref 0), some (.long v1), none, some (.int (0 : Int32))]) K.1 d22_1 (blt rfl) rfl ?_
  exact ok_M_fieldsValid_l2 K hw NF  _ _ _ h
theorem con_M_fieldsValid (l : Launch) (Z : State) (a0 : Array Value) (hw : HW a0 Z) (n1 : Nat) (a : Addr) (ha : n1 ≤ a) {NF : Nat} {σ : St} {v1 : Int64} {r : Int32 × St} (h : M_fieldsValid NF σ v1 = some r) : Con l Z cC cFS cFA 16 n1 a ⟨cC, "fieldsValid", "(J)Z"⟩ c22 4 (some .boolean) ⟨1, 0, 0, 18⟩ [.ref 0, .long v1] σ (some (.int r.1)) r.2 :=
  con_of_go pnC rfl (layW hw) lgood ha (fun X h1 K => ok_M_fieldsValid K hw h)
abbrev KM_M_decodeField (X : Cx (St × Nat)) (Z : State) (a0 : Array Value) (l : Launch) (n1 : Nat) (a : Addr) (h0 : Heap) : Prop := CtxC X Z a0 cC cFS cFA 16 25 l n1 a h0 ce0 ⟨0, 0, 0, 0⟩ "decodeField" c25 2 (some .int)
def M_decodeField (σ : St) (v1 : Int32) : Option (Int32 × St) :=
  (if v1 = (1 : Int32) then (some ((1 : Int32), σ)) else (if v1 = (2 : Int32) then (some ((-1 : Int32), σ)) else (some ((0 : Int32), σ))))
theorem ok_M_decodeField {X : Cx (St × Nat)} {Z : State} {a0 : Array Value} {l : Launch} {n1 : Nat} {a : Addr} {h0 : Heap} (K : KM_M_decodeField X Z a0 l n1 a h0) (hw : HW a0 Z) {σ : St} {v1 : Int32} {r : Int32 × St} (h : M_decodeField σ v1 = some r) : Go X (some (.int r.1), (r.2, 16)) 0 [some (.ref 0), some (.int v1)] [] (σ, 16) := by
  unfold M_decodeField at h
  refine g_iloadN (pc := 0) K.1 d25_0 rfl ?_
  refine g_iconst (pc := 1) (v := 1) K.1 d25_1 (by decide) ?_
  rcases ifs h with ⟨hc2, h⟩ | ⟨hc2, h⟩
  · refine g_icF (pc := 2) K.1 d25_2 ((teq hc2).2) ?_
    refine g_iconst (pc := 5) (v := 1) K.1 d25_5 (by decide) ?_
    cases h; exact g_ireturn K.1 d25_6 (capC K)
  refine g_icT (pc := 2) (pc' := 7) K.1 d25_2 (by decide) ((feq hc2).2) ?_
  refine g_iloadN (pc := 7) K.1 d25_7 rfl ?_
  refine g_iconst (pc := 8) (v := 2) K.1 d25_8 (by decide) ?_
  rcases ifs h with ⟨hc9, h⟩ | ⟨hc9, h⟩
  · refine g_icF (pc := 9) K.1 d25_9 ((teq hc9).2) ?_
    refine g_iconst (pc := 12) (v := -1) K.1 d25_12 (by decide) ?_
    cases h; exact g_ireturn K.1 d25_13 (capC K)
  refine g_icT (pc := 9) (pc' := 14) K.1 d25_9 (by decide) ((feq hc9).2) ?_
  refine g_iconst (pc := 14) (v := 0) K.1 d25_14 (by decide) ?_
  cases h; exact g_ireturn K.1 d25_15 (capC K)
theorem con_M_decodeField (l : Launch) (Z : State) (a0 : Array Value) (hw : HW a0 Z) (n1 : Nat) (a : Addr) (ha : n1 ≤ a) {σ : St} {v1 : Int32} {r : Int32 × St} (h : M_decodeField σ v1 = some r) : Con l Z cC cFS cFA 16 n1 a ⟨cC, "decodeField", "(I)I"⟩ c25 2 (some .int) ⟨0, 0, 0, 0⟩ [.ref 0, .int v1] σ (some (.int r.1)) r.2 :=
  con_of_go pnC rfl (layW hw) lgood ha (fun X h1 K => ok_M_decodeField K hw h)
abbrev KM_M_unpackInto (X : Cx (St × Nat)) (Z : State) (a0 : Array Value) (l : Launch) (n1 : Nat) (a : Addr) (h0 : Heap) : Prop := CtxC X Z a0 cC cFS cFA 16 25 l n1 a h0 ce0 ⟨2, 0, 0, 30⟩ "unpackInto" c24 7 none
def M_unpackInto_w3 (NF : Nat) (k3 : Int32 → Int64 → Int32 → St → Option (St)) (i1 : Int32) (j2 : Int64) (i4 : Int32) (σ : St) : Option (St) :=
  (if i4 < (gI σ 121) then ((M_fieldOf σ j2 i4).bind fun q16 => ((M_decodeField q16.2 q16.1).bind fun q24 => ((M_store q24.2 i1 i4 q24.1).bind fun q35 => k3 i1 j2 (i4 + (1 : Int32)) q35))) else (some σ))
theorem ok_M_unpackInto_w3 {X : Cx (St × Nat)} {Z : State} {a0 : Array Value} {l : Launch} {n1 : Nat} {a : Addr} {h0 : Heap} {NF : Nat} (K : KM_M_unpackInto X Z a0 l n1 a h0) (hw : HW a0 Z) {k3 : Int32 → Int64 → Int32 → St → Option (St)} {i1 : Int32} {j2 : Int64} {i4 : Int32} {σ : St} {r : St} (hk3 : ∀ (i1 : Int32) (j2 : Int64) (i4 : Int32) (σ : St) (h : k3 i1 j2 i4 σ = some r), Go X (none, (r, 16)) 3 [some (.ref 0), some (.int i1), some (.long j2), none, some (.int i4), none, none] [] (σ, 16)) (h : M_unpackInto_w3 NF k3 i1 j2 i4 σ = some r) : Go X (none, (r, 16)) 3 [some (.ref 0), some (.int i1), some (.long j2), none, some (.int i4), none, none] [] (σ, 16) := by
  unfold M_unpackInto_w3 at h
  refine g_iload (pc := 3) K.1 d24_3 rfl ?_
  refine g_aloadN (pc := 5) K.1 d24_5 rfl ?_
  refine g_getI (pc := 6) K d24_6 (w54 hw) mf_n ?_
  rcases ifs h with ⟨hc9, h⟩ | ⟨hc9, h⟩
  · refine g_icF (pc := 9) K.1 d24_9 ((tlt hc9).2.1) ?_
    refine g_aloadN (pc := 12) K.1 d24_12 rfl ?_
    refine g_lloadN (pc := 13) K.1 d24_13 rfl ?_
    refine g_iload (pc := 14) K.1 d24_14 rfl ?_
    obtain ⟨q16, hq16, h⟩ := Option.bind_eq_some_iff.mp h
    refine g_callP (pc := 16) (vs := [.long j2, .int i4]) K d24_16 (w173 hw) (w174 hw) (w175 hw) (w176 hw) hyC pd_8 rfl rfl (con_M_fieldOf l Z a0 hw n1 a (ctx_le K) hq16) rfl (Nat.le_of_ble_eq_true rfl) (Nat.le_of_ble_eq_true rfl) rfl rfl ?_
    refine g_istore (pc := 19) (L' := [some (.ref 0), some (.int i1), some (.long j2), none, some (.int i4), some (.int q16.1), none]) K.1 d24_19 (blt rfl) rfl ?_
    refine g_aloadN (pc := 21) K.1 d24_21 rfl ?_
    refine g_iload (pc := 22) K.1 d24_22 rfl ?_
    obtain ⟨q24, hq24, h⟩ := Option.bind_eq_some_iff.mp h
    refine g_callP (pc := 24) (vs := [.int q16.1]) K d24_24 (w182 hw) (w183 hw) (w184 hw) (w185 hw) hyC pd_9 rfl rfl (con_M_decodeField l Z a0 hw n1 a (ctx_le K) hq24) rfl (Nat.le_of_ble_eq_true rfl) (Nat.le_of_ble_eq_true rfl) rfl rfl ?_
    refine g_istore (pc := 27) (L' := [some (.ref 0), some (.int i1), some (.long j2), none, some (.int i4), some (.int q16.1), some (.int q24.1)]) K.1 d24_27 (blt rfl) rfl ?_
    refine g_aloadN (pc := 29) K.1 d24_29 rfl ?_
    refine g_iloadN (pc := 30) K.1 d24_30 rfl ?_
    refine g_iload (pc := 31) K.1 d24_31 rfl ?_
    refine g_iload (pc := 33) K.1 d24_33 rfl ?_
    obtain ⟨q35, hq35, h⟩ := Option.bind_eq_some_iff.mp h
    refine g_callP (pc := 35) (vs := [.int i1, .int i4, .int q24.1]) K d24_35 (w186 hw) (w187 hw) (w188 hw) (w189 hw) hyC pd_5 rfl rfl (con_M_store l Z a0 hw n1 a (ctx_le K) hq35) rfl (Nat.le_of_ble_eq_true rfl) (Nat.le_of_ble_eq_true rfl) rfl rfl ?_
    refine g_iinc (pc := 38) (w := 1) (L' := [some (.ref 0), some (.int i1), some (.long j2), none, some (.int (i4 + (1 : Int32))), some (.int q16.1), some (.int q24.1)]) K.1 d24_38 rfl (by decide) rfl ?_
    refine g_goto (pc := 41) (pc' := 3) K.1 d24_41 (by decide) ?_
    exact g_less (hk3 _ _ _ _ h) (ls (ls (ls (ls (ls (ln (ln l0)))))))
  refine g_icT (pc := 9) (pc' := 44) K.1 d24_9 (by decide) ((flt hc9).2.1) ?_
  cases h; exact g_return K.1 d24_44 (capC K)
def M_unpackInto_l3 (NF : Nat)  : Nat → Int32 → Int64 → Int32 → St → Option (St)
  | 0 => fun _ _ _ _ => none
  | n + 1 => fun i1 j2 i4 σ => M_unpackInto_w3 NF  (M_unpackInto_l3 NF  n) i1 j2 i4 σ
theorem ok_M_unpackInto_l3 {X : Cx (St × Nat)} {Z : State} {a0 : Array Value} {l : Launch} {n1 : Nat} {a : Addr} {h0 : Heap} {NF : Nat} (K : KM_M_unpackInto X Z a0 l n1 a h0) (hw : HW a0 Z) (n : Nat)  {r : St}  : ∀ (i1 : Int32) (j2 : Int64) (i4 : Int32) (σ : St) (h : M_unpackInto_l3 NF  n i1 j2 i4 σ = some r), Go X (none, (r, 16)) 3 [some (.ref 0), some (.int i1), some (.long j2), none, some (.int i4), none, none] [] (σ, 16) := by
  induction n with
  | zero => intro i1 j2 i4 σ h; cases h
  | succ n ih => intro i1 j2 i4 σ h; exact ok_M_unpackInto_w3 (NF := NF) K hw  ih h
def M_unpackInto (NF : Nat) (σ : St) (v1 : Int32) (v2 : Int64) : Option (St) :=
  M_unpackInto_l3 NF NF v1 v2 (0 : Int32) σ
theorem ok_M_unpackInto {X : Cx (St × Nat)} {Z : State} {a0 : Array Value} {l : Launch} {n1 : Nat} {a : Addr} {h0 : Heap} {NF : Nat} (K : KM_M_unpackInto X Z a0 l n1 a h0) (hw : HW a0 Z) {σ : St} {v1 : Int32} {v2 : Int64} {r : St} (h : M_unpackInto NF σ v1 v2 = some r) : Go X (none, (r, 16)) 0 [some (.ref 0), some (.int v1), some (.long v2), none, none, none, none] [] (σ, 16) := by
  unfold M_unpackInto at h
  refine g_iconst (pc := 0) (v := 0) K.1 d24_0 (by decide) ?_
  refine g_istore (pc := 1) (L' := [some (.ref 0), some (.int v1), some (.long v2), none, some (.int (0 : Int32)), none, none]) K.1 d24_1 (blt rfl) rfl ?_
  exact ok_M_unpackInto_l3 K hw NF  _ _ _ _ h
theorem con_M_unpackInto (l : Launch) (Z : State) (a0 : Array Value) (hw : HW a0 Z) (n1 : Nat) (a : Addr) (ha : n1 ≤ a) {NF : Nat} {σ : St} {v1 : Int32} {v2 : Int64} {r : St} (h : M_unpackInto NF σ v1 v2 = some r) : Con l Z cC cFS cFA 16 n1 a ⟨cC, "unpackInto", "(IJ)V"⟩ c24 7 none ⟨2, 0, 0, 30⟩ [.ref 0, .int v1, .long v2] σ none r :=
  con_of_go pnC rfl (layW hw) lgood ha (fun X h1 K => ok_M_unpackInto K hw h)
abbrev KM_M_setPacked (X : Cx (St × Nat)) (Z : State) (a0 : Array Value) (l : Launch) (n1 : Nat) (a : Addr) (h0 : Heap) : Prop := CtxC X Z a0 cC cFS cFA 16 25 l n1 a h0 ce0 ⟨3, 0, 0, 48⟩ "setPacked" c19 4 (some .boolean)
def M_setPacked (NF : Nat) (σ : St) (v1 : Int32) (v2 : Int64) : Option (Int32 × St) :=
  ((M_isDraft σ v1).bind fun q2 => (if q2.1 = 0 then (some ((0 : Int32), q2.2)) else ((M_highBitsClear q2.2 v2).bind fun q12 => (if q12.1 = 0 then (some ((0 : Int32), q12.2)) else ((M_fieldsValid NF q12.2 v2).bind fun q22 => (if q22.1 = 0 then (some ((0 : Int32), q22.2)) else ((M_unpackInto NF q22.2 v1 v2).bind fun q33 => (some ((1 : Int32), q33)))))))))
theorem ok_M_setPacked {X : Cx (St × Nat)} {Z : State} {a0 : Array Value} {l : Launch} {n1 : Nat} {a : Addr} {h0 : Heap} {NF : Nat} (K : KM_M_setPacked X Z a0 l n1 a h0) (hw : HW a0 Z) {σ : St} {v1 : Int32} {v2 : Int64} {r : Int32 × St} (h : M_setPacked NF σ v1 v2 = some r) : Go X (some (.int r.1), (r.2, 16)) 0 [some (.ref 0), some (.int v1), some (.long v2), none] [] (σ, 16) := by
  unfold M_setPacked at h
  refine g_aloadN (pc := 0) K.1 d19_0 rfl ?_
  refine g_iloadN (pc := 1) K.1 d19_1 rfl ?_
  obtain ⟨q2, hq2, h⟩ := Option.bind_eq_some_iff.mp h
  refine g_callP (pc := 2) (vs := [.int v1]) K d19_2 (w161 hw) (w162 hw) (w163 hw) (w164 hw) hyC pd_1 rfl rfl (con_M_isDraft l Z a0 hw n1 a (ctx_le K) hq2) rfl (Nat.le_of_ble_eq_true rfl) (Nat.le_of_ble_eq_true rfl) rfl rfl ?_
  rcases ifs h with ⟨hc5, h⟩ | ⟨hc5, h⟩
  · refine g_ifF (pc := 5) K.1 d19_5 ((if0 _ _).trans (teq hc5).2) ?_
    refine g_iconst (pc := 8) (v := 0) K.1 d19_8 (by decide) ?_
    cases h; exact g_ireturnN (t := .boolean) K.1 rfl (Or.inl rfl) d19_9 rfl (capC K)
  refine g_ifT (pc := 5) (pc' := 10) K.1 d19_5 (by decide) ((if0 _ _).trans (feq hc5).2) ?_
  refine g_aloadN (pc := 10) K.1 d19_10 rfl ?_
  refine g_lloadN (pc := 11) K.1 d19_11 rfl ?_
  obtain ⟨q12, hq12, h⟩ := Option.bind_eq_some_iff.mp h
  refine g_callP (pc := 12) (vs := [.long v2]) K d19_12 (w165 hw) (w166 hw) (w167 hw) (w168 hw) hyC pd_11 rfl rfl (con_M_highBitsClear l Z a0 hw n1 a (ctx_le K) hq12) rfl (Nat.le_of_ble_eq_true rfl) (Nat.le_of_ble_eq_true rfl) rfl rfl ?_
  rcases ifs h with ⟨hc15, h⟩ | ⟨hc15, h⟩
  · refine g_ifF (pc := 15) K.1 d19_15 ((if0 _ _).trans (teq hc15).2) ?_
    refine g_iconst (pc := 18) (v := 0) K.1 d19_18 (by decide) ?_
    cases h; exact g_ireturnN (t := .boolean) K.1 rfl (Or.inl rfl) d19_19 rfl (capC K)
  refine g_ifT (pc := 15) (pc' := 20) K.1 d19_15 (by decide) ((if0 _ _).trans (feq hc15).2) ?_
  refine g_aloadN (pc := 20) K.1 d19_20 rfl ?_
  refine g_lloadN (pc := 21) K.1 d19_21 rfl ?_
  obtain ⟨q22, hq22, h⟩ := Option.bind_eq_some_iff.mp h
  refine g_callP (pc := 22) (vs := [.long v2]) K d19_22 (w169 hw) (w170 hw) (w171 hw) (w172 hw) hyC pd_11 rfl rfl (con_M_fieldsValid l Z a0 hw n1 a (ctx_le K) hq22) rfl (Nat.le_of_ble_eq_true rfl) (Nat.le_of_ble_eq_true rfl) rfl rfl ?_
  rcases ifs h with ⟨hc25, h⟩ | ⟨hc25, h⟩
  · refine g_ifF (pc := 25) K.1 d19_25 ((if0 _ _).trans (teq hc25).2) ?_
    refine g_iconst (pc := 28) (v := 0) K.1 d19_28 (by decide) ?_
    cases h; exact g_ireturnN (t := .boolean) K.1 rfl (Or.inl rfl) d19_29 rfl (capC K)
  refine g_ifT (pc := 25) (pc' := 30) K.1 d19_25 (by decide) ((if0 _ _).trans (feq hc25).2) ?_
  refine g_aloadN (pc := 30) K.1 d19_30 rfl ?_
  refine g_iloadN (pc := 31) K.1 d19_31 rfl ?_
  refine g_lloadN (pc := 32) K.1 d19_32 rfl ?_
  obtain ⟨q33, hq33, h⟩ := Option.bind_eq_some_iff.mp h
  refine g_callP (pc := 33) (vs := [.int v1, .long v2]) K d19_33 (w178 hw) (w179 hw) (w180 hw) (w181 hw) hyC pd_10 rfl rfl (con_M_unpackInto l Z a0 hw n1 a (ctx_le K) hq33) rfl (Nat.le_of_ble_eq_true rfl) (Nat.le_of_ble_eq_true rfl) rfl rfl ?_
  refine g_iconst (pc := 36) (v := 1) K.1 d19_36 (by decide) ?_
  cases h; exact g_ireturnN (t := .boolean) K.1 rfl (Or.inl rfl) d19_37 rfl (capC K)
theorem con_M_setPacked (l : Launch) (Z : State) (a0 : Array Value) (hw : HW a0 Z) (n1 : Nat) (a : Addr) (ha : n1 ≤ a) {NF : Nat} {σ : St} {v1 : Int32} {v2 : Int64} {r : Int32 × St} (h : M_setPacked NF σ v1 v2 = some r) : Con l Z cC cFS cFA 16 n1 a ⟨cC, "setPacked", "(IJ)Z"⟩ c19 4 (some .boolean) ⟨3, 0, 0, 48⟩ [.ref 0, .int v1, .long v2] σ (some (.int r.1)) r.2 :=
  con_of_go pnC rfl (layW hw) lgood ha (fun X h1 K => ok_M_setPacked K hw h)
abbrev KM_M_zeroPoly (X : Cx (St × Nat)) (Z : State) (a0 : Array Value) (l : Launch) (n1 : Nat) (a : Addr) (h0 : Heap) : Prop := CtxC X Z a0 cC cFS cFA 16 25 l n1 a h0 ce0 ⟨2, 0, 0, 30⟩ "zeroPoly" c27 3 none
def M_zeroPoly_w2 (NF : Nat) (k2 : Int32 → Int32 → St → Option (St)) (i1 : Int32) (i2 : Int32) (σ : St) : Option (St) :=
  (if i2 < (gI σ 121) then ((M_store σ i1 i2 (0 : Int32)).bind fun q14 => k2 i1 (i2 + (1 : Int32)) q14) else (some σ))
theorem ok_M_zeroPoly_w2 {X : Cx (St × Nat)} {Z : State} {a0 : Array Value} {l : Launch} {n1 : Nat} {a : Addr} {h0 : Heap} {NF : Nat} (K : KM_M_zeroPoly X Z a0 l n1 a h0) (hw : HW a0 Z) {k2 : Int32 → Int32 → St → Option (St)} {i1 : Int32} {i2 : Int32} {σ : St} {r : St} (hk2 : ∀ (i1 : Int32) (i2 : Int32) (σ : St) (h : k2 i1 i2 σ = some r), Go X (none, (r, 16)) 2 [some (.ref 0), some (.int i1), some (.int i2)] [] (σ, 16)) (h : M_zeroPoly_w2 NF k2 i1 i2 σ = some r) : Go X (none, (r, 16)) 2 [some (.ref 0), some (.int i1), some (.int i2)] [] (σ, 16) := by
  unfold M_zeroPoly_w2 at h
  refine g_iloadN (pc := 2) K.1 d27_2 rfl ?_
  refine g_aloadN (pc := 3) K.1 d27_3 rfl ?_
  refine g_getI (pc := 4) K d27_4 (w54 hw) mf_n ?_
  rcases ifs h with ⟨hc7, h⟩ | ⟨hc7, h⟩
  · refine g_icF (pc := 7) K.1 d27_7 ((tlt hc7).2.1) ?_
    refine g_aloadN (pc := 10) K.1 d27_10 rfl ?_
    refine g_iloadN (pc := 11) K.1 d27_11 rfl ?_
    refine g_iloadN (pc := 12) K.1 d27_12 rfl ?_
    refine g_iconst (pc := 13) (v := 0) K.1 d27_13 (by decide) ?_
    obtain ⟨q14, hq14, h⟩ := Option.bind_eq_some_iff.mp h
    refine g_callP (pc := 14) (vs := [.int i1, .int i2, .int (0 : Int32)]) K d27_14 (w186 hw) (w187 hw) (w188 hw) (w189 hw) hyC pd_5 rfl rfl (con_M_store l Z a0 hw n1 a (ctx_le K) hq14) rfl (Nat.le_of_ble_eq_true rfl) (Nat.le_of_ble_eq_true rfl) rfl rfl ?_
    refine g_iinc (pc := 17) (w := 1) (L' := [some (.ref 0), some (.int i1), some (.int (i2 + (1 : Int32)))]) K.1 d27_17 rfl (by decide) rfl ?_
    refine g_goto (pc := 20) (pc' := 2) K.1 d27_20 (by decide) ?_
    exact hk2 _ _ _ h
  refine g_icT (pc := 7) (pc' := 23) K.1 d27_7 (by decide) ((flt hc7).2.1) ?_
  cases h; exact g_return K.1 d27_23 (capC K)
def M_zeroPoly_l2 (NF : Nat)  : Nat → Int32 → Int32 → St → Option (St)
  | 0 => fun _ _ _ => none
  | n + 1 => fun i1 i2 σ => M_zeroPoly_w2 NF  (M_zeroPoly_l2 NF  n) i1 i2 σ
theorem ok_M_zeroPoly_l2 {X : Cx (St × Nat)} {Z : State} {a0 : Array Value} {l : Launch} {n1 : Nat} {a : Addr} {h0 : Heap} {NF : Nat} (K : KM_M_zeroPoly X Z a0 l n1 a h0) (hw : HW a0 Z) (n : Nat)  {r : St}  : ∀ (i1 : Int32) (i2 : Int32) (σ : St) (h : M_zeroPoly_l2 NF  n i1 i2 σ = some r), Go X (none, (r, 16)) 2 [some (.ref 0), some (.int i1), some (.int i2)] [] (σ, 16) := by
  induction n with
  | zero => intro i1 i2 σ h; cases h
  | succ n ih => intro i1 i2 σ h; exact ok_M_zeroPoly_w2 (NF := NF) K hw  ih h
def M_zeroPoly (NF : Nat) (σ : St) (v1 : Int32) : Option (St) :=
  M_zeroPoly_l2 NF NF v1 (0 : Int32) σ
theorem ok_M_zeroPoly {X : Cx (St × Nat)} {Z : State} {a0 : Array Value} {l : Launch} {n1 : Nat} {a : Addr} {h0 : Heap} {NF : Nat} (K : KM_M_zeroPoly X Z a0 l n1 a h0) (hw : HW a0 Z) {σ : St} {v1 : Int32} {r : St} (h : M_zeroPoly NF σ v1 = some r) : Go X (none, (r, 16)) 0 [some (.ref 0), some (.int v1), none] [] (σ, 16) := by
  unfold M_zeroPoly at h
  refine g_iconst (pc := 0) (v := 0) K.1 d27_0 (by decide) ?_
  refine g_istoreN (pc := 1) (L' := [some (.ref 0), some (.int v1), some (.int (0 : Int32))]) K.1 d27_1 (blt rfl) rfl ?_
  exact ok_M_zeroPoly_l2 K hw NF  _ _ _ h
theorem con_M_zeroPoly (l : Launch) (Z : State) (a0 : Array Value) (hw : HW a0 Z) (n1 : Nat) (a : Addr) (ha : n1 ≤ a) {NF : Nat} {σ : St} {v1 : Int32} {r : St} (h : M_zeroPoly NF σ v1 = some r) : Con l Z cC cFS cFA 16 n1 a ⟨cC, "zeroPoly", "(I)V"⟩ c27 3 none ⟨2, 0, 0, 30⟩ [.ref 0, .int v1] σ none r :=
  con_of_go pnC rfl (layW hw) lgood ha (fun X h1 K => ok_M_zeroPoly K hw h)
abbrev KM_M_clear (X : Cx (St × Nat)) (Z : State) (a0 : Array Value) (l : Launch) (n1 : Nat) (a : Addr) (h0 : Heap) : Prop := CtxC X Z a0 cC cFS cFA 16 25 l n1 a h0 ce0 ⟨3, 0, 0, 44⟩ "clear" c26 2 (some .boolean)
def M_clear (NF : Nat) (σ : St) (v1 : Int32) : Option (Int32 × St) :=
  ((M_isWritable σ v1).bind fun q2 => (if q2.1 = 0 then (some ((0 : Int32), q2.2)) else ((M_zeroPoly NF q2.2 v1).bind fun q12 => (some ((1 : Int32), q12)))))
theorem ok_M_clear {X : Cx (St × Nat)} {Z : State} {a0 : Array Value} {l : Launch} {n1 : Nat} {a : Addr} {h0 : Heap} {NF : Nat} (K : KM_M_clear X Z a0 l n1 a h0) (hw : HW a0 Z) {σ : St} {v1 : Int32} {r : Int32 × St} (h : M_clear NF σ v1 = some r) : Go X (some (.int r.1), (r.2, 16)) 0 [some (.ref 0), some (.int v1)] [] (σ, 16) := by
  unfold M_clear at h
  refine g_aloadN (pc := 0) K.1 d26_0 rfl ?_
  refine g_iloadN (pc := 1) K.1 d26_1 rfl ?_
  obtain ⟨q2, hq2, h⟩ := Option.bind_eq_some_iff.mp h
  refine g_callP (pc := 2) (vs := [.int v1]) K d26_2 (w199 hw) (w200 hw) (w201 hw) (w202 hw) hyC pd_1 rfl rfl (con_M_isWritable l Z a0 hw n1 a (ctx_le K) hq2) rfl (Nat.le_of_ble_eq_true rfl) (Nat.le_of_ble_eq_true rfl) rfl rfl ?_
  rcases ifs h with ⟨hc5, h⟩ | ⟨hc5, h⟩
  · refine g_ifF (pc := 5) K.1 d26_5 ((if0 _ _).trans (teq hc5).2) ?_
    refine g_iconst (pc := 8) (v := 0) K.1 d26_8 (by decide) ?_
    cases h; exact g_ireturnN (t := .boolean) K.1 rfl (Or.inl rfl) d26_9 rfl (capC K)
  refine g_ifT (pc := 5) (pc' := 10) K.1 d26_5 (by decide) ((if0 _ _).trans (feq hc5).2) ?_
  refine g_aloadN (pc := 10) K.1 d26_10 rfl ?_
  refine g_iloadN (pc := 11) K.1 d26_11 rfl ?_
  obtain ⟨q12, hq12, h⟩ := Option.bind_eq_some_iff.mp h
  refine g_callP (pc := 12) (vs := [.int v1]) K d26_12 (w216 hw) (w217 hw) (w218 hw) (w219 hw) hyC pd_13 rfl rfl (con_M_zeroPoly l Z a0 hw n1 a (ctx_le K) hq12) rfl (Nat.le_of_ble_eq_true rfl) (Nat.le_of_ble_eq_true rfl) rfl rfl ?_
  refine g_iconst (pc := 15) (v := 1) K.1 d26_15 (by decide) ?_
  cases h; exact g_ireturnN (t := .boolean) K.1 rfl (Or.inl rfl) d26_16 rfl (capC K)
theorem con_M_clear (l : Launch) (Z : State) (a0 : Array Value) (hw : HW a0 Z) (n1 : Nat) (a : Addr) (ha : n1 ≤ a) {NF : Nat} {σ : St} {v1 : Int32} {r : Int32 × St} (h : M_clear NF σ v1 = some r) : Con l Z cC cFS cFA 16 n1 a ⟨cC, "clear", "(I)Z"⟩ c26 2 (some .boolean) ⟨3, 0, 0, 44⟩ [.ref 0, .int v1] σ (some (.int r.1)) r.2 :=
  con_of_go pnC rfl (layW hw) lgood ha (fun X h1 K => ok_M_clear K hw h)
abbrev KM_M_mod (X : Cx (St × Nat)) (Z : State) (a0 : Array Value) (l : Launch) (n1 : Nat) (a : Addr) (h0 : Heap) : Prop := CtxC X Z a0 cC cFS cFA 16 25 l n1 a h0 ce0 ⟨0, 0, 0, 0⟩ "mod" c33 4 (some .int)
def M_mod (σ : St) (v1 : Int32) (v2 : Int32) : Option (Int32 × St) :=
  (if 0 < v2 then (if v2 = 0 then none else (if (v1 % v2) < 0 then (some (((v1 % v2) + v2), σ)) else (some ((v1 % v2), σ)))) else (some ((0 : Int32), σ)))
theorem ok_M_mod {X : Cx (St × Nat)} {Z : State} {a0 : Array Value} {l : Launch} {n1 : Nat} {a : Addr} {h0 : Heap} (K : KM_M_mod X Z a0 l n1 a h0) (hw : HW a0 Z) {σ : St} {v1 : Int32} {v2 : Int32} {r : Int32 × St} (h : M_mod σ v1 v2 = some r) : Go X (some (.int r.1), (r.2, 16)) 0 [some (.ref 0), some (.int v1), some (.int v2), none] [] (σ, 16) := by
  unfold M_mod at h
  refine g_iloadN (pc := 0) K.1 d33_0 rfl ?_
  rcases ifs h with ⟨hc1, h⟩ | ⟨hc1, h⟩
  · refine g_ifT (pc := 1) (pc' := 6) K.1 d33_1 (by decide) ((if0 _ _).trans (tlt hc1).2.2.1) ?_
    refine g_iloadN (pc := 6) K.1 d33_6 rfl ?_
    refine g_iloadN (pc := 7) K.1 d33_7 rfl ?_
    obtain ⟨hc8, h⟩ := ifz h
    refine g_irem (pc := 8) K.1 d33_8 hc8 ?_
    refine g_istoreN (pc := 9) (L' := [some (.ref 0), some (.int v1), some (.int v2), some (.int (v1 % v2))]) K.1 d33_9 (blt rfl) rfl ?_
    refine g_iloadN (pc := 10) K.1 d33_10 rfl ?_
    rcases ifs h with ⟨hc11, h⟩ | ⟨hc11, h⟩
    · refine g_ifF (pc := 11) K.1 d33_11 ((if0 _ _).trans (tlt hc11).2.1) ?_
      refine g_iloadN (pc := 14) K.1 d33_14 rfl ?_
      refine g_iloadN (pc := 15) K.1 d33_15 rfl ?_
      refine g_iadd (pc := 16) K.1 d33_16 ?_
      refine g_istoreN (pc := 17) (L' := [some (.ref 0), some (.int v1), some (.int v2), some (.int ((v1 % v2) + v2))]) K.1 d33_17 (blt rfl) rfl ?_
      refine g_iloadN (pc := 18) K.1 d33_18 rfl ?_
      cases h; exact g_ireturn K.1 d33_19 (capC K)
    refine g_ifT (pc := 11) (pc' := 18) K.1 d33_11 (by decide) ((if0 _ _).trans (flt hc11).2.1) ?_
    refine g_iloadN (pc := 18) K.1 d33_18 rfl ?_
    cases h; exact g_ireturn K.1 d33_19 (capC K)
  refine g_ifF (pc := 1) K.1 d33_1 ((if0 _ _).trans (flt hc1).2.2.1) ?_
  refine g_iconst (pc := 4) (v := 0) K.1 d33_4 (by decide) ?_
  cases h; exact g_ireturn K.1 d33_5 (capC K)
theorem con_M_mod (l : Launch) (Z : State) (a0 : Array Value) (hw : HW a0 Z) (n1 : Nat) (a : Addr) (ha : n1 ≤ a) {σ : St} {v1 : Int32} {v2 : Int32} {r : Int32 × St} (h : M_mod σ v1 v2 = some r) : Con l Z cC cFS cFA 16 n1 a ⟨cC, "mod", "(II)I"⟩ c33 4 (some .int) ⟨0, 0, 0, 0⟩ [.ref 0, .int v1, .int v2] σ (some (.int r.1)) r.2 :=
  con_of_go pnC rfl (layW hw) lgood ha (fun X h1 K => ok_M_mod K hw h)
abbrev KM_M_cyclicIndex (X : Cx (St × Nat)) (Z : State) (a0 : Array Value) (l : Launch) (n1 : Nat) (a : Addr) (h0 : Heap) : Prop := CtxC X Z a0 cC cFS cFA 16 25 l n1 a h0 ce0 ⟨1, 0, 0, 15⟩ "cyclicIndex" c32 2 (some .int)
def M_cyclicIndex (σ : St) (v1 : Int32) : Option (Int32 × St) :=
  ((M_mod σ v1 (gI σ 121)).bind fun q6 => (some (q6.1, q6.2)))
theorem ok_M_cyclicIndex {X : Cx (St × Nat)} {Z : State} {a0 : Array Value} {l : Launch} {n1 : Nat} {a : Addr} {h0 : Heap} (K : KM_M_cyclicIndex X Z a0 l n1 a h0) (hw : HW a0 Z) {σ : St} {v1 : Int32} {r : Int32 × St} (h : M_cyclicIndex σ v1 = some r) : Go X (some (.int r.1), (r.2, 16)) 0 [some (.ref 0), some (.int v1)] [] (σ, 16) := by
  unfold M_cyclicIndex at h
  refine g_aloadN (pc := 0) K.1 d32_0 rfl ?_
  refine g_iloadN (pc := 1) K.1 d32_1 rfl ?_
  refine g_aloadN (pc := 2) K.1 d32_2 rfl ?_
  refine g_getI (pc := 3) K d32_3 (w54 hw) mf_n ?_
  obtain ⟨q6, hq6, h⟩ := Option.bind_eq_some_iff.mp h
  refine g_callP (pc := 6) (vs := [.int v1, .int (gI σ 121)]) K d32_6 (w93 hw) (w94 hw) (w95 hw) (w96 hw) hyC pd_0 rfl rfl (con_M_mod l Z a0 hw n1 a (ctx_le K) hq6) rfl (Nat.le_of_ble_eq_true rfl) (Nat.le_of_ble_eq_true rfl) rfl rfl ?_
  cases h; exact g_ireturn K.1 d32_9 (capC K)
theorem con_M_cyclicIndex (l : Launch) (Z : State) (a0 : Array Value) (hw : HW a0 Z) (n1 : Nat) (a : Addr) (ha : n1 ≤ a) {σ : St} {v1 : Int32} {r : Int32 × St} (h : M_cyclicIndex σ v1 = some r) : Con l Z cC cFS cFA 16 n1 a ⟨cC, "cyclicIndex", "(I)I"⟩ c32 2 (some .int) ⟨1, 0, 0, 15⟩ [.ref 0, .int v1] σ (some (.int r.1)) r.2 :=
  con_of_go pnC rfl (layW hw) lgood ha (fun X h1 K => ok_M_cyclicIndex K hw h)
abbrev KM_M_matPut (X : Cx (St × Nat)) (Z : State) (a0 : Array Value) (l : Launch) (n1 : Nat) (a : Addr) (h0 : Heap) : Prop := CtxC X Z a0 cC cFS cFA 16 25 l n1 a h0 ce0 ⟨0, 0, 0, 0⟩ "matPut" c34 4 none
def M_matPut (σ : St) (v1 : Int32) (v2 : Int32) (v3 : Int32) : Option (St) :=
  (if v1 < 0 then (some σ) else (if v1 < (17 : Int32) then (if v2 < 0 then (some σ) else (if v2 < (18 : Int32) then (if 0 ≤ (((v1 * (18 : Int32)) + v2)).toInt ∧ (((v1 * (18 : Int32)) + v2)).toInt < 306 then (some (sA σ 12 (((v1 * (18 : Int32)) + v2)).toInt v3)) else none) else (some σ))) else (some σ)))
theorem ok_M_matPut {X : Cx (St × Nat)} {Z : State} {a0 : Array Value} {l : Launch} {n1 : Nat} {a : Addr} {h0 : Heap} (K : KM_M_matPut X Z a0 l n1 a h0) (hw : HW a0 Z) {σ : St} {v1 : Int32} {v2 : Int32} {v3 : Int32} {r : St} (h : M_matPut σ v1 v2 v3 = some r) : Go X (none, (r, 16)) 0 [some (.ref 0), some (.int v1), some (.int v2), some (.int v3)] [] (σ, 16) := by
  unfold M_matPut at h
  refine g_iloadN (pc := 0) K.1 d34_0 rfl ?_
  rcases ifs h with ⟨hc1, h⟩ | ⟨hc1, h⟩
  · refine g_ifT (pc := 1) (pc' := 20) K.1 d34_1 (by decide) ((if0 _ _).trans (tlt hc1).1) ?_
    cases h; exact g_return K.1 d34_20 (capC K)
  refine g_ifF (pc := 1) K.1 d34_1 ((if0 _ _).trans (flt hc1).1) ?_
  refine g_iloadN (pc := 4) K.1 d34_4 rfl ?_
  refine g_bipush (pc := 5) (v := 17) K.1 d34_5 (by decide) ?_
  rcases ifs h with ⟨hc7, h⟩ | ⟨hc7, h⟩
  · refine g_icF (pc := 7) K.1 d34_7 ((tlt hc7).2.1) ?_
    refine g_iloadN (pc := 10) K.1 d34_10 rfl ?_
    rcases ifs h with ⟨hc11, h⟩ | ⟨hc11, h⟩
    · refine g_ifT (pc := 11) (pc' := 20) K.1 d34_11 (by decide) ((if0 _ _).trans (tlt hc11).1) ?_
      cases h; exact g_return K.1 d34_20 (capC K)
    refine g_ifF (pc := 11) K.1 d34_11 ((if0 _ _).trans (flt hc11).1) ?_
    refine g_iloadN (pc := 14) K.1 d34_14 rfl ?_
    refine g_bipush (pc := 15) (v := 18) K.1 d34_15 (by decide) ?_
    rcases ifs h with ⟨hc17, h⟩ | ⟨hc17, h⟩
    · refine g_icT (pc := 17) (pc' := 21) K.1 d34_17 (by decide) ((tlt hc17).1) ?_
      refine g_aloadN (pc := 21) K.1 d34_21 rfl ?_
      refine g_getA (pc := 22) K d34_22 (w32 hw) mf_mat rfl ?_
      refine g_iloadN (pc := 25) K.1 d34_25 rfl ?_
      refine g_bipush (pc := 26) (v := 18) K.1 d34_26 (by decide) ?_
      refine g_imul (pc := 28) K.1 d34_28 ?_
      refine g_iloadN (pc := 29) K.1 d34_29 rfl ?_
      refine g_iadd (pc := 30) K.1 d34_30 ?_
      refine g_iloadN (pc := 31) K.1 d34_31 rfl ?_
      obtain ⟨hc32, h⟩ := ifn h
      refine g_iastore (pc := 32) K d34_32 ma_mat rfl hc32 ?_
      cases h; exact g_return K.1 d34_33 (capC K)
    refine g_icF (pc := 17) K.1 d34_17 ((flt hc17).1) ?_
    cases h; exact g_return K.1 d34_20 (capC K)
  refine g_icT (pc := 7) (pc' := 20) K.1 d34_7 (by decide) ((flt hc7).2.1) ?_
  cases h; exact g_return K.1 d34_20 (capC K)
theorem con_M_matPut (l : Launch) (Z : State) (a0 : Array Value) (hw : HW a0 Z) (n1 : Nat) (a : Addr) (ha : n1 ≤ a) {σ : St} {v1 : Int32} {v2 : Int32} {v3 : Int32} {r : St} (h : M_matPut σ v1 v2 v3 = some r) : Con l Z cC cFS cFA 16 n1 a ⟨cC, "matPut", "(III)V"⟩ c34 4 none ⟨0, 0, 0, 0⟩ [.ref 0, .int v1, .int v2, .int v3] σ none r :=
  con_of_go pnC rfl (layW hw) lgood ha (fun X h1 K => ok_M_matPut K hw h)
abbrev KM_M_unitCoeff (X : Cx (St × Nat)) (Z : State) (a0 : Array Value) (l : Launch) (n1 : Nat) (a : Addr) (h0 : Heap) : Prop := CtxC X Z a0 cC cFS cFA 16 25 l n1 a h0 ce0 ⟨0, 0, 0, 0⟩ "unitCoeff" c35 2 (some .int)
def M_unitCoeff (σ : St) (v1 : Int32) : Option (Int32 × St) :=
  (if v1 = 0 then (some ((1 : Int32), σ)) else (some ((0 : Int32), σ)))
theorem ok_M_unitCoeff {X : Cx (St × Nat)} {Z : State} {a0 : Array Value} {l : Launch} {n1 : Nat} {a : Addr} {h0 : Heap} (K : KM_M_unitCoeff X Z a0 l n1 a h0) (hw : HW a0 Z) {σ : St} {v1 : Int32} {r : Int32 × St} (h : M_unitCoeff σ v1 = some r) : Go X (some (.int r.1), (r.2, 16)) 0 [some (.ref 0), some (.int v1)] [] (σ, 16) := by
  unfold M_unitCoeff at h
  refine g_iloadN (pc := 0) K.1 d35_0 rfl ?_
  rcases ifs h with ⟨hc1, h⟩ | ⟨hc1, h⟩
  · refine g_ifF (pc := 1) K.1 d35_1 ((if0 _ _).trans (teq hc1).2) ?_
    refine g_iconst (pc := 4) (v := 1) K.1 d35_4 (by decide) ?_
    cases h; exact g_ireturn K.1 d35_5 (capC K)
  refine g_ifT (pc := 1) (pc' := 6) K.1 d35_1 (by decide) ((if0 _ _).trans (feq hc1).2) ?_
  refine g_iconst (pc := 6) (v := 0) K.1 d35_6 (by decide) ?_
  cases h; exact g_ireturn K.1 d35_7 (capC K)
theorem con_M_unitCoeff (l : Launch) (Z : State) (a0 : Array Value) (hw : HW a0 Z) (n1 : Nat) (a : Addr) (ha : n1 ≤ a) {σ : St} {v1 : Int32} {r : Int32 × St} (h : M_unitCoeff σ v1 = some r) : Con l Z cC cFS cFA 16 n1 a ⟨cC, "unitCoeff", "(I)I"⟩ c35 2 (some .int) ⟨0, 0, 0, 0⟩ [.ref 0, .int v1] σ (some (.int r.1)) r.2 :=
  con_of_go pnC rfl (layW hw) lgood ha (fun X h1 K => ok_M_unitCoeff K hw h)
abbrev KM_M_clearMatrix (X : Cx (St × Nat)) (Z : State) (a0 : Array Value) (l : Launch) (n1 : Nat) (a : Addr) (h0 : Heap) : Prop := CtxC X Z a0 cC cFS cFA 16 25 l n1 a h0 ce0 ⟨0, 0, 0, 0⟩ "clearMatrix" c36 2 none
def M_clearMatrix_w2 (NF : Nat) (k2 : Int32 → St → Option (St)) (i1 : Int32) (σ : St) : Option (St) :=
  (if i1 < (306 : Int32) then (if 0 ≤ (i1).toInt ∧ (i1).toInt < 306 then k2 (i1 + (1 : Int32)) (sA σ 12 (i1).toInt (0 : Int32)) else none) else (some σ))
theorem ok_M_clearMatrix_w2 {X : Cx (St × Nat)} {Z : State} {a0 : Array Value} {l : Launch} {n1 : Nat} {a : Addr} {h0 : Heap} {NF : Nat} (K : KM_M_clearMatrix X Z a0 l n1 a h0) (hw : HW a0 Z) {k2 : Int32 → St → Option (St)} {i1 : Int32} {σ : St} {r : St} (hk2 : ∀ (i1 : Int32) (σ : St) (h : k2 i1 σ = some r), Go X (none, (r, 16)) 2 [some (.ref 0), some (.int i1)] [] (σ, 16)) (h : M_clearMatrix_w2 NF k2 i1 σ = some r) : Go X (none, (r, 16)) 2 [some (.ref 0), some (.int i1)] [] (σ, 16) := by
  unfold M_clearMatrix_w2 at h
  refine g_iloadN (pc := 2) K.1 d36_2 rfl ?_
  refine g_sipush (pc := 3) (v := 306) K.1 d36_3 (by decide) ?_
  rcases ifs h with ⟨hc6, h⟩ | ⟨hc6, h⟩
  · refine g_icF (pc := 6) K.1 d36_6 ((tlt hc6).2.1) ?_
    refine g_aloadN (pc := 9) K.1 d36_9 rfl ?_
    refine g_getA (pc := 10) K d36_10 (w32 hw) mf_mat rfl ?_
    refine g_iloadN (pc := 13) K.1 d36_13 rfl ?_
    refine g_iconst (pc := 14) (v := 0) K.1 d36_14 (by decide) ?_
    obtain ⟨hc15, h⟩ := ifn h
    refine g_iastore (pc := 15) K d36_15 ma_mat rfl hc15 ?_
    refine g_iinc (pc := 16) (w := 1) (L' := [some (.ref 0), some (.int (i1 + (1 : Int32)))]) K.1 d36_16 rfl (by decide) rfl ?_
    refine g_goto (pc := 19) (pc' := 2) K.1 d36_19 (by decide) ?_
    exact hk2 _ _ h
  refine g_icT (pc := 6) (pc' := 22) K.1 d36_6 (by decide) ((flt hc6).2.1) ?_
  cases h; exact g_return K.1 d36_22 (capC K)
def M_clearMatrix_l2 (NF : Nat)  : Nat → Int32 → St → Option (St)
  | 0 => fun _ _ => none
  | n + 1 => fun i1 σ => M_clearMatrix_w2 NF  (M_clearMatrix_l2 NF  n) i1 σ
theorem ok_M_clearMatrix_l2 {X : Cx (St × Nat)} {Z : State} {a0 : Array Value} {l : Launch} {n1 : Nat} {a : Addr} {h0 : Heap} {NF : Nat} (K : KM_M_clearMatrix X Z a0 l n1 a h0) (hw : HW a0 Z) (n : Nat)  {r : St}  : ∀ (i1 : Int32) (σ : St) (h : M_clearMatrix_l2 NF  n i1 σ = some r), Go X (none, (r, 16)) 2 [some (.ref 0), some (.int i1)] [] (σ, 16) := by
  induction n with
  | zero => intro i1 σ h; cases h
  | succ n ih => intro i1 σ h; exact ok_M_clearMatrix_w2 (NF := NF) K hw  ih h
def M_clearMatrix (NF : Nat) (σ : St) : Option (St) :=
  M_clearMatrix_l2 NF NF (0 : Int32) σ
theorem ok_M_clearMatrix {X : Cx (St × Nat)} {Z : State} {a0 : Array Value} {l : Launch} {n1 : Nat} {a : Addr} {h0 : Heap} {NF : Nat} (K : KM_M_clearMatrix X Z a0 l n1 a h0) (hw : HW a0 Z) {σ : St} {r : St} (h : M_clearMatrix NF σ = some r) : Go X (none, (r, 16)) 0 [some (.ref 0), none] [] (σ, 16) := by
  unfold M_clearMatrix at h
  refine g_iconst (pc := 0) (v := 0) K.1 d36_0 (by decide) ?_
  refine g_istoreN (pc := 1) (L' := [some (.ref 0), some (.int (0 : Int32))]) K.1 d36_1 (blt rfl) rfl ?_
  exact ok_M_clearMatrix_l2 K hw NF  _ _ h
theorem con_M_clearMatrix (l : Launch) (Z : State) (a0 : Array Value) (hw : HW a0 Z) (n1 : Nat) (a : Addr) (ha : n1 ≤ a) {NF : Nat} {σ : St} {r : St} (h : M_clearMatrix NF σ = some r) : Con l Z cC cFS cFA 16 n1 a ⟨cC, "clearMatrix", "()V"⟩ c36 2 none ⟨0, 0, 0, 0⟩ [.ref 0] σ none r :=
  con_of_go pnC rfl (layW hw) lgood ha (fun X h1 K => ok_M_clearMatrix K hw h)
abbrev KM_M_buildSystem (X : Cx (St × Nat)) (Z : State) (a0 : Array Value) (l : Launch) (n1 : Nat) (a : Addr) (h0 : Heap) : Prop := CtxC X Z a0 cC cFS cFA 16 25 l n1 a h0 ce0 ⟨2, 0, 0, 28⟩ "buildSystem" c31 7 none
def M_buildSystem_w16 (NF : Nat) (k6 : Int32 → Int32 → St → Option (St)) (k16 : Int32 → Int32 → Int32 → St → Option (St)) (i1 : Int32) (i2 : Int32) (i3 : Int32) (σ : St) : Option (St) :=
  (if i3 < (gI σ 121) then ((M_cyclicIndex σ (i2 - i3)).bind fun q28 => ((M_load q28.2 (0 : Int32) q28.1).bind fun q37 => ((M_mod q37.2 q37.1 i1).bind fun q46 => ((M_matPut q46.2 i2 i3 q46.1).bind fun q56 => k16 i1 i2 (i3 + (1 : Int32)) q56)))) else ((M_unitCoeff σ i2).bind fun q67 => ((M_matPut q67.2 i2 (gI q67.2 121) q67.1).bind fun q78 => k6 i1 (i2 + (1 : Int32)) q78)))
theorem ok_M_buildSystem_w16 {X : Cx (St × Nat)} {Z : State} {a0 : Array Value} {l : Launch} {n1 : Nat} {a : Addr} {h0 : Heap} {NF : Nat} (K : KM_M_buildSystem X Z a0 l n1 a h0) (hw : HW a0 Z) {k6 : Int32 → Int32 → St → Option (St)} {k16 : Int32 → Int32 → Int32 → St → Option (St)} {i1 : Int32} {i2 : Int32} {i3 : Int32} {σ : St} {r : St} (hk6 : ∀ (i1 : Int32) (i2 : Int32) (σ : St) (h : k6 i1 i2 σ = some r), Go X (none, (r, 16)) 6 [some (.ref 0), some (.int i1), some (.int i2), none, none, none, none] [] (σ, 16)) (hk16 : ∀ (i1 : Int32) (i2 : Int32) (i3 : Int32) (σ : St) (h : k16 i1 i2 i3 σ = some r), Go X (none, (r, 16)) 16 [some (.ref 0), some (.int i1), some (.int i2), some (.int i3), none, none, none] [] (σ, 16)) (h : M_buildSystem_w16 NF k6 k16 i1 i2 i3 σ = some r) : Go X (none, (r, 16)) 16 [some (.ref 0), some (.int i1), some (.int i2), some (.int i3), none, none, none] [] (σ, 16) := by
  unfold M_buildSystem_w16 at h
  refine g_iloadN (pc := 16) K.1 d31_16 rfl ?_
  refine g_aloadN (pc := 17) K.1 d31_17 rfl ?_
  refine g_getI (pc := 18) K d31_18 (w54 hw) mf_n ?_
  rcases ifs h with ⟨hc21, h⟩ | ⟨hc21, h⟩
  · refine g_icF (pc := 21) K.1 d31_21 ((tlt hc21).2.1) ?_
    refine g_aloadN (pc := 24) K.1 d31_24 rfl ?_
    refine g_iloadN (pc := 25) K.1 d31_25 rfl ?_
    refine g_iloadN (pc := 26) K.1 d31_26 rfl ?_
    refine g_isub (pc := 27) K.1 d31_27 ?_
    obtain ⟨q28, hq28, h⟩ := Option.bind_eq_some_iff.mp h
    refine g_callP (pc := 28) (vs := [.int (i2 - i3)]) K d31_28 (w89 hw) (w90 hw) (w91 hw) (w92 hw) hyC pd_9 rfl rfl (con_M_cyclicIndex l Z a0 hw n1 a (ctx_le K) hq28) rfl (Nat.le_of_ble_eq_true rfl) (Nat.le_of_ble_eq_true rfl) rfl rfl ?_
    refine g_istore (pc := 31) (L' := [some (.ref 0), some (.int i1), some (.int i2), some (.int i3), some (.int q28.1), none, none]) K.1 d31_31 (blt rfl) rfl ?_
    refine g_aloadN (pc := 33) K.1 d31_33 rfl ?_
    refine g_iconst (pc := 34) (v := 0) K.1 d31_34 (by decide) ?_
    refine g_iload (pc := 35) K.1 d31_35 rfl ?_
    obtain ⟨q37, hq37, h⟩ := Option.bind_eq_some_iff.mp h
    refine g_callP (pc := 37) (vs := [.int (0 : Int32), .int q28.1]) K d31_37 (w97 hw) (w98 hw) (w99 hw) (w100 hw) hyC pd_0 rfl rfl (con_M_load l Z a0 hw n1 a (ctx_le K) hq37) rfl (Nat.le_of_ble_eq_true rfl) (Nat.le_of_ble_eq_true rfl) rfl rfl ?_
    refine g_istore (pc := 40) (L' := [some (.ref 0), some (.int i1), some (.int i2), some (.int i3), some (.int q28.1), some (.int q37.1), none]) K.1 d31_40 (blt rfl) rfl ?_
    refine g_aloadN (pc := 42) K.1 d31_42 rfl ?_
    refine g_iload (pc := 43) K.1 d31_43 rfl ?_
    refine g_iloadN (pc := 45) K.1 d31_45 rfl ?_
    obtain ⟨q46, hq46, h⟩ := Option.bind_eq_some_iff.mp h
    refine g_callP (pc := 46) (vs := [.int q37.1, .int i1]) K d31_46 (w93 hw) (w94 hw) (w95 hw) (w96 hw) hyC pd_0 rfl rfl (con_M_mod l Z a0 hw n1 a (ctx_le K) hq46) rfl (Nat.le_of_ble_eq_true rfl) (Nat.le_of_ble_eq_true rfl) rfl rfl ?_
    refine g_istore (pc := 49) (L' := [some (.ref 0), some (.int i1), some (.int i2), some (.int i3), some (.int q28.1), some (.int q37.1), some (.int q46.1)]) K.1 d31_49 (blt rfl) rfl ?_
    refine g_aloadN (pc := 51) K.1 d31_51 rfl ?_
    refine g_iloadN (pc := 52) K.1 d31_52 rfl ?_
    refine g_iloadN (pc := 53) K.1 d31_53 rfl ?_
    refine g_iload (pc := 54) K.1 d31_54 rfl ?_
    obtain ⟨q56, hq56, h⟩ := Option.bind_eq_some_iff.mp h
    refine g_callP (pc := 56) (vs := [.int i2, .int i3, .int q46.1]) K d31_56 (w105 hw) (w106 hw) (w107 hw) (w108 hw) hyC pd_5 rfl rfl (con_M_matPut l Z a0 hw n1 a (ctx_le K) hq56) rfl (Nat.le_of_ble_eq_true rfl) (Nat.le_of_ble_eq_true rfl) rfl rfl ?_
    refine g_iinc (pc := 59) (w := 1) (L' := [some (.ref 0), some (.int i1), some (.int i2), some (.int (i3 + (1 : Int32))), some (.int q28.1), some (.int q37.1), some (.int q46.1)]) K.1 d31_59 rfl (by decide) rfl ?_
    refine g_goto (pc := 62) (pc' := 16) K.1 d31_62 (by decide) ?_
    exact g_less (hk16 _ _ _ _ h) (ls (ls (ls (ls (ln (ln (ln l0)))))))
  refine g_icT (pc := 21) (pc' := 65) K.1 d31_21 (by decide) ((flt hc21).2.1) ?_
  refine g_aloadN (pc := 65) K.1 d31_65 rfl ?_
  refine g_iloadN (pc := 66) K.1 d31_66 rfl ?_
  obtain ⟨q67, hq67, h⟩ := Option.bind_eq_some_iff.mp h
  refine g_callP (pc := 67) (vs := [.int i2]) K d31_67 (w109 hw) (w110 hw) (w111 hw) (w112 hw) hyC pd_9 rfl rfl (con_M_unitCoeff l Z a0 hw n1 a (ctx_le K) hq67) rfl (Nat.le_of_ble_eq_true rfl) (Nat.le_of_ble_eq_true rfl) rfl rfl ?_
  refine g_istoreN (pc := 70) (L' := [some (.ref 0), some (.int i1), some (.int i2), some (.int q67.1), none, none, none]) K.1 d31_70 (blt rfl) rfl ?_
  refine g_aloadN (pc := 71) K.1 d31_71 rfl ?_
  refine g_iloadN (pc := 72) K.1 d31_72 rfl ?_
  refine g_aloadN (pc := 73) K.1 d31_73 rfl ?_
  refine g_getI (pc := 74) K d31_74 (w54 hw) mf_n ?_
  refine g_iloadN (pc := 77) K.1 d31_77 rfl ?_
  obtain ⟨q78, hq78, h⟩ := Option.bind_eq_some_iff.mp h
  refine g_callP (pc := 78) (vs := [.int i2, .int (gI q67.2 121), .int q67.1]) K d31_78 (w105 hw) (w106 hw) (w107 hw) (w108 hw) hyC pd_5 rfl rfl (con_M_matPut l Z a0 hw n1 a (ctx_le K) hq78) rfl (Nat.le_of_ble_eq_true rfl) (Nat.le_of_ble_eq_true rfl) rfl rfl ?_
  refine g_iinc (pc := 81) (w := 1) (L' := [some (.ref 0), some (.int i1), some (.int (i2 + (1 : Int32))), some (.int q67.1), none, none, none]) K.1 d31_81 rfl (by decide) rfl ?_
  refine g_goto (pc := 84) (pc' := 6) K.1 d31_84 (by decide) ?_
  exact g_less (hk6 _ _ _ h) (ls (ls (ls (ln (ls (ls (ls l0)))))))
def M_buildSystem_l16 (NF : Nat) (k6 : Int32 → Int32 → St → Option (St)) : Nat → Int32 → Int32 → Int32 → St → Option (St)
  | 0 => fun _ _ _ _ => none
  | n + 1 => fun i1 i2 i3 σ => M_buildSystem_w16 NF k6 (M_buildSystem_l16 NF k6 n) i1 i2 i3 σ
theorem ok_M_buildSystem_l16 {X : Cx (St × Nat)} {Z : State} {a0 : Array Value} {l : Launch} {n1 : Nat} {a : Addr} {h0 : Heap} {NF : Nat} (K : KM_M_buildSystem X Z a0 l n1 a h0) (hw : HW a0 Z) (n : Nat) {k6 : Int32 → Int32 → St → Option (St)} {r : St} (hk6 : ∀ (i1 : Int32) (i2 : Int32) (σ : St) (h : k6 i1 i2 σ = some r), Go X (none, (r, 16)) 6 [some (.ref 0), some (.int i1), some (.int i2), none, none, none, none] [] (σ, 16)) : ∀ (i1 : Int32) (i2 : Int32) (i3 : Int32) (σ : St) (h : M_buildSystem_l16 NF k6 n i1 i2 i3 σ = some r), Go X (none, (r, 16)) 16 [some (.ref 0), some (.int i1), some (.int i2), some (.int i3), none, none, none] [] (σ, 16) := by
  induction n with
  | zero => intro i1 i2 i3 σ h; cases h
  | succ n ih => intro i1 i2 i3 σ h; exact ok_M_buildSystem_w16 (NF := NF) K hw hk6 ih h
def M_buildSystem_w6 (NF : Nat) (k6 : Int32 → Int32 → St → Option (St)) (i1 : Int32) (i2 : Int32) (σ : St) : Option (St) :=
  (if i2 < (gI σ 121) then M_buildSystem_l16 NF k6 NF i1 i2 (0 : Int32) σ else (some σ))
theorem ok_M_buildSystem_w6 {X : Cx (St × Nat)} {Z : State} {a0 : Array Value} {l : Launch} {n1 : Nat} {a : Addr} {h0 : Heap} {NF : Nat} (K : KM_M_buildSystem X Z a0 l n1 a h0) (hw : HW a0 Z) {k6 : Int32 → Int32 → St → Option (St)} {i1 : Int32} {i2 : Int32} {σ : St} {r : St} (hk6 : ∀ (i1 : Int32) (i2 : Int32) (σ : St) (h : k6 i1 i2 σ = some r), Go X (none, (r, 16)) 6 [some (.ref 0), some (.int i1), some (.int i2), none, none, none, none] [] (σ, 16)) (h : M_buildSystem_w6 NF k6 i1 i2 σ = some r) : Go X (none, (r, 16)) 6 [some (.ref 0), some (.int i1), some (.int i2), none, none, none, none] [] (σ, 16) := by
  unfold M_buildSystem_w6 at h
  refine g_iloadN (pc := 6) K.1 d31_6 rfl ?_
  refine g_aloadN (pc := 7) K.1 d31_7 rfl ?_
  refine g_getI (pc := 8) K d31_8 (w54 hw) mf_n ?_
  rcases ifs h with ⟨hc11, h⟩ | ⟨hc11, h⟩
  · refine g_icF (pc := 11) K.1 d31_11 ((tlt hc11).2.1) ?_
    refine g_iconst (pc := 14) (v := 0) K.1 d31_14 (by decide) ?_
    refine g_istoreN (pc := 15) (L' := [some (.ref 0), some (.int i1), some (.int i2), some (.int (0 : Int32)), none, none, none]) K.1 d31_15 (blt rfl) rfl ?_
    exact ok_M_buildSystem_l16 K hw NF hk6 _ _ _ _ h
  refine g_icT (pc := 11) (pc' := 87) K.1 d31_11 (by decide) ((flt hc11).2.1) ?_
  cases h; exact g_return K.1 d31_87 (capC K)
def M_buildSystem_l6 (NF : Nat)  : Nat → Int32 → Int32 → St → Option (St)
  | 0 => fun _ _ _ => none
  | n + 1 => fun i1 i2 σ => M_buildSystem_w6 NF  (M_buildSystem_l6 NF  n) i1 i2 σ
theorem ok_M_buildSystem_l6 {X : Cx (St × Nat)} {Z : State} {a0 : Array Value} {l : Launch} {n1 : Nat} {a : Addr} {h0 : Heap} {NF : Nat} (K : KM_M_buildSystem X Z a0 l n1 a h0) (hw : HW a0 Z) (n : Nat)  {r : St}  : ∀ (i1 : Int32) (i2 : Int32) (σ : St) (h : M_buildSystem_l6 NF  n i1 i2 σ = some r), Go X (none, (r, 16)) 6 [some (.ref 0), some (.int i1), some (.int i2), none, none, none, none] [] (σ, 16) := by
  induction n with
  | zero => intro i1 i2 σ h; cases h
  | succ n ih => intro i1 i2 σ h; exact ok_M_buildSystem_w6 (NF := NF) K hw  ih h
def M_buildSystem (NF : Nat) (σ : St) (v1 : Int32) : Option (St) :=
  ((M_clearMatrix NF σ).bind fun q1 => M_buildSystem_l6 NF NF v1 (0 : Int32) q1)
theorem ok_M_buildSystem {X : Cx (St × Nat)} {Z : State} {a0 : Array Value} {l : Launch} {n1 : Nat} {a : Addr} {h0 : Heap} {NF : Nat} (K : KM_M_buildSystem X Z a0 l n1 a h0) (hw : HW a0 Z) {σ : St} {v1 : Int32} {r : St} (h : M_buildSystem NF σ v1 = some r) : Go X (none, (r, 16)) 0 [some (.ref 0), some (.int v1), none, none, none, none, none] [] (σ, 16) := by
  unfold M_buildSystem at h
  refine g_aloadN (pc := 0) K.1 d31_0 rfl ?_
  obtain ⟨q1, hq1, h⟩ := Option.bind_eq_some_iff.mp h
  refine g_callP (pc := 1) (vs := []) K d31_1 (w85 hw) (w86 hw) (w87 hw) (w88 hw) hyC pd_14 rfl rfl (con_M_clearMatrix l Z a0 hw n1 a (ctx_le K) hq1) rfl (Nat.le_of_ble_eq_true rfl) (Nat.le_of_ble_eq_true rfl) rfl rfl ?_
  refine g_iconst (pc := 4) (v := 0) K.1 d31_4 (by decide) ?_
  refine g_istoreN (pc := 5) (L' := [some (.ref 0), some (.int v1), some (.int (0 : Int32)), none, none, none, none]) K.1 d31_5 (blt rfl) rfl ?_
  exact ok_M_buildSystem_l6 K hw NF  _ _ _ h
theorem con_M_buildSystem (l : Launch) (Z : State) (a0 : Array Value) (hw : HW a0 Z) (n1 : Nat) (a : Addr) (ha : n1 ≤ a) {NF : Nat} {σ : St} {v1 : Int32} {r : St} (h : M_buildSystem NF σ v1 = some r) : Con l Z cC cFS cFA 16 n1 a ⟨cC, "buildSystem", "(I)V"⟩ c31 7 none ⟨2, 0, 0, 28⟩ [.ref 0, .int v1] σ none r :=
  con_of_go pnC rfl (layW hw) lgood ha (fun X h1 K => ok_M_buildSystem K hw h)
abbrev KM_M_matAt (X : Cx (St × Nat)) (Z : State) (a0 : Array Value) (l : Launch) (n1 : Nat) (a : Addr) (h0 : Heap) : Prop := CtxC X Z a0 cC cFS cFA 16 25 l n1 a h0 ce0 ⟨0, 0, 0, 0⟩ "matAt" c39 3 (some .int)
def M_matAt (σ : St) (v1 : Int32) (v2 : Int32) : Option (Int32 × St) :=
  (if v1 < 0 then (some ((0 : Int32), σ)) else (if v1 < (17 : Int32) then (if v2 < 0 then (some ((0 : Int32), σ)) else (if v2 < (18 : Int32) then (if 0 ≤ (((v1 * (18 : Int32)) + v2)).toInt ∧ (((v1 * (18 : Int32)) + v2)).toInt < 306 then (some ((gA σ 12 (((v1 * (18 : Int32)) + v2)).toInt), σ)) else none) else (some ((0 : Int32), σ)))) else (some ((0 : Int32), σ))))
theorem ok_M_matAt {X : Cx (St × Nat)} {Z : State} {a0 : Array Value} {l : Launch} {n1 : Nat} {a : Addr} {h0 : Heap} (K : KM_M_matAt X Z a0 l n1 a h0) (hw : HW a0 Z) {σ : St} {v1 : Int32} {v2 : Int32} {r : Int32 × St} (h : M_matAt σ v1 v2 = some r) : Go X (some (.int r.1), (r.2, 16)) 0 [some (.ref 0), some (.int v1), some (.int v2)] [] (σ, 16) := by
  unfold M_matAt at h
  refine g_iloadN (pc := 0) K.1 d39_0 rfl ?_
  rcases ifs h with ⟨hc1, h⟩ | ⟨hc1, h⟩
  · refine g_ifT (pc := 1) (pc' := 20) K.1 d39_1 (by decide) ((if0 _ _).trans (tlt hc1).1) ?_
    refine g_iconst (pc := 20) (v := 0) K.1 d39_20 (by decide) ?_
    cases h; exact g_ireturn K.1 d39_21 (capC K)
  refine g_ifF (pc := 1) K.1 d39_1 ((if0 _ _).trans (flt hc1).1) ?_
  refine g_iloadN (pc := 4) K.1 d39_4 rfl ?_
  refine g_bipush (pc := 5) (v := 17) K.1 d39_5 (by decide) ?_
  rcases ifs h with ⟨hc7, h⟩ | ⟨hc7, h⟩
  · refine g_icF (pc := 7) K.1 d39_7 ((tlt hc7).2.1) ?_
    refine g_iloadN (pc := 10) K.1 d39_10 rfl ?_
    rcases ifs h with ⟨hc11, h⟩ | ⟨hc11, h⟩
    · refine g_ifT (pc := 11) (pc' := 20) K.1 d39_11 (by decide) ((if0 _ _).trans (tlt hc11).1) ?_
      refine g_iconst (pc := 20) (v := 0) K.1 d39_20 (by decide) ?_
      cases h; exact g_ireturn K.1 d39_21 (capC K)
    refine g_ifF (pc := 11) K.1 d39_11 ((if0 _ _).trans (flt hc11).1) ?_
    refine g_iloadN (pc := 14) K.1 d39_14 rfl ?_
    refine g_bipush (pc := 15) (v := 18) K.1 d39_15 (by decide) ?_
    rcases ifs h with ⟨hc17, h⟩ | ⟨hc17, h⟩
    · refine g_icT (pc := 17) (pc' := 22) K.1 d39_17 (by decide) ((tlt hc17).1) ?_
      refine g_aloadN (pc := 22) K.1 d39_22 rfl ?_
      refine g_getA (pc := 23) K d39_23 (w32 hw) mf_mat rfl ?_
      refine g_iloadN (pc := 26) K.1 d39_26 rfl ?_
      refine g_bipush (pc := 27) (v := 18) K.1 d39_27 (by decide) ?_
      refine g_imul (pc := 29) K.1 d39_29 ?_
      refine g_iloadN (pc := 30) K.1 d39_30 rfl ?_
      refine g_iadd (pc := 31) K.1 d39_31 ?_
      obtain ⟨hc32, h⟩ := ifn h
      refine g_iaload (pc := 32) K d39_32 ma_mat rfl hc32 ?_
      cases h; exact g_ireturn K.1 d39_33 (capC K)
    refine g_icF (pc := 17) K.1 d39_17 ((flt hc17).1) ?_
    refine g_iconst (pc := 20) (v := 0) K.1 d39_20 (by decide) ?_
    cases h; exact g_ireturn K.1 d39_21 (capC K)
  refine g_icT (pc := 7) (pc' := 20) K.1 d39_7 (by decide) ((flt hc7).2.1) ?_
  refine g_iconst (pc := 20) (v := 0) K.1 d39_20 (by decide) ?_
  cases h; exact g_ireturn K.1 d39_21 (capC K)
theorem con_M_matAt (l : Launch) (Z : State) (a0 : Array Value) (hw : HW a0 Z) (n1 : Nat) (a : Addr) (ha : n1 ≤ a) {σ : St} {v1 : Int32} {v2 : Int32} {r : Int32 × St} (h : M_matAt σ v1 v2 = some r) : Con l Z cC cFS cFA 16 n1 a ⟨cC, "matAt", "(II)I"⟩ c39 3 (some .int) ⟨0, 0, 0, 0⟩ [.ref 0, .int v1, .int v2] σ (some (.int r.1)) r.2 :=
  con_of_go pnC rfl (layW hw) lgood ha (fun X h1 K => ok_M_matAt K hw h)
abbrev KM_M_inverseMod (X : Cx (St × Nat)) (Z : State) (a0 : Array Value) (l : Launch) (n1 : Nat) (a : Addr) (h0 : Heap) : Prop := CtxC X Z a0 cC cFS cFA 16 25 l n1 a h0 ce0 ⟨1, 0, 0, 15⟩ "inverseMod" c40 6 (some .int)
def M_inverseMod_w17 (NF : Nat) (k17 : Int32 → Int32 → Int32 → St → Option (Int32 × St)) (i2 : Int32) (i3 : Int32) (i4 : Int32) (σ : St) : Option (Int32 × St) :=
  (if i4 < i2 then (if i4 < (1024 : Int32) then ((M_mod σ (i3 * i4) i2).bind fun q37 => (if q37.1 = (1 : Int32) then (some (i4, q37.2)) else k17 i2 i3 (i4 + (1 : Int32)) q37.2)) else (some ((0 : Int32), σ))) else (some ((0 : Int32), σ)))
theorem ok_M_inverseMod_w17 {X : Cx (St × Nat)} {Z : State} {a0 : Array Value} {l : Launch} {n1 : Nat} {a : Addr} {h0 : Heap} {NF : Nat} (K : KM_M_inverseMod X Z a0 l n1 a h0) (hw : HW a0 Z) {k17 : Int32 → Int32 → Int32 → St → Option (Int32 × St)} {i2 : Int32} {i3 : Int32} {i4 : Int32} {σ : St} {r : Int32 × St} (hk17 : ∀ (i2 : Int32) (i3 : Int32) (i4 : Int32) (σ : St) (h : k17 i2 i3 i4 σ = some r), Go X (some (.int r.1), (r.2, 16)) 17 [some (.ref 0), none, some (.int i2), some (.int i3), some (.int i4), none] [] (σ, 16)) (h : M_inverseMod_w17 NF k17 i2 i3 i4 σ = some r) : Go X (some (.int r.1), (r.2, 16)) 17 [some (.ref 0), none, some (.int i2), some (.int i3), some (.int i4), none] [] (σ, 16) := by
  unfold M_inverseMod_w17 at h
  refine g_iload (pc := 17) K.1 d40_17 rfl ?_
  refine g_iloadN (pc := 19) K.1 d40_19 rfl ?_
  rcases ifs h with ⟨hc20, h⟩ | ⟨hc20, h⟩
  · refine g_icF (pc := 20) K.1 d40_20 ((tlt hc20).2.1) ?_
    refine g_iload (pc := 23) K.1 d40_23 rfl ?_
    refine g_sipush (pc := 25) (v := 1024) K.1 d40_25 (by decide) ?_
    rcases ifs h with ⟨hc28, h⟩ | ⟨hc28, h⟩
    · refine g_icF (pc := 28) K.1 d40_28 ((tlt hc28).2.1) ?_
      refine g_aloadN (pc := 31) K.1 d40_31 rfl ?_
      refine g_iloadN (pc := 32) K.1 d40_32 rfl ?_
      refine g_iload (pc := 33) K.1 d40_33 rfl ?_
      refine g_imul (pc := 35) K.1 d40_35 ?_
      refine g_iloadN (pc := 36) K.1 d40_36 rfl ?_
      obtain ⟨q37, hq37, h⟩ := Option.bind_eq_some_iff.mp h
      refine g_callP (pc := 37) (vs := [.int (i3 * i4), .int i2]) K d40_37 (w93 hw) (w94 hw) (w95 hw) (w96 hw) hyC pd_0 rfl rfl (con_M_mod l Z a0 hw n1 a (ctx_le K) hq37) rfl (Nat.le_of_ble_eq_true rfl) (Nat.le_of_ble_eq_true rfl) rfl rfl ?_
      refine g_istore (pc := 40) (L' := [some (.ref 0), none, some (.int i2), some (.int i3), some (.int i4), some (.int q37.1)]) K.1 d40_40 (blt rfl) rfl ?_
      refine g_iload (pc := 42) K.1 d40_42 rfl ?_
      refine g_iconst (pc := 44) (v := 1) K.1 d40_44 (by decide) ?_
      rcases ifs h with ⟨hc45, h⟩ | ⟨hc45, h⟩
      · refine g_icF (pc := 45) K.1 d40_45 ((teq hc45).2) ?_
        refine g_iload (pc := 48) K.1 d40_48 rfl ?_
        cases h; exact g_ireturn K.1 d40_50 (capC K)
      refine g_icT (pc := 45) (pc' := 51) K.1 d40_45 (by decide) ((feq hc45).2) ?_
      refine g_iinc (pc := 51) (w := 1) (L' := [some (.ref 0), none, some (.int i2), some (.int i3), some (.int (i4 + (1 : Int32))), some (.int q37.1)]) K.1 d40_51 rfl (by decide) rfl ?_
      refine g_goto (pc := 54) (pc' := 17) K.1 d40_54 (by decide) ?_
      exact g_less (hk17 _ _ _ _ h) (ls (ls (ls (ls (ls (ln l0))))))
    refine g_icT (pc := 28) (pc' := 57) K.1 d40_28 (by decide) ((flt hc28).2.1) ?_
    refine g_iconst (pc := 57) (v := 0) K.1 d40_57 (by decide) ?_
    cases h; exact g_ireturn K.1 d40_58 (capC K)
  refine g_icT (pc := 20) (pc' := 57) K.1 d40_20 (by decide) ((flt hc20).2.1) ?_
  refine g_iconst (pc := 57) (v := 0) K.1 d40_57 (by decide) ?_
  cases h; exact g_ireturn K.1 d40_58 (capC K)
def M_inverseMod_l17 (NF : Nat)  : Nat → Int32 → Int32 → Int32 → St → Option (Int32 × St)
  | 0 => fun _ _ _ _ => none
  | n + 1 => fun i2 i3 i4 σ => M_inverseMod_w17 NF  (M_inverseMod_l17 NF  n) i2 i3 i4 σ
theorem ok_M_inverseMod_l17 {X : Cx (St × Nat)} {Z : State} {a0 : Array Value} {l : Launch} {n1 : Nat} {a : Addr} {h0 : Heap} {NF : Nat} (K : KM_M_inverseMod X Z a0 l n1 a h0) (hw : HW a0 Z) (n : Nat)  {r : Int32 × St}  : ∀ (i2 : Int32) (i3 : Int32) (i4 : Int32) (σ : St) (h : M_inverseMod_l17 NF  n i2 i3 i4 σ = some r), Go X (some (.int r.1), (r.2, 16)) 17 [some (.ref 0), none, some (.int i2), some (.int i3), some (.int i4), none] [] (σ, 16) := by
  induction n with
  | zero => intro i2 i3 i4 σ h; cases h
  | succ n ih => intro i2 i3 i4 σ h; exact ok_M_inverseMod_w17 (NF := NF) K hw  ih h
def M_inverseMod (NF : Nat) (σ : St) (v1 : Int32) (v2 : Int32) : Option (Int32 × St) :=
  (if (1 : Int32) < v2 then ((M_mod σ v1 v2).bind fun q10 => M_inverseMod_l17 NF NF v2 q10.1 (1 : Int32) q10.2) else (some ((0 : Int32), σ)))
theorem ok_M_inverseMod {X : Cx (St × Nat)} {Z : State} {a0 : Array Value} {l : Launch} {n1 : Nat} {a : Addr} {h0 : Heap} {NF : Nat} (K : KM_M_inverseMod X Z a0 l n1 a h0) (hw : HW a0 Z) {σ : St} {v1 : Int32} {v2 : Int32} {r : Int32 × St} (h : M_inverseMod NF σ v1 v2 = some r) : Go X (some (.int r.1), (r.2, 16)) 0 [some (.ref 0), some (.int v1), some (.int v2), none, none, none] [] (σ, 16) := by
  unfold M_inverseMod at h
  refine g_iloadN (pc := 0) K.1 d40_0 rfl ?_
  refine g_iconst (pc := 1) (v := 1) K.1 d40_1 (by decide) ?_
  rcases ifs h with ⟨hc2, h⟩ | ⟨hc2, h⟩
  · refine g_icT (pc := 2) (pc' := 7) K.1 d40_2 (by decide) ((tlt hc2).2.2.1) ?_
    refine g_aloadN (pc := 7) K.1 d40_7 rfl ?_
    refine g_iloadN (pc := 8) K.1 d40_8 rfl ?_
    refine g_iloadN (pc := 9) K.1 d40_9 rfl ?_
    obtain ⟨q10, hq10, h⟩ := Option.bind_eq_some_iff.mp h
    refine g_callP (pc := 10) (vs := [.int v1, .int v2]) K d40_10 (w93 hw) (w94 hw) (w95 hw) (w96 hw) hyC pd_0 rfl rfl (con_M_mod l Z a0 hw n1 a (ctx_le K) hq10) rfl (Nat.le_of_ble_eq_true rfl) (Nat.le_of_ble_eq_true rfl) rfl rfl ?_
    refine g_istoreN (pc := 13) (L' := [some (.ref 0), some (.int v1), some (.int v2), some (.int q10.1), none, none]) K.1 d40_13 (blt rfl) rfl ?_
    refine g_iconst (pc := 14) (v := 1) K.1 d40_14 (by decide) ?_
    refine g_istore (pc := 15) (L' := [some (.ref 0), some (.int v1), some (.int v2), some (.int q10.1), some (.int (1 : Int32)), none]) K.1 d40_15 (blt rfl) rfl ?_
    exact g_less (ok_M_inverseMod_l17 K hw NF  _ _ _ _ h) (ls (ln (ls (ls (ls (ls l0))))))
  refine g_icF (pc := 2) K.1 d40_2 ((flt hc2).2.2.1) ?_
  refine g_iconst (pc := 5) (v := 0) K.1 d40_5 (by decide) ?_
  cases h; exact g_ireturn K.1 d40_6 (capC K)
theorem con_M_inverseMod (l : Launch) (Z : State) (a0 : Array Value) (hw : HW a0 Z) (n1 : Nat) (a : Addr) (ha : n1 ≤ a) {NF : Nat} {σ : St} {v1 : Int32} {v2 : Int32} {r : Int32 × St} (h : M_inverseMod NF σ v1 v2 = some r) : Con l Z cC cFS cFA 16 n1 a ⟨cC, "inverseMod", "(II)I"⟩ c40 6 (some .int) ⟨1, 0, 0, 15⟩ [.ref 0, .int v1, .int v2] σ (some (.int r.1)) r.2 :=
  con_of_go pnC rfl (layW hw) lgood ha (fun X h1 K => ok_M_inverseMod K hw h)
abbrev KM_M_findPivot (X : Cx (St × Nat)) (Z : State) (a0 : Array Value) (l : Launch) (n1 : Nat) (a : Addr) (h0 : Heap) : Prop := CtxC X Z a0 cC cFS cFA 16 25 l n1 a h0 ce0 ⟨2, 0, 0, 32⟩ "findPivot" c38 5 (some .int)
def M_findPivot_w2 (NF : Nat) (k2 : Int32 → Int32 → Int32 → St → Option (Int32 × St)) (i1 : Int32) (i2 : Int32) (i3 : Int32) (σ : St) : Option (Int32 × St) :=
  (if i3 < (gI σ 121) then ((M_matAt σ i3 i1).bind fun q13 => ((M_inverseMod NF q13.2 q13.1 i2).bind fun q22 => (if q22.1 = 0 then k2 i1 i2 (i3 + (1 : Int32)) q22.2 else (some (i3, q22.2))))) else (some ((-1 : Int32), σ)))
theorem ok_M_findPivot_w2 {X : Cx (St × Nat)} {Z : State} {a0 : Array Value} {l : Launch} {n1 : Nat} {a : Addr} {h0 : Heap} {NF : Nat} (K : KM_M_findPivot X Z a0 l n1 a h0) (hw : HW a0 Z) {k2 : Int32 → Int32 → Int32 → St → Option (Int32 × St)} {i1 : Int32} {i2 : Int32} {i3 : Int32} {σ : St} {r : Int32 × St} (hk2 : ∀ (i1 : Int32) (i2 : Int32) (i3 : Int32) (σ : St) (h : k2 i1 i2 i3 σ = some r), Go X (some (.int r.1), (r.2, 16)) 2 [some (.ref 0), some (.int i1), some (.int i2), some (.int i3), none] [] (σ, 16)) (h : M_findPivot_w2 NF k2 i1 i2 i3 σ = some r) : Go X (some (.int r.1), (r.2, 16)) 2 [some (.ref 0), some (.int i1), some (.int i2), some (.int i3), none] [] (σ, 16) := by
  unfold M_findPivot_w2 at h
  refine g_iloadN (pc := 2) K.1 d38_2 rfl ?_
  refine g_aloadN (pc := 3) K.1 d38_3 rfl ?_
  refine g_getI (pc := 4) K d38_4 (w54 hw) mf_n ?_
  rcases ifs h with ⟨hc7, h⟩ | ⟨hc7, h⟩
  · refine g_icF (pc := 7) K.1 d38_7 ((tlt hc7).2.1) ?_
    refine g_aloadN (pc := 10) K.1 d38_10 rfl ?_
    refine g_iloadN (pc := 11) K.1 d38_11 rfl ?_
    refine g_iloadN (pc := 12) K.1 d38_12 rfl ?_
    obtain ⟨q13, hq13, h⟩ := Option.bind_eq_some_iff.mp h
    refine g_callP (pc := 13) (vs := [.int i3, .int i1]) K d38_13 (w121 hw) (w122 hw) (w123 hw) (w124 hw) hyC pd_0 rfl rfl (con_M_matAt l Z a0 hw n1 a (ctx_le K) hq13) rfl (Nat.le_of_ble_eq_true rfl) (Nat.le_of_ble_eq_true rfl) rfl rfl ?_
    refine g_istore (pc := 16) (L' := [some (.ref 0), some (.int i1), some (.int i2), some (.int i3), some (.int q13.1)]) K.1 d38_16 (blt rfl) rfl ?_
    refine g_aloadN (pc := 18) K.1 d38_18 rfl ?_
    refine g_iload (pc := 19) K.1 d38_19 rfl ?_
    refine g_iloadN (pc := 21) K.1 d38_21 rfl ?_
    obtain ⟨q22, hq22, h⟩ := Option.bind_eq_some_iff.mp h
    refine g_callP (pc := 22) (vs := [.int q13.1, .int i2]) K d38_22 (w125 hw) (w126 hw) (w127 hw) (w128 hw) hyC pd_0 rfl rfl (con_M_inverseMod l Z a0 hw n1 a (ctx_le K) hq22) rfl (Nat.le_of_ble_eq_true rfl) (Nat.le_of_ble_eq_true rfl) rfl rfl ?_
    rcases ifs h with ⟨hc25, h⟩ | ⟨hc25, h⟩
    · refine g_ifT (pc := 25) (pc' := 30) K.1 d38_25 (by decide) ((if0 _ _).trans (teq hc25).1) ?_
      refine g_iinc (pc := 30) (w := 1) (L' := [some (.ref 0), some (.int i1), some (.int i2), some (.int (i3 + (1 : Int32))), some (.int q13.1)]) K.1 d38_30 rfl (by decide) rfl ?_
      refine g_goto (pc := 33) (pc' := 2) K.1 d38_33 (by decide) ?_
      exact g_less (hk2 _ _ _ _ h) (ls (ls (ls (ls (ln l0)))))
    refine g_ifF (pc := 25) K.1 d38_25 ((if0 _ _).trans (feq hc25).1) ?_
    refine g_iloadN (pc := 28) K.1 d38_28 rfl ?_
    cases h; exact g_ireturn K.1 d38_29 (capC K)
  refine g_icT (pc := 7) (pc' := 36) K.1 d38_7 (by decide) ((flt hc7).2.1) ?_
  refine g_iconst (pc := 36) (v := -1) K.1 d38_36 (by decide) ?_
  cases h; exact g_ireturn K.1 d38_37 (capC K)
def M_findPivot_l2 (NF : Nat)  : Nat → Int32 → Int32 → Int32 → St → Option (Int32 × St)
  | 0 => fun _ _ _ _ => none
  | n + 1 => fun i1 i2 i3 σ => M_findPivot_w2 NF  (M_findPivot_l2 NF  n) i1 i2 i3 σ
theorem ok_M_findPivot_l2 {X : Cx (St × Nat)} {Z : State} {a0 : Array Value} {l : Launch} {n1 : Nat} {a : Addr} {h0 : Heap} {NF : Nat} (K : KM_M_findPivot X Z a0 l n1 a h0) (hw : HW a0 Z) (n : Nat)  {r : Int32 × St}  : ∀ (i1 : Int32) (i2 : Int32) (i3 : Int32) (σ : St) (h : M_findPivot_l2 NF  n i1 i2 i3 σ = some r), Go X (some (.int r.1), (r.2, 16)) 2 [some (.ref 0), some (.int i1), some (.int i2), some (.int i3), none] [] (σ, 16) := by
  induction n with
  | zero => intro i1 i2 i3 σ h; cases h
  | succ n ih => intro i1 i2 i3 σ h; exact ok_M_findPivot_w2 (NF := NF) K hw  ih h
def M_findPivot (NF : Nat) (σ : St) (v1 : Int32) (v2 : Int32) : Option (Int32 × St) :=
  M_findPivot_l2 NF NF v1 v2 v1 σ
theorem ok_M_findPivot {X : Cx (St × Nat)} {Z : State} {a0 : Array Value} {l : Launch} {n1 : Nat} {a : Addr} {h0 : Heap} {NF : Nat} (K : KM_M_findPivot X Z a0 l n1 a h0) (hw : HW a0 Z) {σ : St} {v1 : Int32} {v2 : Int32} {r : Int32 × St} (h : M_findPivot NF σ v1 v2 = some r) : Go X (some (.int r.1), (r.2, 16)) 0 [some (.ref 0), some (.int v1), some (.int v2), none, none] [] (σ, 16) := by
  unfold M_findPivot at h
  refine g_iloadN (pc := 0) K.1 d38_0 rfl ?_
  refine g_istoreN (pc := 1) (L' := [some (.ref 0), some (.int v1), some (.int v2), some (.int v1), none]) K.1 d38_1 (blt rfl) rfl ?_
  exact ok_M_findPivot_l2 K hw NF  _ _ _ _ h
theorem con_M_findPivot (l : Launch) (Z : State) (a0 : Array Value) (hw : HW a0 Z) (n1 : Nat) (a : Addr) (ha : n1 ≤ a) {NF : Nat} {σ : St} {v1 : Int32} {v2 : Int32} {r : Int32 × St} (h : M_findPivot NF σ v1 v2 = some r) : Con l Z cC cFS cFA 16 n1 a ⟨cC, "findPivot", "(II)I"⟩ c38 5 (some .int) ⟨2, 0, 0, 32⟩ [.ref 0, .int v1, .int v2] σ (some (.int r.1)) r.2 :=
  con_of_go pnC rfl (layW hw) lgood ha (fun X h1 K => ok_M_findPivot K hw h)
abbrev KM_M_swapRows (X : Cx (St × Nat)) (Z : State) (a0 : Array Value) (l : Launch) (n1 : Nat) (a : Addr) (h0 : Heap) : Prop := CtxC X Z a0 cC cFS cFA 16 25 l n1 a h0 ce0 ⟨1, 0, 0, 15⟩ "swapRows" c41 6 none
def M_swapRows_w8 (NF : Nat) (k8 : Int32 → Int32 → Int32 → St → Option (St)) (i1 : Int32) (i2 : Int32) (i3 : Int32) (σ : St) : Option (St) :=
  (if (gI σ 121) < i3 then (some σ) else ((M_matAt σ i1 i3).bind fun q19 => ((M_matAt q19.2 i2 i3).bind fun q27 => ((M_matPut q27.2 i1 i3 q27.1).bind fun q37 => ((M_matPut q37 i2 i3 q19.1).bind fun q45 => k8 i1 i2 (i3 + (1 : Int32)) q45)))))
theorem ok_M_swapRows_w8 {X : Cx (St × Nat)} {Z : State} {a0 : Array Value} {l : Launch} {n1 : Nat} {a : Addr} {h0 : Heap} {NF : Nat} (K : KM_M_swapRows X Z a0 l n1 a h0) (hw : HW a0 Z) {k8 : Int32 → Int32 → Int32 → St → Option (St)} {i1 : Int32} {i2 : Int32} {i3 : Int32} {σ : St} {r : St} (hk8 : ∀ (i1 : Int32) (i2 : Int32) (i3 : Int32) (σ : St) (h : k8 i1 i2 i3 σ = some r), Go X (none, (r, 16)) 8 [some (.ref 0), some (.int i1), some (.int i2), some (.int i3), none, none] [] (σ, 16)) (h : M_swapRows_w8 NF k8 i1 i2 i3 σ = some r) : Go X (none, (r, 16)) 8 [some (.ref 0), some (.int i1), some (.int i2), some (.int i3), none, none] [] (σ, 16) := by
  unfold M_swapRows_w8 at h
  refine g_iloadN (pc := 8) K.1 d41_8 rfl ?_
  refine g_aloadN (pc := 9) K.1 d41_9 rfl ?_
  refine g_getI (pc := 10) K d41_10 (w54 hw) mf_n ?_
  rcases ifs h with ⟨hc13, h⟩ | ⟨hc13, h⟩
  · refine g_icT (pc := 13) (pc' := 54) K.1 d41_13 (by decide) ((tlt hc13).2.2.1) ?_
    cases h; exact g_return K.1 d41_54 (capC K)
  refine g_icF (pc := 13) K.1 d41_13 ((flt hc13).2.2.1) ?_
  refine g_aloadN (pc := 16) K.1 d41_16 rfl ?_
  refine g_iloadN (pc := 17) K.1 d41_17 rfl ?_
  refine g_iloadN (pc := 18) K.1 d41_18 rfl ?_
  obtain ⟨q19, hq19, h⟩ := Option.bind_eq_some_iff.mp h
  refine g_callP (pc := 19) (vs := [.int i1, .int i3]) K d41_19 (w121 hw) (w122 hw) (w123 hw) (w124 hw) hyC pd_0 rfl rfl (con_M_matAt l Z a0 hw n1 a (ctx_le K) hq19) rfl (Nat.le_of_ble_eq_true rfl) (Nat.le_of_ble_eq_true rfl) rfl rfl ?_
  refine g_istore (pc := 22) (L' := [some (.ref 0), some (.int i1), some (.int i2), some (.int i3), some (.int q19.1), none]) K.1 d41_22 (blt rfl) rfl ?_
  refine g_aloadN (pc := 24) K.1 d41_24 rfl ?_
  refine g_iloadN (pc := 25) K.1 d41_25 rfl ?_
  refine g_iloadN (pc := 26) K.1 d41_26 rfl ?_
  obtain ⟨q27, hq27, h⟩ := Option.bind_eq_some_iff.mp h
  refine g_callP (pc := 27) (vs := [.int i2, .int i3]) K d41_27 (w121 hw) (w122 hw) (w123 hw) (w124 hw) hyC pd_0 rfl rfl (con_M_matAt l Z a0 hw n1 a (ctx_le K) hq27) rfl (Nat.le_of_ble_eq_true rfl) (Nat.le_of_ble_eq_true rfl) rfl rfl ?_
  refine g_istore (pc := 30) (L' := [some (.ref 0), some (.int i1), some (.int i2), some (.int i3), some (.int q19.1), some (.int q27.1)]) K.1 d41_30 (blt rfl) rfl ?_
  refine g_aloadN (pc := 32) K.1 d41_32 rfl ?_
  refine g_iloadN (pc := 33) K.1 d41_33 rfl ?_
  refine g_iloadN (pc := 34) K.1 d41_34 rfl ?_
  refine g_iload (pc := 35) K.1 d41_35 rfl ?_
  obtain ⟨q37, hq37, h⟩ := Option.bind_eq_some_iff.mp h
  refine g_callP (pc := 37) (vs := [.int i1, .int i3, .int q27.1]) K d41_37 (w105 hw) (w106 hw) (w107 hw) (w108 hw) hyC pd_5 rfl rfl (con_M_matPut l Z a0 hw n1 a (ctx_le K) hq37) rfl (Nat.le_of_ble_eq_true rfl) (Nat.le_of_ble_eq_true rfl) rfl rfl ?_
  refine g_aloadN (pc := 40) K.1 d41_40 rfl ?_
  refine g_iloadN (pc := 41) K.1 d41_41 rfl ?_
  refine g_iloadN (pc := 42) K.1 d41_42 rfl ?_
  refine g_iload (pc := 43) K.1 d41_43 rfl ?_
  obtain ⟨q45, hq45, h⟩ := Option.bind_eq_some_iff.mp h
  refine g_callP (pc := 45) (vs := [.int i2, .int i3, .int q19.1]) K d41_45 (w105 hw) (w106 hw) (w107 hw) (w108 hw) hyC pd_5 rfl rfl (con_M_matPut l Z a0 hw n1 a (ctx_le K) hq45) rfl (Nat.le_of_ble_eq_true rfl) (Nat.le_of_ble_eq_true rfl) rfl rfl ?_
  refine g_iinc (pc := 48) (w := 1) (L' := [some (.ref 0), some (.int i1), some (.int i2), some (.int (i3 + (1 : Int32))), some (.int q19.1), some (.int q27.1)]) K.1 d41_48 rfl (by decide) rfl ?_
  refine g_goto (pc := 51) (pc' := 8) K.1 d41_51 (by decide) ?_
  exact g_less (hk8 _ _ _ _ h) (ls (ls (ls (ls (ln (ln l0))))))
def M_swapRows_l8 (NF : Nat)  : Nat → Int32 → Int32 → Int32 → St → Option (St)
  | 0 => fun _ _ _ _ => none
  | n + 1 => fun i1 i2 i3 σ => M_swapRows_w8 NF  (M_swapRows_l8 NF  n) i1 i2 i3 σ
theorem ok_M_swapRows_l8 {X : Cx (St × Nat)} {Z : State} {a0 : Array Value} {l : Launch} {n1 : Nat} {a : Addr} {h0 : Heap} {NF : Nat} (K : KM_M_swapRows X Z a0 l n1 a h0) (hw : HW a0 Z) (n : Nat)  {r : St}  : ∀ (i1 : Int32) (i2 : Int32) (i3 : Int32) (σ : St) (h : M_swapRows_l8 NF  n i1 i2 i3 σ = some r), Go X (none, (r, 16)) 8 [some (.ref 0), some (.int i1), some (.int i2), some (.int i3), none, none] [] (σ, 16) := by
  induction n with
  | zero => intro i1 i2 i3 σ h; cases h
  | succ n ih => intro i1 i2 i3 σ h; exact ok_M_swapRows_w8 (NF := NF) K hw  ih h
def M_swapRows (NF : Nat) (σ : St) (v1 : Int32) (v2 : Int32) : Option (St) :=
  (if v1 = v2 then (some σ) else M_swapRows_l8 NF NF v1 v2 (0 : Int32) σ)
theorem ok_M_swapRows {X : Cx (St × Nat)} {Z : State} {a0 : Array Value} {l : Launch} {n1 : Nat} {a : Addr} {h0 : Heap} {NF : Nat} (K : KM_M_swapRows X Z a0 l n1 a h0) (hw : HW a0 Z) {σ : St} {v1 : Int32} {v2 : Int32} {r : St} (h : M_swapRows NF σ v1 v2 = some r) : Go X (none, (r, 16)) 0 [some (.ref 0), some (.int v1), some (.int v2), none, none, none] [] (σ, 16) := by
  unfold M_swapRows at h
  refine g_iloadN (pc := 0) K.1 d41_0 rfl ?_
  refine g_iloadN (pc := 1) K.1 d41_1 rfl ?_
  rcases ifs h with ⟨hc2, h⟩ | ⟨hc2, h⟩
  · refine g_icF (pc := 2) K.1 d41_2 ((teq hc2).2) ?_
    cases h; exact g_return K.1 d41_5 (capC K)
  refine g_icT (pc := 2) (pc' := 6) K.1 d41_2 (by decide) ((feq hc2).2) ?_
  refine g_iconst (pc := 6) (v := 0) K.1 d41_6 (by decide) ?_
  refine g_istoreN (pc := 7) (L' := [some (.ref 0), some (.int v1), some (.int v2), some (.int (0 : Int32)), none, none]) K.1 d41_7 (blt rfl) rfl ?_
  exact ok_M_swapRows_l8 K hw NF  _ _ _ _ h
theorem con_M_swapRows (l : Launch) (Z : State) (a0 : Array Value) (hw : HW a0 Z) (n1 : Nat) (a : Addr) (ha : n1 ≤ a) {NF : Nat} {σ : St} {v1 : Int32} {v2 : Int32} {r : St} (h : M_swapRows NF σ v1 v2 = some r) : Con l Z cC cFS cFA 16 n1 a ⟨cC, "swapRows", "(II)V"⟩ c41 6 none ⟨1, 0, 0, 15⟩ [.ref 0, .int v1, .int v2] σ none r :=
  con_of_go pnC rfl (layW hw) lgood ha (fun X h1 K => ok_M_swapRows K hw h)
abbrev KM_M_scaleRow (X : Cx (St × Nat)) (Z : State) (a0 : Array Value) (l : Launch) (n1 : Nat) (a : Addr) (h0 : Heap) : Prop := CtxC X Z a0 cC cFS cFA 16 25 l n1 a h0 ce0 ⟨1, 0, 0, 15⟩ "scaleRow" c42 7 none
def M_scaleRow_w3 (NF : Nat) (k3 : Int32 → Int32 → Int32 → Int32 → St → Option (St)) (i1 : Int32) (i2 : Int32) (i3 : Int32) (i4 : Int32) (σ : St) : Option (St) :=
  (if (gI σ 121) < i4 then (some σ) else ((M_matAt σ i1 i4).bind fun q16 => ((M_mod q16.2 (q16.1 * i2) i3).bind fun q27 => ((M_matPut q27.2 i1 i4 q27.1).bind fun q38 => k3 i1 i2 i3 (i4 + (1 : Int32)) q38))))
theorem ok_M_scaleRow_w3 {X : Cx (St × Nat)} {Z : State} {a0 : Array Value} {l : Launch} {n1 : Nat} {a : Addr} {h0 : Heap} {NF : Nat} (K : KM_M_scaleRow X Z a0 l n1 a h0) (hw : HW a0 Z) {k3 : Int32 → Int32 → Int32 → Int32 → St → Option (St)} {i1 : Int32} {i2 : Int32} {i3 : Int32} {i4 : Int32} {σ : St} {r : St} (hk3 : ∀ (i1 : Int32) (i2 : Int32) (i3 : Int32) (i4 : Int32) (σ : St) (h : k3 i1 i2 i3 i4 σ = some r), Go X (none, (r, 16)) 3 [some (.ref 0), some (.int i1), some (.int i2), some (.int i3), some (.int i4), none, none] [] (σ, 16)) (h : M_scaleRow_w3 NF k3 i1 i2 i3 i4 σ = some r) : Go X (none, (r, 16)) 3 [some (.ref 0), some (.int i1), some (.int i2), some (.int i3), some (.int i4), none, none] [] (σ, 16) := by
  unfold M_scaleRow_w3 at h
  refine g_iload (pc := 3) K.1 d42_3 rfl ?_
  refine g_aloadN (pc := 5) K.1 d42_5 rfl ?_
  refine g_getI (pc := 6) K d42_6 (w54 hw) mf_n ?_
  rcases ifs h with ⟨hc9, h⟩ | ⟨hc9, h⟩
  · refine g_icT (pc := 9) (pc' := 47) K.1 d42_9 (by decide) ((tlt hc9).2.2.1) ?_
    cases h; exact g_return K.1 d42_47 (capC K)
  refine g_icF (pc := 9) K.1 d42_9 ((flt hc9).2.2.1) ?_
  refine g_aloadN (pc := 12) K.1 d42_12 rfl ?_
  refine g_iloadN (pc := 13) K.1 d42_13 rfl ?_
  refine g_iload (pc := 14) K.1 d42_14 rfl ?_
  obtain ⟨q16, hq16, h⟩ := Option.bind_eq_some_iff.mp h
  refine g_callP (pc := 16) (vs := [.int i1, .int i4]) K d42_16 (w121 hw) (w122 hw) (w123 hw) (w124 hw) hyC pd_0 rfl rfl (con_M_matAt l Z a0 hw n1 a (ctx_le K) hq16) rfl (Nat.le_of_ble_eq_true rfl) (Nat.le_of_ble_eq_true rfl) rfl rfl ?_
  refine g_istore (pc := 19) (L' := [some (.ref 0), some (.int i1), some (.int i2), some (.int i3), some (.int i4), some (.int q16.1), none]) K.1 d42_19 (blt rfl) rfl ?_
  refine g_aloadN (pc := 21) K.1 d42_21 rfl ?_
  refine g_iload (pc := 22) K.1 d42_22 rfl ?_
  refine g_iloadN (pc := 24) K.1 d42_24 rfl ?_
  refine g_imul (pc := 25) K.1 d42_25 ?_
  refine g_iloadN (pc := 26) K.1 d42_26 rfl ?_
  obtain ⟨q27, hq27, h⟩ := Option.bind_eq_some_iff.mp h
  refine g_callP (pc := 27) (vs := [.int (q16.1 * i2), .int i3]) K d42_27 (w93 hw) (w94 hw) (w95 hw) (w96 hw) hyC pd_0 rfl rfl (con_M_mod l Z a0 hw n1 a (ctx_le K) hq27) rfl (Nat.le_of_ble_eq_true rfl) (Nat.le_of_ble_eq_true rfl) rfl rfl ?_
  refine g_istore (pc := 30) (L' := [some (.ref 0), some (.int i1), some (.int i2), some (.int i3), some (.int i4), some (.int q16.1), some (.int q27.1)]) K.1 d42_30 (blt rfl) rfl ?_
  refine g_aloadN (pc := 32) K.1 d42_32 rfl ?_
  refine g_iloadN (pc := 33) K.1 d42_33 rfl ?_
  refine g_iload (pc := 34) K.1 d42_34 rfl ?_
  refine g_iload (pc := 36) K.1 d42_36 rfl ?_
  obtain ⟨q38, hq38, h⟩ := Option.bind_eq_some_iff.mp h
  refine g_callP (pc := 38) (vs := [.int i1, .int i4, .int q27.1]) K d42_38 (w105 hw) (w106 hw) (w107 hw) (w108 hw) hyC pd_5 rfl rfl (con_M_matPut l Z a0 hw n1 a (ctx_le K) hq38) rfl (Nat.le_of_ble_eq_true rfl) (Nat.le_of_ble_eq_true rfl) rfl rfl ?_
  refine g_iinc (pc := 41) (w := 1) (L' := [some (.ref 0), some (.int i1), some (.int i2), some (.int i3), some (.int (i4 + (1 : Int32))), some (.int q16.1), some (.int q27.1)]) K.1 d42_41 rfl (by decide) rfl ?_
  refine g_goto (pc := 44) (pc' := 3) K.1 d42_44 (by decide) ?_
  exact g_less (hk3 _ _ _ _ _ h) (ls (ls (ls (ls (ls (ln (ln l0)))))))
def M_scaleRow_l3 (NF : Nat)  : Nat → Int32 → Int32 → Int32 → Int32 → St → Option (St)
  | 0 => fun _ _ _ _ _ => none
  | n + 1 => fun i1 i2 i3 i4 σ => M_scaleRow_w3 NF  (M_scaleRow_l3 NF  n) i1 i2 i3 i4 σ
theorem ok_M_scaleRow_l3 {X : Cx (St × Nat)} {Z : State} {a0 : Array Value} {l : Launch} {n1 : Nat} {a : Addr} {h0 : Heap} {NF : Nat} (K : KM_M_scaleRow X Z a0 l n1 a h0) (hw : HW a0 Z) (n : Nat)  {r : St}  : ∀ (i1 : Int32) (i2 : Int32) (i3 : Int32) (i4 : Int32) (σ : St) (h : M_scaleRow_l3 NF  n i1 i2 i3 i4 σ = some r), Go X (none, (r, 16)) 3 [some (.ref 0), some (.int i1), some (.int i2), some (.int i3), some (.int i4), none, none] [] (σ, 16) := by
  induction n with
  | zero => intro i1 i2 i3 i4 σ h; cases h
  | succ n ih => intro i1 i2 i3 i4 σ h; exact ok_M_scaleRow_w3 (NF := NF) K hw  ih h
def M_scaleRow (NF : Nat) (σ : St) (v1 : Int32) (v2 : Int32) (v3 : Int32) : Option (St) :=
  M_scaleRow_l3 NF NF v1 v2 v3 (0 : Int32) σ
theorem ok_M_scaleRow {X : Cx (St × Nat)} {Z : State} {a0 : Array Value} {l : Launch} {n1 : Nat} {a : Addr} {h0 : Heap} {NF : Nat} (K : KM_M_scaleRow X Z a0 l n1 a h0) (hw : HW a0 Z) {σ : St} {v1 : Int32} {v2 : Int32} {v3 : Int32} {r : St} (h : M_scaleRow NF σ v1 v2 v3 = some r) : Go X (none, (r, 16)) 0 [some (.ref 0), some (.int v1), some (.int v2), some (.int v3), none, none, none] [] (σ, 16) := by
  unfold M_scaleRow at h
  refine g_iconst (pc := 0) (v := 0) K.1 d42_0 (by decide) ?_
  refine g_istore (pc := 1) (L' := [some (.ref 0), some (.int v1), some (.int v2), some (.int v3), some (.int (0 : Int32)), none, none]) K.1 d42_1 (blt rfl) rfl ?_
  exact ok_M_scaleRow_l3 K hw NF  _ _ _ _ _ h
theorem con_M_scaleRow (l : Launch) (Z : State) (a0 : Array Value) (hw : HW a0 Z) (n1 : Nat) (a : Addr) (ha : n1 ≤ a) {NF : Nat} {σ : St} {v1 : Int32} {v2 : Int32} {v3 : Int32} {r : St} (h : M_scaleRow NF σ v1 v2 v3 = some r) : Con l Z cC cFS cFA 16 n1 a ⟨cC, "scaleRow", "(III)V"⟩ c42 7 none ⟨1, 0, 0, 15⟩ [.ref 0, .int v1, .int v2, .int v3] σ none r :=
  con_of_go pnC rfl (layW hw) lgood ha (fun X h1 K => ok_M_scaleRow K hw h)
abbrev KM_M_subtractRow (X : Cx (St × Nat)) (Z : State) (a0 : Array Value) (l : Launch) (n1 : Nat) (a : Addr) (h0 : Heap) : Prop := CtxC X Z a0 cC cFS cFA 16 25 l n1 a h0 ce0 ⟨1, 0, 0, 15⟩ "subtractRow" c44 9 none
def M_subtractRow_w3 (NF : Nat) (k3 : Int32 → Int32 → Int32 → Int32 → Int32 → St → Option (St)) (i1 : Int32) (i2 : Int32) (i3 : Int32) (i4 : Int32) (i5 : Int32) (σ : St) : Option (St) :=
  (if (gI σ 121) < i5 then (some σ) else ((M_matAt σ i2 i5).bind fun q16 => ((M_matAt q16.2 i1 i5).bind fun q25 => ((M_mod q25.2 (q25.1 - (i3 * q16.1)) i4).bind fun q40 => ((M_matPut q40.2 i1 i5 q40.1).bind fun q51 => k3 i1 i2 i3 i4 (i5 + (1 : Int32)) q51)))))
theorem ok_M_subtractRow_w3 {X : Cx (St × Nat)} {Z : State} {a0 : Array Value} {l : Launch} {n1 : Nat} {a : Addr} {h0 : Heap} {NF : Nat} (K : KM_M_subtractRow X Z a0 l n1 a h0) (hw : HW a0 Z) {k3 : Int32 → Int32 → Int32 → Int32 → Int32 → St → Option (St)} {i1 : Int32} {i2 : Int32} {i3 : Int32} {i4 : Int32} {i5 : Int32} {σ : St} {r : St} (hk3 : ∀ (i1 : Int32) (i2 : Int32) (i3 : Int32) (i4 : Int32) (i5 : Int32) (σ : St) (h : k3 i1 i2 i3 i4 i5 σ = some r), Go X (none, (r, 16)) 3 [some (.ref 0), some (.int i1), some (.int i2), some (.int i3), some (.int i4), some (.int i5), none, none, none] [] (σ, 16)) (h : M_subtractRow_w3 NF k3 i1 i2 i3 i4 i5 σ = some r) : Go X (none, (r, 16)) 3 [some (.ref 0), some (.int i1), some (.int i2), some (.int i3), some (.int i4), some (.int i5), none, none, none] [] (σ, 16) := by
  unfold M_subtractRow_w3 at h
  refine g_iload (pc := 3) K.1 d44_3 rfl ?_
  refine g_aloadN (pc := 5) K.1 d44_5 rfl ?_
  refine g_getI (pc := 6) K d44_6 (w54 hw) mf_n ?_
  rcases ifs h with ⟨hc9, h⟩ | ⟨hc9, h⟩
  · refine g_icT (pc := 9) (pc' := 60) K.1 d44_9 (by decide) ((tlt hc9).2.2.1) ?_
    cases h; exact g_return K.1 d44_60 (capC K)
  refine g_icF (pc := 9) K.1 d44_9 ((flt hc9).2.2.1) ?_
  refine g_aloadN (pc := 12) K.1 d44_12 rfl ?_
  refine g_iloadN (pc := 13) K.1 d44_13 rfl ?_
  refine g_iload (pc := 14) K.1 d44_14 rfl ?_
  obtain ⟨q16, hq16, h⟩ := Option.bind_eq_some_iff.mp h
  refine g_callP (pc := 16) (vs := [.int i2, .int i5]) K d44_16 (w121 hw) (w122 hw) (w123 hw) (w124 hw) hyC pd_0 rfl rfl (con_M_matAt l Z a0 hw n1 a (ctx_le K) hq16) rfl (Nat.le_of_ble_eq_true rfl) (Nat.le_of_ble_eq_true rfl) rfl rfl ?_
  refine g_istore (pc := 19) (L' := [some (.ref 0), some (.int i1), some (.int i2), some (.int i3), some (.int i4), some (.int i5), some (.int q16.1), none, none]) K.1 d44_19 (blt rfl) rfl ?_
  refine g_aloadN (pc := 21) K.1 d44_21 rfl ?_
  refine g_iloadN (pc := 22) K.1 d44_22 rfl ?_
  refine g_iload (pc := 23) K.1 d44_23 rfl ?_
  obtain ⟨q25, hq25, h⟩ := Option.bind_eq_some_iff.mp h
  refine g_callP (pc := 25) (vs := [.int i1, .int i5]) K d44_25 (w121 hw) (w122 hw) (w123 hw) (w124 hw) hyC pd_0 rfl rfl (con_M_matAt l Z a0 hw n1 a (ctx_le K) hq25) rfl (Nat.le_of_ble_eq_true rfl) (Nat.le_of_ble_eq_true rfl) rfl rfl ?_
  refine g_istore (pc := 28) (L' := [some (.ref 0), some (.int i1), some (.int i2), some (.int i3), some (.int i4), some (.int i5), some (.int q16.1), some (.int q25.1), none]) K.1 d44_28 (blt rfl) rfl ?_
  refine g_aloadN (pc := 30) K.1 d44_30 rfl ?_
  refine g_iload (pc := 31) K.1 d44_31 rfl ?_
  refine g_iloadN (pc := 33) K.1 d44_33 rfl ?_
  refine g_iload (pc := 34) K.1 d44_34 rfl ?_
  refine g_imul (pc := 36) K.1 d44_36 ?_
  refine g_isub (pc := 37) K.1 d44_37 ?_
  refine g_iload (pc := 38) K.1 d44_38 rfl ?_
  obtain ⟨q40, hq40, h⟩ := Option.bind_eq_some_iff.mp h
  refine g_callP (pc := 40) (vs := [.int (q25.1 - (i3 * q16.1)), .int i4]) K d44_40 (w93 hw) (w94 hw) (w95 hw) (w96 hw) hyC pd_0 rfl rfl (con_M_mod l Z a0 hw n1 a (ctx_le K) hq40) rfl (Nat.le_of_ble_eq_true rfl) (Nat.le_of_ble_eq_true rfl) rfl rfl ?_
  refine g_istore (pc := 43) (L' := [some (.ref 0), some (.int i1), some (.int i2), some (.int i3), some (.int i4), some (.int i5), some (.int q16.1), some (.int q25.1), some (.int q40.1)]) K.1 d44_43 (blt rfl) rfl ?_
  refine g_aloadN (pc := 45) K.1 d44_45 rfl ?_
  refine g_iloadN (pc := 46) K.1 d44_46 rfl ?_
  refine g_iload (pc := 47) K.1 d44_47 rfl ?_
  refine g_iload (pc := 49) K.1 d44_49 rfl ?_
  obtain ⟨q51, hq51, h⟩ := Option.bind_eq_some_iff.mp h
  refine g_callP (pc := 51) (vs := [.int i1, .int i5, .int q40.1]) K d44_51 (w105 hw) (w106 hw) (w107 hw) (w108 hw) hyC pd_5 rfl rfl (con_M_matPut l Z a0 hw n1 a (ctx_le K) hq51) rfl (Nat.le_of_ble_eq_true rfl) (Nat.le_of_ble_eq_true rfl) rfl rfl ?_
  refine g_iinc (pc := 54) (w := 1) (L' := [some (.ref 0), some (.int i1), some (.int i2), some (.int i3), some (.int i4), some (.int (i5 + (1 : Int32))), some (.int q16.1), some (.int q25.1), some (.int q40.1)]) K.1 d44_54 rfl (by decide) rfl ?_
  refine g_goto (pc := 57) (pc' := 3) K.1 d44_57 (by decide) ?_
  exact g_less (hk3 _ _ _ _ _ _ h) (ls (ls (ls (ls (ls (ls (ln (ln (ln l0)))))))))
def M_subtractRow_l3 (NF : Nat)  : Nat → Int32 → Int32 → Int32 → Int32 → Int32 → St → Option (St)
  | 0 => fun _ _ _ _ _ _ => none
  | n + 1 => fun i1 i2 i3 i4 i5 σ => M_subtractRow_w3 NF  (M_subtractRow_l3 NF  n) i1 i2 i3 i4 i5 σ
theorem ok_M_subtractRow_l3 {X : Cx (St × Nat)} {Z : State} {a0 : Array Value} {l : Launch} {n1 : Nat} {a : Addr} {h0 : Heap} {NF : Nat} (K : KM_M_subtractRow X Z a0 l n1 a h0) (hw : HW a0 Z) (n : Nat)  {r : St}  : ∀ (i1 : Int32) (i2 : Int32) (i3 : Int32) (i4 : Int32) (i5 : Int32) (σ : St) (h : M_subtractRow_l3 NF  n i1 i2 i3 i4 i5 σ = some r), Go X (none, (r, 16)) 3 [some (.ref 0), some (.int i1), some (.int i2), some (.int i3), some (.int i4), some (.int i5), none, none, none] [] (σ, 16) := by
  induction n with
  | zero => intro i1 i2 i3 i4 i5 σ h; cases h
  | succ n ih => intro i1 i2 i3 i4 i5 σ h; exact ok_M_subtractRow_w3 (NF := NF) K hw  ih h
def M_subtractRow (NF : Nat) (σ : St) (v1 : Int32) (v2 : Int32) (v3 : Int32) (v4 : Int32) : Option (St) :=
  M_subtractRow_l3 NF NF v1 v2 v3 v4 (0 : Int32) σ
theorem ok_M_subtractRow {X : Cx (St × Nat)} {Z : State} {a0 : Array Value} {l : Launch} {n1 : Nat} {a : Addr} {h0 : Heap} {NF : Nat} (K : KM_M_subtractRow X Z a0 l n1 a h0) (hw : HW a0 Z) {σ : St} {v1 : Int32} {v2 : Int32} {v3 : Int32} {v4 : Int32} {r : St} (h : M_subtractRow NF σ v1 v2 v3 v4 = some r) : Go X (none, (r, 16)) 0 [some (.ref 0), some (.int v1), some (.int v2), some (.int v3), some (.int v4), none, none, none, none] [] (σ, 16) := by
  unfold M_subtractRow at h
  refine g_iconst (pc := 0) (v := 0) K.1 d44_0 (by decide) ?_
  refine g_istore (pc := 1) (L' := [some (.ref 0), some (.int v1), some (.int v2), some (.int v3), some (.int v4), some (.int (0 : Int32)), none, none, none]) K.1 d44_1 (blt rfl) rfl ?_
  exact ok_M_subtractRow_l3 K hw NF  _ _ _ _ _ _ h
theorem con_M_subtractRow (l : Launch) (Z : State) (a0 : Array Value) (hw : HW a0 Z) (n1 : Nat) (a : Addr) (ha : n1 ≤ a) {NF : Nat} {σ : St} {v1 : Int32} {v2 : Int32} {v3 : Int32} {v4 : Int32} {r : St} (h : M_subtractRow NF σ v1 v2 v3 v4 = some r) : Con l Z cC cFS cFA 16 n1 a ⟨cC, "subtractRow", "(IIII)V"⟩ c44 9 none ⟨1, 0, 0, 15⟩ [.ref 0, .int v1, .int v2, .int v3, .int v4] σ none r :=
  con_of_go pnC rfl (layW hw) lgood ha (fun X h1 K => ok_M_subtractRow K hw h)
abbrev KM_M_clearColumn (X : Cx (St × Nat)) (Z : State) (a0 : Array Value) (l : Launch) (n1 : Nat) (a : Addr) (h0 : Heap) : Prop := CtxC X Z a0 cC cFS cFA 16 25 l n1 a h0 ce0 ⟨2, 0, 0, 35⟩ "clearColumn" c43 5 none
def M_clearColumn_b43 (NF : Nat) (k2 : Int32 → Int32 → Int32 → St → Option (St)) (i1 : Int32) (i2 : Int32) (i3 : Int32) (σ : St) : Option (St) :=
  k2 i1 i2 (i3 + (1 : Int32)) σ
theorem ok_M_clearColumn_b43 {X : Cx (St × Nat)} {Z : State} {a0 : Array Value} {l : Launch} {n1 : Nat} {a : Addr} {h0 : Heap} {NF : Nat} (K : KM_M_clearColumn X Z a0 l n1 a h0) (hw : HW a0 Z) {k2 : Int32 → Int32 → Int32 → St → Option (St)} {i1 : Int32} {i2 : Int32} {i3 : Int32} {σ : St} {r : St} (hk2 : ∀ (i1 : Int32) (i2 : Int32) (i3 : Int32) (σ : St) (h : k2 i1 i2 i3 σ = some r), Go X (none, (r, 16)) 2 [some (.ref 0), some (.int i1), some (.int i2), some (.int i3), none] [] (σ, 16)) (h : M_clearColumn_b43 NF k2 i1 i2 i3 σ = some r) : Go X (none, (r, 16)) 43 [some (.ref 0), some (.int i1), some (.int i2), some (.int i3), none] [] (σ, 16) := by
  unfold M_clearColumn_b43 at h
  refine g_iinc (pc := 43) (w := 1) (L' := [some (.ref 0), some (.int i1), some (.int i2), some (.int (i3 + (1 : Int32))), none]) K.1 d43_43 rfl (by decide) rfl ?_
  refine g_goto (pc := 46) (pc' := 2) K.1 d43_46 (by decide) ?_
  exact hk2 _ _ _ _ h
def M_clearColumn_w2 (NF : Nat) (k2 : Int32 → Int32 → Int32 → St → Option (St)) (i1 : Int32) (i2 : Int32) (i3 : Int32) (σ : St) : Option (St) :=
  (if i3 < (gI σ 121) then (if i3 = i1 then M_clearColumn_b43 NF k2 i1 i2 i3 σ else ((M_matAt σ i3 i1).bind fun q21 => (if q21.1 = 0 then M_clearColumn_b43 NF k2 i1 i2 i3 q21.2 else ((M_subtractRow NF q21.2 i3 i1 q21.1 i2).bind fun q40 => M_clearColumn_b43 NF k2 i1 i2 i3 q40)))) else (some σ))
theorem ok_M_clearColumn_w2 {X : Cx (St × Nat)} {Z : State} {a0 : Array Value} {l : Launch} {n1 : Nat} {a : Addr} {h0 : Heap} {NF : Nat} (K : KM_M_clearColumn X Z a0 l n1 a h0) (hw : HW a0 Z) {k2 : Int32 → Int32 → Int32 → St → Option (St)} {i1 : Int32} {i2 : Int32} {i3 : Int32} {σ : St} {r : St} (hk2 : ∀ (i1 : Int32) (i2 : Int32) (i3 : Int32) (σ : St) (h : k2 i1 i2 i3 σ = some r), Go X (none, (r, 16)) 2 [some (.ref 0), some (.int i1), some (.int i2), some (.int i3), none] [] (σ, 16)) (h : M_clearColumn_w2 NF k2 i1 i2 i3 σ = some r) : Go X (none, (r, 16)) 2 [some (.ref 0), some (.int i1), some (.int i2), some (.int i3), none] [] (σ, 16) := by
  unfold M_clearColumn_w2 at h
  refine g_iloadN (pc := 2) K.1 d43_2 rfl ?_
  refine g_aloadN (pc := 3) K.1 d43_3 rfl ?_
  refine g_getI (pc := 4) K d43_4 (w54 hw) mf_n ?_
  rcases ifs h with ⟨hc7, h⟩ | ⟨hc7, h⟩
  · refine g_icF (pc := 7) K.1 d43_7 ((tlt hc7).2.1) ?_
    refine g_iloadN (pc := 10) K.1 d43_10 rfl ?_
    refine g_iloadN (pc := 11) K.1 d43_11 rfl ?_
    rcases ifs h with ⟨hc12, h⟩ | ⟨hc12, h⟩
    · refine g_icF (pc := 12) K.1 d43_12 ((teq hc12).2) ?_
      refine g_goto (pc := 15) (pc' := 43) K.1 d43_15 (by decide) ?_
      exact ok_M_clearColumn_b43 K hw hk2 h
    refine g_icT (pc := 12) (pc' := 18) K.1 d43_12 (by decide) ((feq hc12).2) ?_
    refine g_aloadN (pc := 18) K.1 d43_18 rfl ?_
    refine g_iloadN (pc := 19) K.1 d43_19 rfl ?_
    refine g_iloadN (pc := 20) K.1 d43_20 rfl ?_
    obtain ⟨q21, hq21, h⟩ := Option.bind_eq_some_iff.mp h
    refine g_callP (pc := 21) (vs := [.int i3, .int i1]) K d43_21 (w121 hw) (w122 hw) (w123 hw) (w124 hw) hyC pd_0 rfl rfl (con_M_matAt l Z a0 hw n1 a (ctx_le K) hq21) rfl (Nat.le_of_ble_eq_true rfl) (Nat.le_of_ble_eq_true rfl) rfl rfl ?_
    refine g_istore (pc := 24) (L' := [some (.ref 0), some (.int i1), some (.int i2), some (.int i3), some (.int q21.1)]) K.1 d43_24 (blt rfl) rfl ?_
    refine g_iload (pc := 26) K.1 d43_26 rfl ?_
    rcases ifs h with ⟨hc28, h⟩ | ⟨hc28, h⟩
    · refine g_ifF (pc := 28) K.1 d43_28 ((if0 _ _).trans (teq hc28).2) ?_
      refine g_goto (pc := 31) (pc' := 43) K.1 d43_31 (by decide) ?_
      exact g_less (ok_M_clearColumn_b43 K hw hk2 h) (ls (ls (ls (ls (ln l0)))))
    refine g_ifT (pc := 28) (pc' := 34) K.1 d43_28 (by decide) ((if0 _ _).trans (feq hc28).2) ?_
    refine g_aloadN (pc := 34) K.1 d43_34 rfl ?_
    refine g_iloadN (pc := 35) K.1 d43_35 rfl ?_
    refine g_iloadN (pc := 36) K.1 d43_36 rfl ?_
    refine g_iload (pc := 37) K.1 d43_37 rfl ?_
    refine g_iloadN (pc := 39) K.1 d43_39 rfl ?_
    obtain ⟨q40, hq40, h⟩ := Option.bind_eq_some_iff.mp h
    refine g_callP (pc := 40) (vs := [.int i3, .int i1, .int q21.1, .int i2]) K d43_40 (w322 hw) (w323 hw) (w324 hw) (w325 hw) hyC pd_15 rfl rfl (con_M_subtractRow l Z a0 hw n1 a (ctx_le K) hq40) rfl (Nat.le_of_ble_eq_true rfl) (Nat.le_of_ble_eq_true rfl) rfl rfl ?_
    exact g_less (ok_M_clearColumn_b43 K hw hk2 h) (ls (ls (ls (ls (ln l0)))))
  refine g_icT (pc := 7) (pc' := 49) K.1 d43_7 (by decide) ((flt hc7).2.1) ?_
  cases h; exact g_return K.1 d43_49 (capC K)
def M_clearColumn_l2 (NF : Nat)  : Nat → Int32 → Int32 → Int32 → St → Option (St)
  | 0 => fun _ _ _ _ => none
  | n + 1 => fun i1 i2 i3 σ => M_clearColumn_w2 NF  (M_clearColumn_l2 NF  n) i1 i2 i3 σ
theorem ok_M_clearColumn_l2 {X : Cx (St × Nat)} {Z : State} {a0 : Array Value} {l : Launch} {n1 : Nat} {a : Addr} {h0 : Heap} {NF : Nat} (K : KM_M_clearColumn X Z a0 l n1 a h0) (hw : HW a0 Z) (n : Nat)  {r : St}  : ∀ (i1 : Int32) (i2 : Int32) (i3 : Int32) (σ : St) (h : M_clearColumn_l2 NF  n i1 i2 i3 σ = some r), Go X (none, (r, 16)) 2 [some (.ref 0), some (.int i1), some (.int i2), some (.int i3), none] [] (σ, 16) := by
  induction n with
  | zero => intro i1 i2 i3 σ h; cases h
  | succ n ih => intro i1 i2 i3 σ h; exact ok_M_clearColumn_w2 (NF := NF) K hw  ih h
def M_clearColumn (NF : Nat) (σ : St) (v1 : Int32) (v2 : Int32) : Option (St) :=
  M_clearColumn_l2 NF NF v1 v2 (0 : Int32) σ
theorem ok_M_clearColumn {X : Cx (St × Nat)} {Z : State} {a0 : Array Value} {l : Launch} {n1 : Nat} {a : Addr} {h0 : Heap} {NF : Nat} (K : KM_M_clearColumn X Z a0 l n1 a h0) (hw : HW a0 Z) {σ : St} {v1 : Int32} {v2 : Int32} {r : St} (h : M_clearColumn NF σ v1 v2 = some r) : Go X (none, (r, 16)) 0 [some (.ref 0), some (.int v1), some (.int v2), none, none] [] (σ, 16) := by
  unfold M_clearColumn at h
  refine g_iconst (pc := 0) (v := 0) K.1 d43_0 (by decide) ?_
  refine g_istoreN (pc := 1) (L' := [some (.ref 0), some (.int v1), some (.int v2), some (.int (0 : Int32)), none]) K.1 d43_1 (blt rfl) rfl ?_
  exact ok_M_clearColumn_l2 K hw NF  _ _ _ _ h
theorem con_M_clearColumn (l : Launch) (Z : State) (a0 : Array Value) (hw : HW a0 Z) (n1 : Nat) (a : Addr) (ha : n1 ≤ a) {NF : Nat} {σ : St} {v1 : Int32} {v2 : Int32} {r : St} (h : M_clearColumn NF σ v1 v2 = some r) : Con l Z cC cFS cFA 16 n1 a ⟨cC, "clearColumn", "(II)V"⟩ c43 5 none ⟨2, 0, 0, 35⟩ [.ref 0, .int v1, .int v2] σ none r :=
  con_of_go pnC rfl (layW hw) lgood ha (fun X h1 K => ok_M_clearColumn K hw h)
abbrev KM_M_eliminate (X : Cx (St × Nat)) (Z : State) (a0 : Array Value) (l : Launch) (n1 : Nat) (a : Addr) (h0 : Heap) : Prop := CtxC X Z a0 cC cFS cFA 16 25 l n1 a h0 ce0 ⟨3, 0, 0, 51⟩ "eliminate" c37 6 (some .boolean)
def M_eliminate_w2 (NF : Nat) (k2 : Int32 → Int32 → St → Option (Int32 × St)) (i1 : Int32) (i2 : Int32) (σ : St) : Option (Int32 × St) :=
  (if i2 < (gI σ 121) then ((M_findPivot NF σ i2 i1).bind fun q13 => (if q13.1 < 0 then (some ((0 : Int32), q13.2)) else ((M_swapRows NF q13.2 q13.1 i2).bind fun q26 => ((M_matAt q26 i2 i2).bind fun q32 => ((M_inverseMod NF q32.2 q32.1 i1).bind fun q41 => ((M_scaleRow NF q41.2 i2 q41.1 i1).bind fun q51 => ((M_clearColumn NF q51 i2 i1).bind fun q57 => k2 i1 (i2 + (1 : Int32)) q57))))))) else (some ((1 : Int32), σ)))
theorem ok_M_eliminate_w2 {X : Cx (St × Nat)} {Z : State} {a0 : Array Value} {l : Launch} {n1 : Nat} {a : Addr} {h0 : Heap} {NF : Nat} (K : KM_M_eliminate X Z a0 l n1 a h0) (hw : HW a0 Z) {k2 : Int32 → Int32 → St → Option (Int32 × St)} {i1 : Int32} {i2 : Int32} {σ : St} {r : Int32 × St} (hk2 : ∀ (i1 : Int32) (i2 : Int32) (σ : St) (h : k2 i1 i2 σ = some r), Go X (some (.int r.1), (r.2, 16)) 2 [some (.ref 0), some (.int i1), some (.int i2), none, none, none] [] (σ, 16)) (h : M_eliminate_w2 NF k2 i1 i2 σ = some r) : Go X (some (.int r.1), (r.2, 16)) 2 [some (.ref 0), some (.int i1), some (.int i2), none, none, none] [] (σ, 16) := by
  unfold M_eliminate_w2 at h
  refine g_iloadN (pc := 2) K.1 d37_2 rfl ?_
  refine g_aloadN (pc := 3) K.1 d37_3 rfl ?_
  refine g_getI (pc := 4) K d37_4 (w54 hw) mf_n ?_
  rcases ifs h with ⟨hc7, h⟩ | ⟨hc7, h⟩
  · refine g_icF (pc := 7) K.1 d37_7 ((tlt hc7).2.1) ?_
    refine g_aloadN (pc := 10) K.1 d37_10 rfl ?_
    refine g_iloadN (pc := 11) K.1 d37_11 rfl ?_
    refine g_iloadN (pc := 12) K.1 d37_12 rfl ?_
    obtain ⟨q13, hq13, h⟩ := Option.bind_eq_some_iff.mp h
    refine g_callP (pc := 13) (vs := [.int i2, .int i1]) K d37_13 (w117 hw) (w118 hw) (w119 hw) (w120 hw) hyC pd_0 rfl rfl (con_M_findPivot l Z a0 hw n1 a (ctx_le K) hq13) rfl (Nat.le_of_ble_eq_true rfl) (Nat.le_of_ble_eq_true rfl) rfl rfl ?_
    refine g_istoreN (pc := 16) (L' := [some (.ref 0), some (.int i1), some (.int i2), some (.int q13.1), none, none]) K.1 d37_16 (blt rfl) rfl ?_
    refine g_iloadN (pc := 17) K.1 d37_17 rfl ?_
    rcases ifs h with ⟨hc18, h⟩ | ⟨hc18, h⟩
    · refine g_ifF (pc := 18) K.1 d37_18 ((if0 _ _).trans (tlt hc18).2.1) ?_
      refine g_iconst (pc := 21) (v := 0) K.1 d37_21 (by decide) ?_
      cases h; exact g_ireturnN (t := .boolean) K.1 rfl (Or.inl rfl) d37_22 rfl (capC K)
    refine g_ifT (pc := 18) (pc' := 23) K.1 d37_18 (by decide) ((if0 _ _).trans (flt hc18).2.1) ?_
    refine g_aloadN (pc := 23) K.1 d37_23 rfl ?_
    refine g_iloadN (pc := 24) K.1 d37_24 rfl ?_
    refine g_iloadN (pc := 25) K.1 d37_25 rfl ?_
    obtain ⟨q26, hq26, h⟩ := Option.bind_eq_some_iff.mp h
    refine g_callP (pc := 26) (vs := [.int q13.1, .int i2]) K d37_26 (w220 hw) (w221 hw) (w222 hw) (w223 hw) hyC pd_16 rfl rfl (con_M_swapRows l Z a0 hw n1 a (ctx_le K) hq26) rfl (Nat.le_of_ble_eq_true rfl) (Nat.le_of_ble_eq_true rfl) rfl rfl ?_
    refine g_aloadN (pc := 29) K.1 d37_29 rfl ?_
    refine g_iloadN (pc := 30) K.1 d37_30 rfl ?_
    refine g_iloadN (pc := 31) K.1 d37_31 rfl ?_
    obtain ⟨q32, hq32, h⟩ := Option.bind_eq_some_iff.mp h
    refine g_callP (pc := 32) (vs := [.int i2, .int i2]) K d37_32 (w121 hw) (w122 hw) (w123 hw) (w124 hw) hyC pd_0 rfl rfl (con_M_matAt l Z a0 hw n1 a (ctx_le K) hq32) rfl (Nat.le_of_ble_eq_true rfl) (Nat.le_of_ble_eq_true rfl) rfl rfl ?_
    refine g_istore (pc := 35) (L' := [some (.ref 0), some (.int i1), some (.int i2), some (.int q13.1), some (.int q32.1), none]) K.1 d37_35 (blt rfl) rfl ?_
    refine g_aloadN (pc := 37) K.1 d37_37 rfl ?_
    refine g_iload (pc := 38) K.1 d37_38 rfl ?_
    refine g_iloadN (pc := 40) K.1 d37_40 rfl ?_
    obtain ⟨q41, hq41, h⟩ := Option.bind_eq_some_iff.mp h
    refine g_callP (pc := 41) (vs := [.int q32.1, .int i1]) K d37_41 (w125 hw) (w126 hw) (w127 hw) (w128 hw) hyC pd_0 rfl rfl (con_M_inverseMod l Z a0 hw n1 a (ctx_le K) hq41) rfl (Nat.le_of_ble_eq_true rfl) (Nat.le_of_ble_eq_true rfl) rfl rfl ?_
    refine g_istore (pc := 44) (L' := [some (.ref 0), some (.int i1), some (.int i2), some (.int q13.1), some (.int q32.1), some (.int q41.1)]) K.1 d37_44 (blt rfl) rfl ?_
    refine g_aloadN (pc := 46) K.1 d37_46 rfl ?_
    refine g_iloadN (pc := 47) K.1 d37_47 rfl ?_
    refine g_iload (pc := 48) K.1 d37_48 rfl ?_
    refine g_iloadN (pc := 50) K.1 d37_50 rfl ?_
    obtain ⟨q51, hq51, h⟩ := Option.bind_eq_some_iff.mp h
    refine g_callP (pc := 51) (vs := [.int i2, .int q41.1, .int i1]) K d37_51 (w224 hw) (w225 hw) (w226 hw) (w227 hw) hyC pd_5 rfl rfl (con_M_scaleRow l Z a0 hw n1 a (ctx_le K) hq51) rfl (Nat.le_of_ble_eq_true rfl) (Nat.le_of_ble_eq_true rfl) rfl rfl ?_
    refine g_aloadN (pc := 54) K.1 d37_54 rfl ?_
    refine g_iloadN (pc := 55) K.1 d37_55 rfl ?_
    refine g_iloadN (pc := 56) K.1 d37_56 rfl ?_
    obtain ⟨q57, hq57, h⟩ := Option.bind_eq_some_iff.mp h
    refine g_callP (pc := 57) (vs := [.int i2, .int i1]) K d37_57 (w228 hw) (w229 hw) (w230 hw) (w231 hw) hyC pd_16 rfl rfl (con_M_clearColumn l Z a0 hw n1 a (ctx_le K) hq57) rfl (Nat.le_of_ble_eq_true rfl) (Nat.le_of_ble_eq_true rfl) rfl rfl ?_
    refine g_iinc (pc := 60) (w := 1) (L' := [some (.ref 0), some (.int i1), some (.int (i2 + (1 : Int32))), some (.int q13.1), some (.int q32.1), some (.int q41.1)]) K.1 d37_60 rfl (by decide) rfl ?_
    refine g_goto (pc := 63) (pc' := 2) K.1 d37_63 (by decide) ?_
    exact g_less (hk2 _ _ _ h) (ls (ls (ls (ln (ln (ln l0))))))
  refine g_icT (pc := 7) (pc' := 66) K.1 d37_7 (by decide) ((flt hc7).2.1) ?_
  refine g_iconst (pc := 66) (v := 1) K.1 d37_66 (by decide) ?_
  cases h; exact g_ireturnN (t := .boolean) K.1 rfl (Or.inl rfl) d37_67 rfl (capC K)
def M_eliminate_l2 (NF : Nat)  : Nat → Int32 → Int32 → St → Option (Int32 × St)
  | 0 => fun _ _ _ => none
  | n + 1 => fun i1 i2 σ => M_eliminate_w2 NF  (M_eliminate_l2 NF  n) i1 i2 σ
theorem ok_M_eliminate_l2 {X : Cx (St × Nat)} {Z : State} {a0 : Array Value} {l : Launch} {n1 : Nat} {a : Addr} {h0 : Heap} {NF : Nat} (K : KM_M_eliminate X Z a0 l n1 a h0) (hw : HW a0 Z) (n : Nat)  {r : Int32 × St}  : ∀ (i1 : Int32) (i2 : Int32) (σ : St) (h : M_eliminate_l2 NF  n i1 i2 σ = some r), Go X (some (.int r.1), (r.2, 16)) 2 [some (.ref 0), some (.int i1), some (.int i2), none, none, none] [] (σ, 16) := by
  induction n with
  | zero => intro i1 i2 σ h; cases h
  | succ n ih => intro i1 i2 σ h; exact ok_M_eliminate_w2 (NF := NF) K hw  ih h
def M_eliminate (NF : Nat) (σ : St) (v1 : Int32) : Option (Int32 × St) :=
  M_eliminate_l2 NF NF v1 (0 : Int32) σ
theorem ok_M_eliminate {X : Cx (St × Nat)} {Z : State} {a0 : Array Value} {l : Launch} {n1 : Nat} {a : Addr} {h0 : Heap} {NF : Nat} (K : KM_M_eliminate X Z a0 l n1 a h0) (hw : HW a0 Z) {σ : St} {v1 : Int32} {r : Int32 × St} (h : M_eliminate NF σ v1 = some r) : Go X (some (.int r.1), (r.2, 16)) 0 [some (.ref 0), some (.int v1), none, none, none, none] [] (σ, 16) := by
  unfold M_eliminate at h
  refine g_iconst (pc := 0) (v := 0) K.1 d37_0 (by decide) ?_
  refine g_istoreN (pc := 1) (L' := [some (.ref 0), some (.int v1), some (.int (0 : Int32)), none, none, none]) K.1 d37_1 (blt rfl) rfl ?_
  exact ok_M_eliminate_l2 K hw NF  _ _ _ h
theorem con_M_eliminate (l : Launch) (Z : State) (a0 : Array Value) (hw : HW a0 Z) (n1 : Nat) (a : Addr) (ha : n1 ≤ a) {NF : Nat} {σ : St} {v1 : Int32} {r : Int32 × St} (h : M_eliminate NF σ v1 = some r) : Con l Z cC cFS cFA 16 n1 a ⟨cC, "eliminate", "(I)Z"⟩ c37 6 (some .boolean) ⟨3, 0, 0, 51⟩ [.ref 0, .int v1] σ (some (.int r.1)) r.2 :=
  con_of_go pnC rfl (layW hw) lgood ha (fun X h1 K => ok_M_eliminate K hw h)
abbrev KM_M_readSolution (X : Cx (St × Nat)) (Z : State) (a0 : Array Value) (l : Launch) (n1 : Nat) (a : Addr) (h0 : Heap) : Prop := CtxC X Z a0 cC cFS cFA 16 25 l n1 a h0 ce0 ⟨2, 0, 0, 30⟩ "readSolution" c45 4 none
def M_readSolution_w2 (NF : Nat) (k2 : Int32 → Int32 → St → Option (St)) (i1 : Int32) (i2 : Int32) (σ : St) : Option (St) :=
  (if i2 < (gI σ 121) then ((M_matAt σ i2 (gI σ 121)).bind fun q16 => ((M_store q16.2 i1 i2 q16.1).bind fun q24 => k2 i1 (i2 + (1 : Int32)) q24)) else (some σ))
theorem ok_M_readSolution_w2 {X : Cx (St × Nat)} {Z : State} {a0 : Array Value} {l : Launch} {n1 : Nat} {a : Addr} {h0 : Heap} {NF : Nat} (K : KM_M_readSolution X Z a0 l n1 a h0) (hw : HW a0 Z) {k2 : Int32 → Int32 → St → Option (St)} {i1 : Int32} {i2 : Int32} {σ : St} {r : St} (hk2 : ∀ (i1 : Int32) (i2 : Int32) (σ : St) (h : k2 i1 i2 σ = some r), Go X (none, (r, 16)) 2 [some (.ref 0), some (.int i1), some (.int i2), none] [] (σ, 16)) (h : M_readSolution_w2 NF k2 i1 i2 σ = some r) : Go X (none, (r, 16)) 2 [some (.ref 0), some (.int i1), some (.int i2), none] [] (σ, 16) := by
  unfold M_readSolution_w2 at h
  refine g_iloadN (pc := 2) K.1 d45_2 rfl ?_
  refine g_aloadN (pc := 3) K.1 d45_3 rfl ?_
  refine g_getI (pc := 4) K d45_4 (w54 hw) mf_n ?_
  rcases ifs h with ⟨hc7, h⟩ | ⟨hc7, h⟩
  · refine g_icF (pc := 7) K.1 d45_7 ((tlt hc7).2.1) ?_
    refine g_aloadN (pc := 10) K.1 d45_10 rfl ?_
    refine g_iloadN (pc := 11) K.1 d45_11 rfl ?_
    refine g_aloadN (pc := 12) K.1 d45_12 rfl ?_
    refine g_getI (pc := 13) K d45_13 (w54 hw) mf_n ?_
    obtain ⟨q16, hq16, h⟩ := Option.bind_eq_some_iff.mp h
    refine g_callP (pc := 16) (vs := [.int i2, .int (gI σ 121)]) K d45_16 (w121 hw) (w122 hw) (w123 hw) (w124 hw) hyC pd_0 rfl rfl (con_M_matAt l Z a0 hw n1 a (ctx_le K) hq16) rfl (Nat.le_of_ble_eq_true rfl) (Nat.le_of_ble_eq_true rfl) rfl rfl ?_
    refine g_istoreN (pc := 19) (L' := [some (.ref 0), some (.int i1), some (.int i2), some (.int q16.1)]) K.1 d45_19 (blt rfl) rfl ?_
    refine g_aloadN (pc := 20) K.1 d45_20 rfl ?_
    refine g_iloadN (pc := 21) K.1 d45_21 rfl ?_
    refine g_iloadN (pc := 22) K.1 d45_22 rfl ?_
    refine g_iloadN (pc := 23) K.1 d45_23 rfl ?_
    obtain ⟨q24, hq24, h⟩ := Option.bind_eq_some_iff.mp h
    refine g_callP (pc := 24) (vs := [.int i1, .int i2, .int q16.1]) K d45_24 (w186 hw) (w187 hw) (w188 hw) (w189 hw) hyC pd_5 rfl rfl (con_M_store l Z a0 hw n1 a (ctx_le K) hq24) rfl (Nat.le_of_ble_eq_true rfl) (Nat.le_of_ble_eq_true rfl) rfl rfl ?_
    refine g_iinc (pc := 27) (w := 1) (L' := [some (.ref 0), some (.int i1), some (.int (i2 + (1 : Int32))), some (.int q16.1)]) K.1 d45_27 rfl (by decide) rfl ?_
    refine g_goto (pc := 30) (pc' := 2) K.1 d45_30 (by decide) ?_
    exact g_less (hk2 _ _ _ h) (ls (ls (ls (ln l0))))
  refine g_icT (pc := 7) (pc' := 33) K.1 d45_7 (by decide) ((flt hc7).2.1) ?_
  cases h; exact g_return K.1 d45_33 (capC K)
def M_readSolution_l2 (NF : Nat)  : Nat → Int32 → Int32 → St → Option (St)
  | 0 => fun _ _ _ => none
  | n + 1 => fun i1 i2 σ => M_readSolution_w2 NF  (M_readSolution_l2 NF  n) i1 i2 σ
theorem ok_M_readSolution_l2 {X : Cx (St × Nat)} {Z : State} {a0 : Array Value} {l : Launch} {n1 : Nat} {a : Addr} {h0 : Heap} {NF : Nat} (K : KM_M_readSolution X Z a0 l n1 a h0) (hw : HW a0 Z) (n : Nat)  {r : St}  : ∀ (i1 : Int32) (i2 : Int32) (σ : St) (h : M_readSolution_l2 NF  n i1 i2 σ = some r), Go X (none, (r, 16)) 2 [some (.ref 0), some (.int i1), some (.int i2), none] [] (σ, 16) := by
  induction n with
  | zero => intro i1 i2 σ h; cases h
  | succ n ih => intro i1 i2 σ h; exact ok_M_readSolution_w2 (NF := NF) K hw  ih h
def M_readSolution (NF : Nat) (σ : St) (v1 : Int32) : Option (St) :=
  M_readSolution_l2 NF NF v1 (0 : Int32) σ
theorem ok_M_readSolution {X : Cx (St × Nat)} {Z : State} {a0 : Array Value} {l : Launch} {n1 : Nat} {a : Addr} {h0 : Heap} {NF : Nat} (K : KM_M_readSolution X Z a0 l n1 a h0) (hw : HW a0 Z) {σ : St} {v1 : Int32} {r : St} (h : M_readSolution NF σ v1 = some r) : Go X (none, (r, 16)) 0 [some (.ref 0), some (.int v1), none, none] [] (σ, 16) := by
  unfold M_readSolution at h
  refine g_iconst (pc := 0) (v := 0) K.1 d45_0 (by decide) ?_
  refine g_istoreN (pc := 1) (L' := [some (.ref 0), some (.int v1), some (.int (0 : Int32)), none]) K.1 d45_1 (blt rfl) rfl ?_
  exact ok_M_readSolution_l2 K hw NF  _ _ _ h
theorem con_M_readSolution (l : Launch) (Z : State) (a0 : Array Value) (hw : HW a0 Z) (n1 : Nat) (a : Addr) (ha : n1 ≤ a) {NF : Nat} {σ : St} {v1 : Int32} {r : St} (h : M_readSolution NF σ v1 = some r) : Con l Z cC cFS cFA 16 n1 a ⟨cC, "readSolution", "(I)V"⟩ c45 4 none ⟨2, 0, 0, 30⟩ [.ref 0, .int v1] σ none r :=
  con_of_go pnC rfl (layW hw) lgood ha (fun X h1 K => ok_M_readSolution K hw h)
abbrev KM_M_convAt (X : Cx (St × Nat)) (Z : State) (a0 : Array Value) (l : Launch) (n1 : Nat) (a : Addr) (h0 : Heap) : Prop := CtxC X Z a0 cC cFS cFA 16 25 l n1 a h0 ce0 ⟨2, 0, 0, 28⟩ "convAt" c47 9 (some .int)
def M_convAt_w6 (NF : Nat) (k6 : Int32 → Int32 → Int32 → Int32 → Int32 → St → Option (Int32 × St)) (i1 : Int32) (i2 : Int32) (i3 : Int32) (i4 : Int32) (i5 : Int32) (σ : St) : Option (Int32 × St) :=
  (if i5 < (gI σ 121) then ((M_cyclicIndex σ (i3 - i5)).bind fun q20 => ((M_load q20.2 i1 i5).bind fun q29 => ((M_load q29.2 i2 q20.1).bind fun q38 => k6 i1 i2 i3 (i4 + (q29.1 * q38.1)) (i5 + (1 : Int32)) q38.2))) else (some (i4, σ)))
theorem ok_M_convAt_w6 {X : Cx (St × Nat)} {Z : State} {a0 : Array Value} {l : Launch} {n1 : Nat} {a : Addr} {h0 : Heap} {NF : Nat} (K : KM_M_convAt X Z a0 l n1 a h0) (hw : HW a0 Z) {k6 : Int32 → Int32 → Int32 → Int32 → Int32 → St → Option (Int32 × St)} {i1 : Int32} {i2 : Int32} {i3 : Int32} {i4 : Int32} {i5 : Int32} {σ : St} {r : Int32 × St} (hk6 : ∀ (i1 : Int32) (i2 : Int32) (i3 : Int32) (i4 : Int32) (i5 : Int32) (σ : St) (h : k6 i1 i2 i3 i4 i5 σ = some r), Go X (some (.int r.1), (r.2, 16)) 6 [some (.ref 0), some (.int i1), some (.int i2), some (.int i3), some (.int i4), some (.int i5), none, none, none] [] (σ, 16)) (h : M_convAt_w6 NF k6 i1 i2 i3 i4 i5 σ = some r) : Go X (some (.int r.1), (r.2, 16)) 6 [some (.ref 0), some (.int i1), some (.int i2), some (.int i3), some (.int i4), some (.int i5), none, none, none] [] (σ, 16) := by
  unfold M_convAt_w6 at h
  refine g_iload (pc := 6) K.1 d47_6 rfl ?_
  refine g_aloadN (pc := 8) K.1 d47_8 rfl ?_
  refine g_getI (pc := 9) K d47_9 (w54 hw) mf_n ?_
  rcases ifs h with ⟨hc12, h⟩ | ⟨hc12, h⟩
  · refine g_icF (pc := 12) K.1 d47_12 ((tlt hc12).2.1) ?_
    refine g_aloadN (pc := 15) K.1 d47_15 rfl ?_
    refine g_iloadN (pc := 16) K.1 d47_16 rfl ?_
    refine g_iload (pc := 17) K.1 d47_17 rfl ?_
    refine g_isub (pc := 19) K.1 d47_19 ?_
    obtain ⟨q20, hq20, h⟩ := Option.bind_eq_some_iff.mp h
    refine g_callP (pc := 20) (vs := [.int (i3 - i5)]) K d47_20 (w89 hw) (w90 hw) (w91 hw) (w92 hw) hyC pd_9 rfl rfl (con_M_cyclicIndex l Z a0 hw n1 a (ctx_le K) hq20) rfl (Nat.le_of_ble_eq_true rfl) (Nat.le_of_ble_eq_true rfl) rfl rfl ?_
    refine g_istore (pc := 23) (L' := [some (.ref 0), some (.int i1), some (.int i2), some (.int i3), some (.int i4), some (.int i5), some (.int q20.1), none, none]) K.1 d47_23 (blt rfl) rfl ?_
    refine g_aloadN (pc := 25) K.1 d47_25 rfl ?_
    refine g_iloadN (pc := 26) K.1 d47_26 rfl ?_
    refine g_iload (pc := 27) K.1 d47_27 rfl ?_
    obtain ⟨q29, hq29, h⟩ := Option.bind_eq_some_iff.mp h
    refine g_callP (pc := 29) (vs := [.int i1, .int i5]) K d47_29 (w97 hw) (w98 hw) (w99 hw) (w100 hw) hyC pd_0 rfl rfl (con_M_load l Z a0 hw n1 a (ctx_le K) hq29) rfl (Nat.le_of_ble_eq_true rfl) (Nat.le_of_ble_eq_true rfl) rfl rfl ?_
    refine g_istore (pc := 32) (L' := [some (.ref 0), some (.int i1), some (.int i2), some (.int i3), some (.int i4), some (.int i5), some (.int q20.1), some (.int q29.1), none]) K.1 d47_32 (blt rfl) rfl ?_
    refine g_aloadN (pc := 34) K.1 d47_34 rfl ?_
    refine g_iloadN (pc := 35) K.1 d47_35 rfl ?_
    refine g_iload (pc := 36) K.1 d47_36 rfl ?_
    obtain ⟨q38, hq38, h⟩ := Option.bind_eq_some_iff.mp h
    refine g_callP (pc := 38) (vs := [.int i2, .int q20.1]) K d47_38 (w97 hw) (w98 hw) (w99 hw) (w100 hw) hyC pd_0 rfl rfl (con_M_load l Z a0 hw n1 a (ctx_le K) hq38) rfl (Nat.le_of_ble_eq_true rfl) (Nat.le_of_ble_eq_true rfl) rfl rfl ?_
    refine g_istore (pc := 41) (L' := [some (.ref 0), some (.int i1), some (.int i2), some (.int i3), some (.int i4), some (.int i5), some (.int q20.1), some (.int q29.1), some (.int q38.1)]) K.1 d47_41 (blt rfl) rfl ?_
    refine g_iload (pc := 43) K.1 d47_43 rfl ?_
    refine g_iload (pc := 45) K.1 d47_45 rfl ?_
    refine g_iload (pc := 47) K.1 d47_47 rfl ?_
    refine g_imul (pc := 49) K.1 d47_49 ?_
    refine g_iadd (pc := 50) K.1 d47_50 ?_
    refine g_istore (pc := 51) (L' := [some (.ref 0), some (.int i1), some (.int i2), some (.int i3), some (.int (i4 + (q29.1 * q38.1))), some (.int i5), some (.int q20.1), some (.int q29.1), some (.int q38.1)]) K.1 d47_51 (blt rfl) rfl ?_
    refine g_iinc (pc := 53) (w := 1) (L' := [some (.ref 0), some (.int i1), some (.int i2), some (.int i3), some (.int (i4 + (q29.1 * q38.1))), some (.int (i5 + (1 : Int32))), some (.int q20.1), some (.int q29.1), some (.int q38.1)]) K.1 d47_53 rfl (by decide) rfl ?_
    refine g_goto (pc := 56) (pc' := 6) K.1 d47_56 (by decide) ?_
    exact g_less (hk6 _ _ _ _ _ _ h) (ls (ls (ls (ls (ls (ls (ln (ln (ln l0)))))))))
  refine g_icT (pc := 12) (pc' := 59) K.1 d47_12 (by decide) ((flt hc12).2.1) ?_
  refine g_iload (pc := 59) K.1 d47_59 rfl ?_
  cases h; exact g_ireturn K.1 d47_61 (capC K)
def M_convAt_l6 (NF : Nat)  : Nat → Int32 → Int32 → Int32 → Int32 → Int32 → St → Option (Int32 × St)
  | 0 => fun _ _ _ _ _ _ => none
  | n + 1 => fun i1 i2 i3 i4 i5 σ => M_convAt_w6 NF  (M_convAt_l6 NF  n) i1 i2 i3 i4 i5 σ
theorem ok_M_convAt_l6 {X : Cx (St × Nat)} {Z : State} {a0 : Array Value} {l : Launch} {n1 : Nat} {a : Addr} {h0 : Heap} {NF : Nat} (K : KM_M_convAt X Z a0 l n1 a h0) (hw : HW a0 Z) (n : Nat)  {r : Int32 × St}  : ∀ (i1 : Int32) (i2 : Int32) (i3 : Int32) (i4 : Int32) (i5 : Int32) (σ : St) (h : M_convAt_l6 NF  n i1 i2 i3 i4 i5 σ = some r), Go X (some (.int r.1), (r.2, 16)) 6 [some (.ref 0), some (.int i1), some (.int i2), some (.int i3), some (.int i4), some (.int i5), none, none, none] [] (σ, 16) := by
  induction n with
  | zero => intro i1 i2 i3 i4 i5 σ h; cases h
  | succ n ih => intro i1 i2 i3 i4 i5 σ h; exact ok_M_convAt_w6 (NF := NF) K hw  ih h
def M_convAt (NF : Nat) (σ : St) (v1 : Int32) (v2 : Int32) (v3 : Int32) : Option (Int32 × St) :=
  M_convAt_l6 NF NF v1 v2 v3 (0 : Int32) (0 : Int32) σ
theorem ok_M_convAt {X : Cx (St × Nat)} {Z : State} {a0 : Array Value} {l : Launch} {n1 : Nat} {a : Addr} {h0 : Heap} {NF : Nat} (K : KM_M_convAt X Z a0 l n1 a h0) (hw : HW a0 Z) {σ : St} {v1 : Int32} {v2 : Int32} {v3 : Int32} {r : Int32 × St} (h : M_convAt NF σ v1 v2 v3 = some r) : Go X (some (.int r.1), (r.2, 16)) 0 [some (.ref 0), some (.int v1), some (.int v2), some (.int v3), none, none, none, none, none] [] (σ, 16) := by
  unfold M_convAt at h
  refine g_iconst (pc := 0) (v := 0) K.1 d47_0 (by decide) ?_
  refine g_istore (pc := 1) (L' := [some (.ref 0), some (.int v1), some (.int v2), some (.int v3), some (.int (0 : Int32)), none, none, none, none]) K.1 d47_1 (blt rfl) rfl ?_
  refine g_iconst (pc := 3) (v := 0) K.1 d47_3 (by decide) ?_
  refine g_istore (pc := 4) (L' := [some (.ref 0), some (.int v1), some (.int v2), some (.int v3), some (.int (0 : Int32)), some (.int (0 : Int32)), none, none, none]) K.1 d47_4 (blt rfl) rfl ?_
  exact ok_M_convAt_l6 K hw NF  _ _ _ _ _ _ h
theorem con_M_convAt (l : Launch) (Z : State) (a0 : Array Value) (hw : HW a0 Z) (n1 : Nat) (a : Addr) (ha : n1 ≤ a) {NF : Nat} {σ : St} {v1 : Int32} {v2 : Int32} {v3 : Int32} {r : Int32 × St} (h : M_convAt NF σ v1 v2 v3 = some r) : Con l Z cC cFS cFA 16 n1 a ⟨cC, "convAt", "(III)I"⟩ c47 9 (some .int) ⟨2, 0, 0, 28⟩ [.ref 0, .int v1, .int v2, .int v3] σ (some (.int r.1)) r.2 :=
  con_of_go pnC rfl (layW hw) lgood ha (fun X h1 K => ok_M_convAt K hw h)
abbrev KM_M_isInverseOfDraft (X : Cx (St × Nat)) (Z : State) (a0 : Array Value) (l : Launch) (n1 : Nat) (a : Addr) (h0 : Heap) : Prop := CtxC X Z a0 cC cFS cFA 16 25 l n1 a h0 ce0 ⟨3, 0, 0, 48⟩ "isInverseOfDraft" c46 7 (some .boolean)
def M_isInverseOfDraft_w2 (NF : Nat) (k2 : Int32 → Int32 → Int32 → St → Option (Int32 × St)) (i1 : Int32) (i2 : Int32) (i3 : Int32) (σ : St) : Option (Int32 × St) :=
  (if i3 < (gI σ 121) then ((M_convAt NF σ (0 : Int32) i1 i3).bind fun q14 => ((M_mod q14.2 q14.1 i2).bind fun q23 => ((M_unitCoeff q23.2 i3).bind fun q30 => (if q23.1 = q30.1 then k2 i1 i2 (i3 + (1 : Int32)) q30.2 else (some ((0 : Int32), q30.2)))))) else (some ((1 : Int32), σ)))
theorem ok_M_isInverseOfDraft_w2 {X : Cx (St × Nat)} {Z : State} {a0 : Array Value} {l : Launch} {n1 : Nat} {a : Addr} {h0 : Heap} {NF : Nat} (K : KM_M_isInverseOfDraft X Z a0 l n1 a h0) (hw : HW a0 Z) {k2 : Int32 → Int32 → Int32 → St → Option (Int32 × St)} {i1 : Int32} {i2 : Int32} {i3 : Int32} {σ : St} {r : Int32 × St} (hk2 : ∀ (i1 : Int32) (i2 : Int32) (i3 : Int32) (σ : St) (h : k2 i1 i2 i3 σ = some r), Go X (some (.int r.1), (r.2, 16)) 2 [some (.ref 0), some (.int i1), some (.int i2), some (.int i3), none, none, none] [] (σ, 16)) (h : M_isInverseOfDraft_w2 NF k2 i1 i2 i3 σ = some r) : Go X (some (.int r.1), (r.2, 16)) 2 [some (.ref 0), some (.int i1), some (.int i2), some (.int i3), none, none, none] [] (σ, 16) := by
  unfold M_isInverseOfDraft_w2 at h
  refine g_iloadN (pc := 2) K.1 d46_2 rfl ?_
  refine g_aloadN (pc := 3) K.1 d46_3 rfl ?_
  refine g_getI (pc := 4) K d46_4 (w54 hw) mf_n ?_
  rcases ifs h with ⟨hc7, h⟩ | ⟨hc7, h⟩
  · refine g_icF (pc := 7) K.1 d46_7 ((tlt hc7).2.1) ?_
    refine g_aloadN (pc := 10) K.1 d46_10 rfl ?_
    refine g_iconst (pc := 11) (v := 0) K.1 d46_11 (by decide) ?_
    refine g_iloadN (pc := 12) K.1 d46_12 rfl ?_
    refine g_iloadN (pc := 13) K.1 d46_13 rfl ?_
    obtain ⟨q14, hq14, h⟩ := Option.bind_eq_some_iff.mp h
    refine g_callP (pc := 14) (vs := [.int (0 : Int32), .int i1, .int i3]) K d46_14 (w244 hw) (w245 hw) (w246 hw) (w247 hw) hyC pd_17 rfl rfl (con_M_convAt l Z a0 hw n1 a (ctx_le K) hq14) rfl (Nat.le_of_ble_eq_true rfl) (Nat.le_of_ble_eq_true rfl) rfl rfl ?_
    refine g_istore (pc := 17) (L' := [some (.ref 0), some (.int i1), some (.int i2), some (.int i3), some (.int q14.1), none, none]) K.1 d46_17 (blt rfl) rfl ?_
    refine g_aloadN (pc := 19) K.1 d46_19 rfl ?_
    refine g_iload (pc := 20) K.1 d46_20 rfl ?_
    refine g_iloadN (pc := 22) K.1 d46_22 rfl ?_
    obtain ⟨q23, hq23, h⟩ := Option.bind_eq_some_iff.mp h
    refine g_callP (pc := 23) (vs := [.int q14.1, .int i2]) K d46_23 (w93 hw) (w94 hw) (w95 hw) (w96 hw) hyC pd_0 rfl rfl (con_M_mod l Z a0 hw n1 a (ctx_le K) hq23) rfl (Nat.le_of_ble_eq_true rfl) (Nat.le_of_ble_eq_true rfl) rfl rfl ?_
    refine g_istore (pc := 26) (L' := [some (.ref 0), some (.int i1), some (.int i2), some (.int i3), some (.int q14.1), some (.int q23.1), none]) K.1 d46_26 (blt rfl) rfl ?_
    refine g_aloadN (pc := 28) K.1 d46_28 rfl ?_
    refine g_iloadN (pc := 29) K.1 d46_29 rfl ?_
    obtain ⟨q30, hq30, h⟩ := Option.bind_eq_some_iff.mp h
    refine g_callP (pc := 30) (vs := [.int i3]) K d46_30 (w109 hw) (w110 hw) (w111 hw) (w112 hw) hyC pd_9 rfl rfl (con_M_unitCoeff l Z a0 hw n1 a (ctx_le K) hq30) rfl (Nat.le_of_ble_eq_true rfl) (Nat.le_of_ble_eq_true rfl) rfl rfl ?_
    refine g_istore (pc := 33) (L' := [some (.ref 0), some (.int i1), some (.int i2), some (.int i3), some (.int q14.1), some (.int q23.1), some (.int q30.1)]) K.1 d46_33 (blt rfl) rfl ?_
    refine g_iload (pc := 35) K.1 d46_35 rfl ?_
    refine g_iload (pc := 37) K.1 d46_37 rfl ?_
    rcases ifs h with ⟨hc39, h⟩ | ⟨hc39, h⟩
    · refine g_icT (pc := 39) (pc' := 44) K.1 d46_39 (by decide) ((teq hc39).1) ?_
      refine g_iinc (pc := 44) (w := 1) (L' := [some (.ref 0), some (.int i1), some (.int i2), some (.int (i3 + (1 : Int32))), some (.int q14.1), some (.int q23.1), some (.int q30.1)]) K.1 d46_44 rfl (by decide) rfl ?_
      refine g_goto (pc := 47) (pc' := 2) K.1 d46_47 (by decide) ?_
      exact g_less (hk2 _ _ _ _ h) (ls (ls (ls (ls (ln (ln (ln l0)))))))
    refine g_icF (pc := 39) K.1 d46_39 ((feq hc39).1) ?_
    refine g_iconst (pc := 42) (v := 0) K.1 d46_42 (by decide) ?_
    cases h; exact g_ireturnN (t := .boolean) K.1 rfl (Or.inl rfl) d46_43 rfl (capC K)
  refine g_icT (pc := 7) (pc' := 50) K.1 d46_7 (by decide) ((flt hc7).2.1) ?_
  refine g_iconst (pc := 50) (v := 1) K.1 d46_50 (by decide) ?_
  cases h; exact g_ireturnN (t := .boolean) K.1 rfl (Or.inl rfl) d46_51 rfl (capC K)
def M_isInverseOfDraft_l2 (NF : Nat)  : Nat → Int32 → Int32 → Int32 → St → Option (Int32 × St)
  | 0 => fun _ _ _ _ => none
  | n + 1 => fun i1 i2 i3 σ => M_isInverseOfDraft_w2 NF  (M_isInverseOfDraft_l2 NF  n) i1 i2 i3 σ
theorem ok_M_isInverseOfDraft_l2 {X : Cx (St × Nat)} {Z : State} {a0 : Array Value} {l : Launch} {n1 : Nat} {a : Addr} {h0 : Heap} {NF : Nat} (K : KM_M_isInverseOfDraft X Z a0 l n1 a h0) (hw : HW a0 Z) (n : Nat)  {r : Int32 × St}  : ∀ (i1 : Int32) (i2 : Int32) (i3 : Int32) (σ : St) (h : M_isInverseOfDraft_l2 NF  n i1 i2 i3 σ = some r), Go X (some (.int r.1), (r.2, 16)) 2 [some (.ref 0), some (.int i1), some (.int i2), some (.int i3), none, none, none] [] (σ, 16) := by
  induction n with
  | zero => intro i1 i2 i3 σ h; cases h
  | succ n ih => intro i1 i2 i3 σ h; exact ok_M_isInverseOfDraft_w2 (NF := NF) K hw  ih h
def M_isInverseOfDraft (NF : Nat) (σ : St) (v1 : Int32) (v2 : Int32) : Option (Int32 × St) :=
  M_isInverseOfDraft_l2 NF NF v1 v2 (0 : Int32) σ
theorem ok_M_isInverseOfDraft {X : Cx (St × Nat)} {Z : State} {a0 : Array Value} {l : Launch} {n1 : Nat} {a : Addr} {h0 : Heap} {NF : Nat} (K : KM_M_isInverseOfDraft X Z a0 l n1 a h0) (hw : HW a0 Z) {σ : St} {v1 : Int32} {v2 : Int32} {r : Int32 × St} (h : M_isInverseOfDraft NF σ v1 v2 = some r) : Go X (some (.int r.1), (r.2, 16)) 0 [some (.ref 0), some (.int v1), some (.int v2), none, none, none, none] [] (σ, 16) := by
  unfold M_isInverseOfDraft at h
  refine g_iconst (pc := 0) (v := 0) K.1 d46_0 (by decide) ?_
  refine g_istoreN (pc := 1) (L' := [some (.ref 0), some (.int v1), some (.int v2), some (.int (0 : Int32)), none, none, none]) K.1 d46_1 (blt rfl) rfl ?_
  exact ok_M_isInverseOfDraft_l2 K hw NF  _ _ _ _ h
theorem con_M_isInverseOfDraft (l : Launch) (Z : State) (a0 : Array Value) (hw : HW a0 Z) (n1 : Nat) (a : Addr) (ha : n1 ≤ a) {NF : Nat} {σ : St} {v1 : Int32} {v2 : Int32} {r : Int32 × St} (h : M_isInverseOfDraft NF σ v1 v2 = some r) : Con l Z cC cFS cFA 16 n1 a ⟨cC, "isInverseOfDraft", "(II)Z"⟩ c46 7 (some .boolean) ⟨3, 0, 0, 48⟩ [.ref 0, .int v1, .int v2] σ (some (.int r.1)) r.2 :=
  con_of_go pnC rfl (layW hw) lgood ha (fun X h1 K => ok_M_isInverseOfDraft K hw h)
abbrev KM_M_invertByElimination (X : Cx (St × Nat)) (Z : State) (a0 : Array Value) (l : Launch) (n1 : Nat) (a : Addr) (h0 : Heap) : Prop := CtxC X Z a0 cC cFS cFA 16 25 l n1 a h0 ce0 ⟨4, 0, 0, 68⟩ "invertByElimination" c30 4 (some .boolean)
def M_invertByElimination (NF : Nat) (σ : St) (v1 : Int32) (v2 : Int32) : Option (Int32 × St) :=
  ((M_buildSystem NF σ v1).bind fun q2 => ((M_eliminate NF q2 v1).bind fun q7 => (if q7.1 = 0 then (some ((0 : Int32), q7.2)) else ((M_readSolution NF q7.2 v2).bind fun q19 => ((M_isInverseOfDraft NF q19 v2 v1).bind fun q25 => (some ((nar .boolean q25.1), q25.2)))))))
theorem ok_M_invertByElimination {X : Cx (St × Nat)} {Z : State} {a0 : Array Value} {l : Launch} {n1 : Nat} {a : Addr} {h0 : Heap} {NF : Nat} (K : KM_M_invertByElimination X Z a0 l n1 a h0) (hw : HW a0 Z) {σ : St} {v1 : Int32} {v2 : Int32} {r : Int32 × St} (h : M_invertByElimination NF σ v1 v2 = some r) : Go X (some (.int r.1), (r.2, 16)) 0 [some (.ref 0), some (.int v1), some (.int v2), none] [] (σ, 16) := by
  unfold M_invertByElimination at h
  refine g_aloadN (pc := 0) K.1 d30_0 rfl ?_
  refine g_iloadN (pc := 1) K.1 d30_1 rfl ?_
  obtain ⟨q2, hq2, h⟩ := Option.bind_eq_some_iff.mp h
  refine g_callP (pc := 2) (vs := [.int v1]) K d30_2 (w81 hw) (w82 hw) (w83 hw) (w84 hw) hyC pd_13 rfl rfl (con_M_buildSystem l Z a0 hw n1 a (ctx_le K) hq2) rfl (Nat.le_of_ble_eq_true rfl) (Nat.le_of_ble_eq_true rfl) rfl rfl ?_
  refine g_aloadN (pc := 5) K.1 d30_5 rfl ?_
  refine g_iloadN (pc := 6) K.1 d30_6 rfl ?_
  obtain ⟨q7, hq7, h⟩ := Option.bind_eq_some_iff.mp h
  refine g_callP (pc := 7) (vs := [.int v1]) K d30_7 (w113 hw) (w114 hw) (w115 hw) (w116 hw) hyC pd_1 rfl rfl (con_M_eliminate l Z a0 hw n1 a (ctx_le K) hq7) rfl (Nat.le_of_ble_eq_true rfl) (Nat.le_of_ble_eq_true rfl) rfl rfl ?_
  refine g_istoreN (pc := 10) (L' := [some (.ref 0), some (.int v1), some (.int v2), some (.int q7.1)]) K.1 d30_10 (blt rfl) rfl ?_
  refine g_iloadN (pc := 11) K.1 d30_11 rfl ?_
  rcases ifs h with ⟨hc12, h⟩ | ⟨hc12, h⟩
  · refine g_ifF (pc := 12) K.1 d30_12 ((if0 _ _).trans (teq hc12).2) ?_
    refine g_iconst (pc := 15) (v := 0) K.1 d30_15 (by decide) ?_
    cases h; exact g_ireturnN (t := .boolean) K.1 rfl (Or.inl rfl) d30_16 rfl (capC K)
  refine g_ifT (pc := 12) (pc' := 17) K.1 d30_12 (by decide) ((if0 _ _).trans (feq hc12).2) ?_
  refine g_aloadN (pc := 17) K.1 d30_17 rfl ?_
  refine g_iloadN (pc := 18) K.1 d30_18 rfl ?_
  obtain ⟨q19, hq19, h⟩ := Option.bind_eq_some_iff.mp h
  refine g_callP (pc := 19) (vs := [.int v2]) K d30_19 (w232 hw) (w233 hw) (w234 hw) (w235 hw) hyC pd_13 rfl rfl (con_M_readSolution l Z a0 hw n1 a (ctx_le K) hq19) rfl (Nat.le_of_ble_eq_true rfl) (Nat.le_of_ble_eq_true rfl) rfl rfl ?_
  refine g_aloadN (pc := 22) K.1 d30_22 rfl ?_
  refine g_iloadN (pc := 23) K.1 d30_23 rfl ?_
  refine g_iloadN (pc := 24) K.1 d30_24 rfl ?_
  obtain ⟨q25, hq25, h⟩ := Option.bind_eq_some_iff.mp h
  refine g_callP (pc := 25) (vs := [.int v2, .int v1]) K d30_25 (w240 hw) (w241 hw) (w242 hw) (w243 hw) hyC pd_6 rfl rfl (con_M_isInverseOfDraft l Z a0 hw n1 a (ctx_le K) hq25) rfl (Nat.le_of_ble_eq_true rfl) (Nat.le_of_ble_eq_true rfl) rfl rfl ?_
  cases h; exact g_ireturnN (t := .boolean) K.1 rfl (Or.inl rfl) d30_28 rfl (capC K)
theorem con_M_invertByElimination (l : Launch) (Z : State) (a0 : Array Value) (hw : HW a0 Z) (n1 : Nat) (a : Addr) (ha : n1 ≤ a) {NF : Nat} {σ : St} {v1 : Int32} {v2 : Int32} {r : Int32 × St} (h : M_invertByElimination NF σ v1 v2 = some r) : Con l Z cC cFS cFA 16 n1 a ⟨cC, "invertByElimination", "(II)Z"⟩ c30 4 (some .boolean) ⟨4, 0, 0, 68⟩ [.ref 0, .int v1, .int v2] σ (some (.int r.1)) r.2 :=
  con_of_go pnC rfl (layW hw) lgood ha (fun X h1 K => ok_M_invertByElimination K hw h)
abbrev KM_M_invertModThree (X : Cx (St × Nat)) (Z : State) (a0 : Array Value) (l : Launch) (n1 : Nat) (a : Addr) (h0 : Heap) : Prop := CtxC X Z a0 cC cFS cFA 16 25 l n1 a h0 ce0 ⟨5, 0, 0, 83⟩ "invertModThree" c29 1 (some .boolean)
def M_invertModThree (NF : Nat) (σ : St) : Option (Int32 × St) :=
  ((M_invertByElimination NF σ (3 : Int32) (gI σ 142)).bind fun q6 => (some ((nar .boolean q6.1), q6.2)))
theorem ok_M_invertModThree {X : Cx (St × Nat)} {Z : State} {a0 : Array Value} {l : Launch} {n1 : Nat} {a : Addr} {h0 : Heap} {NF : Nat} (K : KM_M_invertModThree X Z a0 l n1 a h0) (hw : HW a0 Z) {σ : St} {r : Int32 × St} (h : M_invertModThree NF σ = some r) : Go X (some (.int r.1), (r.2, 16)) 0 [some (.ref 0)] [] (σ, 16) := by
  unfold M_invertModThree at h
  refine g_aloadN (pc := 0) K.1 d29_0 rfl ?_
  refine g_iconst (pc := 1) (v := 3) K.1 d29_1 (by decide) ?_
  refine g_aloadN (pc := 2) K.1 d29_2 rfl ?_
  refine g_getI (pc := 3) K d29_3 (w42 hw) mf_selInvP ?_
  obtain ⟨q6, hq6, h⟩ := Option.bind_eq_some_iff.mp h
  refine g_callP (pc := 6) (vs := [.int (3 : Int32), .int (gI σ 142)]) K d29_6 (w77 hw) (w78 hw) (w79 hw) (w80 hw) hyC pd_6 rfl rfl (con_M_invertByElimination l Z a0 hw n1 a (ctx_le K) hq6) rfl (Nat.le_of_ble_eq_true rfl) (Nat.le_of_ble_eq_true rfl) rfl rfl ?_
  cases h; exact g_ireturnN (t := .boolean) K.1 rfl (Or.inl rfl) d29_9 rfl (capC K)
theorem con_M_invertModThree (l : Launch) (Z : State) (a0 : Array Value) (hw : HW a0 Z) (n1 : Nat) (a : Addr) (ha : n1 ≤ a) {NF : Nat} {σ : St} {r : Int32 × St} (h : M_invertModThree NF σ = some r) : Con l Z cC cFS cFA 16 n1 a ⟨cC, "invertModThree", "()Z"⟩ c29 1 (some .boolean) ⟨5, 0, 0, 83⟩ [.ref 0] σ (some (.int r.1)) r.2 :=
  con_of_go pnC rfl (layW hw) lgood ha (fun X h1 K => ok_M_invertModThree K hw h)
abbrev KM_M_computeCorrection (X : Cx (St × Nat)) (Z : State) (a0 : Array Value) (l : Launch) (n1 : Nat) (a : Addr) (h0 : Heap) : Prop := CtxC X Z a0 cC cFS cFA 16 25 l n1 a h0 ce0 ⟨3, 0, 0, 48⟩ "computeCorrection" c50 5 none
def M_computeCorrection_w2 (NF : Nat) (k2 : Int32 → St → Option (St)) (i1 : Int32) (σ : St) : Option (St) :=
  (if i1 < (gI σ 121) then ((M_convAt NF σ (0 : Int32) (gI σ 143) i1).bind fun q17 => ((M_unitCoeff q17.2 i1).bind fun q24 => ((M_mod q24.2 (((2 : Int32) * q24.1) - q17.1) (gI q24.2 122)).bind fun q37 => ((M_store q37.2 (gI q37.2 144) i1 q37.1).bind fun q50 => k2 (i1 + (1 : Int32)) q50)))) else (some σ))
theorem ok_M_computeCorrection_w2 {X : Cx (St × Nat)} {Z : State} {a0 : Array Value} {l : Launch} {n1 : Nat} {a : Addr} {h0 : Heap} {NF : Nat} (K : KM_M_computeCorrection X Z a0 l n1 a h0) (hw : HW a0 Z) {k2 : Int32 → St → Option (St)} {i1 : Int32} {σ : St} {r : St} (hk2 : ∀ (i1 : Int32) (σ : St) (h : k2 i1 σ = some r), Go X (none, (r, 16)) 2 [some (.ref 0), some (.int i1), none, none, none] [] (σ, 16)) (h : M_computeCorrection_w2 NF k2 i1 σ = some r) : Go X (none, (r, 16)) 2 [some (.ref 0), some (.int i1), none, none, none] [] (σ, 16) := by
  unfold M_computeCorrection_w2 at h
  refine g_iloadN (pc := 2) K.1 d50_2 rfl ?_
  refine g_aloadN (pc := 3) K.1 d50_3 rfl ?_
  refine g_getI (pc := 4) K d50_4 (w54 hw) mf_n ?_
  rcases ifs h with ⟨hc7, h⟩ | ⟨hc7, h⟩
  · refine g_icF (pc := 7) K.1 d50_7 ((tlt hc7).2.1) ?_
    refine g_aloadN (pc := 10) K.1 d50_10 rfl ?_
    refine g_iconst (pc := 11) (v := 0) K.1 d50_11 (by decide) ?_
    refine g_aloadN (pc := 12) K.1 d50_12 rfl ?_
    refine g_getI (pc := 13) K d50_13 (w44 hw) mf_selInvQ ?_
    refine g_iloadN (pc := 16) K.1 d50_16 rfl ?_
    obtain ⟨q17, hq17, h⟩ := Option.bind_eq_some_iff.mp h
    refine g_callP (pc := 17) (vs := [.int (0 : Int32), .int (gI σ 143), .int i1]) K d50_17 (w244 hw) (w245 hw) (w246 hw) (w247 hw) hyC pd_17 rfl rfl (con_M_convAt l Z a0 hw n1 a (ctx_le K) hq17) rfl (Nat.le_of_ble_eq_true rfl) (Nat.le_of_ble_eq_true rfl) rfl rfl ?_
    refine g_istoreN (pc := 20) (L' := [some (.ref 0), some (.int i1), some (.int q17.1), none, none]) K.1 d50_20 (blt rfl) rfl ?_
    refine g_iconst (pc := 21) (v := 2) K.1 d50_21 (by decide) ?_
    refine g_aloadN (pc := 22) K.1 d50_22 rfl ?_
    refine g_iloadN (pc := 23) K.1 d50_23 rfl ?_
    obtain ⟨q24, hq24, h⟩ := Option.bind_eq_some_iff.mp h
    refine g_callP (pc := 24) (vs := [.int i1]) K d50_24 (w109 hw) (w110 hw) (w111 hw) (w112 hw) hyC pd_9 rfl rfl (con_M_unitCoeff l Z a0 hw n1 a (ctx_le K) hq24) rfl (Nat.le_of_ble_eq_true rfl) (Nat.le_of_ble_eq_true rfl) rfl rfl ?_
    refine g_imul (pc := 27) K.1 d50_27 ?_
    refine g_istoreN (pc := 28) (L' := [some (.ref 0), some (.int i1), some (.int q17.1), some (.int ((2 : Int32) * q24.1)), none]) K.1 d50_28 (blt rfl) rfl ?_
    refine g_aloadN (pc := 29) K.1 d50_29 rfl ?_
    refine g_iloadN (pc := 30) K.1 d50_30 rfl ?_
    refine g_iloadN (pc := 31) K.1 d50_31 rfl ?_
    refine g_isub (pc := 32) K.1 d50_32 ?_
    refine g_aloadN (pc := 33) K.1 d50_33 rfl ?_
    refine g_getI (pc := 34) K d50_34 (w60 hw) mf_q ?_
    obtain ⟨q37, hq37, h⟩ := Option.bind_eq_some_iff.mp h
    refine g_callP (pc := 37) (vs := [.int (((2 : Int32) * q24.1) - q17.1), .int (gI q24.2 122)]) K d50_37 (w93 hw) (w94 hw) (w95 hw) (w96 hw) hyC pd_0 rfl rfl (con_M_mod l Z a0 hw n1 a (ctx_le K) hq37) rfl (Nat.le_of_ble_eq_true rfl) (Nat.le_of_ble_eq_true rfl) rfl rfl ?_
    refine g_istore (pc := 40) (L' := [some (.ref 0), some (.int i1), some (.int q17.1), some (.int ((2 : Int32) * q24.1)), some (.int q37.1)]) K.1 d50_40 (blt rfl) rfl ?_
    refine g_aloadN (pc := 42) K.1 d50_42 rfl ?_
    refine g_aloadN (pc := 43) K.1 d50_43 rfl ?_
    refine g_getI (pc := 44) K d50_44 (w46 hw) mf_selLift ?_
    refine g_iloadN (pc := 47) K.1 d50_47 rfl ?_
    refine g_iload (pc := 48) K.1 d50_48 rfl ?_
    obtain ⟨q50, hq50, h⟩ := Option.bind_eq_some_iff.mp h
    refine g_callP (pc := 50) (vs := [.int (gI q37.2 144), .int i1, .int q37.1]) K d50_50 (w186 hw) (w187 hw) (w188 hw) (w189 hw) hyC pd_5 rfl rfl (con_M_store l Z a0 hw n1 a (ctx_le K) hq50) rfl (Nat.le_of_ble_eq_true rfl) (Nat.le_of_ble_eq_true rfl) rfl rfl ?_
    refine g_iinc (pc := 53) (w := 1) (L' := [some (.ref 0), some (.int (i1 + (1 : Int32))), some (.int q17.1), some (.int ((2 : Int32) * q24.1)), some (.int q37.1)]) K.1 d50_53 rfl (by decide) rfl ?_
    refine g_goto (pc := 56) (pc' := 2) K.1 d50_56 (by decide) ?_
    exact g_less (hk2 _ _ h) (ls (ls (ln (ln (ln l0)))))
  refine g_icT (pc := 7) (pc' := 59) K.1 d50_7 (by decide) ((flt hc7).2.1) ?_
  cases h; exact g_return K.1 d50_59 (capC K)
def M_computeCorrection_l2 (NF : Nat)  : Nat → Int32 → St → Option (St)
  | 0 => fun _ _ => none
  | n + 1 => fun i1 σ => M_computeCorrection_w2 NF  (M_computeCorrection_l2 NF  n) i1 σ
theorem ok_M_computeCorrection_l2 {X : Cx (St × Nat)} {Z : State} {a0 : Array Value} {l : Launch} {n1 : Nat} {a : Addr} {h0 : Heap} {NF : Nat} (K : KM_M_computeCorrection X Z a0 l n1 a h0) (hw : HW a0 Z) (n : Nat)  {r : St}  : ∀ (i1 : Int32) (σ : St) (h : M_computeCorrection_l2 NF  n i1 σ = some r), Go X (none, (r, 16)) 2 [some (.ref 0), some (.int i1), none, none, none] [] (σ, 16) := by
  induction n with
  | zero => intro i1 σ h; cases h
  | succ n ih => intro i1 σ h; exact ok_M_computeCorrection_w2 (NF := NF) K hw  ih h
def M_computeCorrection (NF : Nat) (σ : St) : Option (St) :=
  M_computeCorrection_l2 NF NF (0 : Int32) σ
theorem ok_M_computeCorrection {X : Cx (St × Nat)} {Z : State} {a0 : Array Value} {l : Launch} {n1 : Nat} {a : Addr} {h0 : Heap} {NF : Nat} (K : KM_M_computeCorrection X Z a0 l n1 a h0) (hw : HW a0 Z) {σ : St} {r : St} (h : M_computeCorrection NF σ = some r) : Go X (none, (r, 16)) 0 [some (.ref 0), none, none, none, none] [] (σ, 16) := by
  unfold M_computeCorrection at h
  refine g_iconst (pc := 0) (v := 0) K.1 d50_0 (by decide) ?_
  refine g_istoreN (pc := 1) (L' := [some (.ref 0), some (.int (0 : Int32)), none, none, none]) K.1 d50_1 (blt rfl) rfl ?_
  exact ok_M_computeCorrection_l2 K hw NF  _ _ h
theorem con_M_computeCorrection (l : Launch) (Z : State) (a0 : Array Value) (hw : HW a0 Z) (n1 : Nat) (a : Addr) (ha : n1 ≤ a) {NF : Nat} {σ : St} {r : St} (h : M_computeCorrection NF σ = some r) : Con l Z cC cFS cFA 16 n1 a ⟨cC, "computeCorrection", "()V"⟩ c50 5 none ⟨3, 0, 0, 48⟩ [.ref 0] σ none r :=
  con_of_go pnC rfl (layW hw) lgood ha (fun X h1 K => ok_M_computeCorrection K hw h)
abbrev KM_M_applyCorrection (X : Cx (St × Nat)) (Z : State) (a0 : Array Value) (l : Launch) (n1 : Nat) (a : Addr) (h0 : Heap) : Prop := CtxC X Z a0 cC cFS cFA 16 25 l n1 a h0 ce0 ⟨3, 0, 0, 48⟩ "applyCorrection" c51 4 none
def M_applyCorrection_w2 (NF : Nat) (k2 : Int32 → St → Option (St)) (i1 : Int32) (σ : St) : Option (St) :=
  (if i1 < (gI σ 121) then ((M_convAt NF σ (gI σ 143) (gI σ 144) i1).bind fun q20 => ((M_mod q20.2 q20.1 (gI q20.2 122)).bind fun q30 => ((M_store q30.2 (gI q30.2 145) i1 q30.1).bind fun q41 => k2 (i1 + (1 : Int32)) q41))) else (some σ))
theorem ok_M_applyCorrection_w2 {X : Cx (St × Nat)} {Z : State} {a0 : Array Value} {l : Launch} {n1 : Nat} {a : Addr} {h0 : Heap} {NF : Nat} (K : KM_M_applyCorrection X Z a0 l n1 a h0) (hw : HW a0 Z) {k2 : Int32 → St → Option (St)} {i1 : Int32} {σ : St} {r : St} (hk2 : ∀ (i1 : Int32) (σ : St) (h : k2 i1 σ = some r), Go X (none, (r, 16)) 2 [some (.ref 0), some (.int i1), none, none] [] (σ, 16)) (h : M_applyCorrection_w2 NF k2 i1 σ = some r) : Go X (none, (r, 16)) 2 [some (.ref 0), some (.int i1), none, none] [] (σ, 16) := by
  unfold M_applyCorrection_w2 at h
  refine g_iloadN (pc := 2) K.1 d51_2 rfl ?_
  refine g_aloadN (pc := 3) K.1 d51_3 rfl ?_
  refine g_getI (pc := 4) K d51_4 (w54 hw) mf_n ?_
  rcases ifs h with ⟨hc7, h⟩ | ⟨hc7, h⟩
  · refine g_icF (pc := 7) K.1 d51_7 ((tlt hc7).2.1) ?_
    refine g_aloadN (pc := 10) K.1 d51_10 rfl ?_
    refine g_aloadN (pc := 11) K.1 d51_11 rfl ?_
    refine g_getI (pc := 12) K d51_12 (w44 hw) mf_selInvQ ?_
    refine g_aloadN (pc := 15) K.1 d51_15 rfl ?_
    refine g_getI (pc := 16) K d51_16 (w46 hw) mf_selLift ?_
    refine g_iloadN (pc := 19) K.1 d51_19 rfl ?_
    obtain ⟨q20, hq20, h⟩ := Option.bind_eq_some_iff.mp h
    refine g_callP (pc := 20) (vs := [.int (gI σ 143), .int (gI σ 144), .int i1]) K d51_20 (w244 hw) (w245 hw) (w246 hw) (w247 hw) hyC pd_17 rfl rfl (con_M_convAt l Z a0 hw n1 a (ctx_le K) hq20) rfl (Nat.le_of_ble_eq_true rfl) (Nat.le_of_ble_eq_true rfl) rfl rfl ?_
    refine g_istoreN (pc := 23) (L' := [some (.ref 0), some (.int i1), some (.int q20.1), none]) K.1 d51_23 (blt rfl) rfl ?_
    refine g_aloadN (pc := 24) K.1 d51_24 rfl ?_
    refine g_iloadN (pc := 25) K.1 d51_25 rfl ?_
    refine g_aloadN (pc := 26) K.1 d51_26 rfl ?_
    refine g_getI (pc := 27) K d51_27 (w60 hw) mf_q ?_
    obtain ⟨q30, hq30, h⟩ := Option.bind_eq_some_iff.mp h
    refine g_callP (pc := 30) (vs := [.int q20.1, .int (gI q20.2 122)]) K d51_30 (w93 hw) (w94 hw) (w95 hw) (w96 hw) hyC pd_0 rfl rfl (con_M_mod l Z a0 hw n1 a (ctx_le K) hq30) rfl (Nat.le_of_ble_eq_true rfl) (Nat.le_of_ble_eq_true rfl) rfl rfl ?_
    refine g_istoreN (pc := 33) (L' := [some (.ref 0), some (.int i1), some (.int q20.1), some (.int q30.1)]) K.1 d51_33 (blt rfl) rfl ?_
    refine g_aloadN (pc := 34) K.1 d51_34 rfl ?_
    refine g_aloadN (pc := 35) K.1 d51_35 rfl ?_
    refine g_getI (pc := 36) K d51_36 (w48 hw) mf_selLift2 ?_
    refine g_iloadN (pc := 39) K.1 d51_39 rfl ?_
    refine g_iloadN (pc := 40) K.1 d51_40 rfl ?_
    obtain ⟨q41, hq41, h⟩ := Option.bind_eq_some_iff.mp h
    refine g_callP (pc := 41) (vs := [.int (gI q30.2 145), .int i1, .int q30.1]) K d51_41 (w186 hw) (w187 hw) (w188 hw) (w189 hw) hyC pd_5 rfl rfl (con_M_store l Z a0 hw n1 a (ctx_le K) hq41) rfl (Nat.le_of_ble_eq_true rfl) (Nat.le_of_ble_eq_true rfl) rfl rfl ?_
    refine g_iinc (pc := 44) (w := 1) (L' := [some (.ref 0), some (.int (i1 + (1 : Int32))), some (.int q20.1), some (.int q30.1)]) K.1 d51_44 rfl (by decide) rfl ?_
    refine g_goto (pc := 47) (pc' := 2) K.1 d51_47 (by decide) ?_
    exact g_less (hk2 _ _ h) (ls (ls (ln (ln l0))))
  refine g_icT (pc := 7) (pc' := 50) K.1 d51_7 (by decide) ((flt hc7).2.1) ?_
  cases h; exact g_return K.1 d51_50 (capC K)
def M_applyCorrection_l2 (NF : Nat)  : Nat → Int32 → St → Option (St)
  | 0 => fun _ _ => none
  | n + 1 => fun i1 σ => M_applyCorrection_w2 NF  (M_applyCorrection_l2 NF  n) i1 σ
theorem ok_M_applyCorrection_l2 {X : Cx (St × Nat)} {Z : State} {a0 : Array Value} {l : Launch} {n1 : Nat} {a : Addr} {h0 : Heap} {NF : Nat} (K : KM_M_applyCorrection X Z a0 l n1 a h0) (hw : HW a0 Z) (n : Nat)  {r : St}  : ∀ (i1 : Int32) (σ : St) (h : M_applyCorrection_l2 NF  n i1 σ = some r), Go X (none, (r, 16)) 2 [some (.ref 0), some (.int i1), none, none] [] (σ, 16) := by
  induction n with
  | zero => intro i1 σ h; cases h
  | succ n ih => intro i1 σ h; exact ok_M_applyCorrection_w2 (NF := NF) K hw  ih h
def M_applyCorrection (NF : Nat) (σ : St) : Option (St) :=
  M_applyCorrection_l2 NF NF (0 : Int32) σ
theorem ok_M_applyCorrection {X : Cx (St × Nat)} {Z : State} {a0 : Array Value} {l : Launch} {n1 : Nat} {a : Addr} {h0 : Heap} {NF : Nat} (K : KM_M_applyCorrection X Z a0 l n1 a h0) (hw : HW a0 Z) {σ : St} {r : St} (h : M_applyCorrection NF σ = some r) : Go X (none, (r, 16)) 0 [some (.ref 0), none, none, none] [] (σ, 16) := by
  unfold M_applyCorrection at h
  refine g_iconst (pc := 0) (v := 0) K.1 d51_0 (by decide) ?_
  refine g_istoreN (pc := 1) (L' := [some (.ref 0), some (.int (0 : Int32)), none, none]) K.1 d51_1 (blt rfl) rfl ?_
  exact ok_M_applyCorrection_l2 K hw NF  _ _ h
theorem con_M_applyCorrection (l : Launch) (Z : State) (a0 : Array Value) (hw : HW a0 Z) (n1 : Nat) (a : Addr) (ha : n1 ≤ a) {NF : Nat} {σ : St} {r : St} (h : M_applyCorrection NF σ = some r) : Con l Z cC cFS cFA 16 n1 a ⟨cC, "applyCorrection", "()V"⟩ c51 4 none ⟨3, 0, 0, 48⟩ [.ref 0] σ none r :=
  con_of_go pnC rfl (layW hw) lgood ha (fun X h1 K => ok_M_applyCorrection K hw h)
abbrev KM_M_copyPoly (X : Cx (St × Nat)) (Z : State) (a0 : Array Value) (l : Launch) (n1 : Nat) (a : Addr) (h0 : Heap) : Prop := CtxC X Z a0 cC cFS cFA 16 25 l n1 a h0 ce0 ⟨2, 0, 0, 30⟩ "copyPoly" c52 5 none
def M_copyPoly_w2 (NF : Nat) (k2 : Int32 → Int32 → Int32 → St → Option (St)) (i1 : Int32) (i2 : Int32) (i3 : Int32) (σ : St) : Option (St) :=
  (if i3 < (gI σ 121) then ((M_load σ i1 i3).bind fun q13 => ((M_store q13.2 i2 i3 q13.1).bind fun q23 => k2 i1 i2 (i3 + (1 : Int32)) q23)) else (some σ))
theorem ok_M_copyPoly_w2 {X : Cx (St × Nat)} {Z : State} {a0 : Array Value} {l : Launch} {n1 : Nat} {a : Addr} {h0 : Heap} {NF : Nat} (K : KM_M_copyPoly X Z a0 l n1 a h0) (hw : HW a0 Z) {k2 : Int32 → Int32 → Int32 → St → Option (St)} {i1 : Int32} {i2 : Int32} {i3 : Int32} {σ : St} {r : St} (hk2 : ∀ (i1 : Int32) (i2 : Int32) (i3 : Int32) (σ : St) (h : k2 i1 i2 i3 σ = some r), Go X (none, (r, 16)) 2 [some (.ref 0), some (.int i1), some (.int i2), some (.int i3), none] [] (σ, 16)) (h : M_copyPoly_w2 NF k2 i1 i2 i3 σ = some r) : Go X (none, (r, 16)) 2 [some (.ref 0), some (.int i1), some (.int i2), some (.int i3), none] [] (σ, 16) := by
  unfold M_copyPoly_w2 at h
  refine g_iloadN (pc := 2) K.1 d52_2 rfl ?_
  refine g_aloadN (pc := 3) K.1 d52_3 rfl ?_
  refine g_getI (pc := 4) K d52_4 (w54 hw) mf_n ?_
  rcases ifs h with ⟨hc7, h⟩ | ⟨hc7, h⟩
  · refine g_icF (pc := 7) K.1 d52_7 ((tlt hc7).2.1) ?_
    refine g_aloadN (pc := 10) K.1 d52_10 rfl ?_
    refine g_iloadN (pc := 11) K.1 d52_11 rfl ?_
    refine g_iloadN (pc := 12) K.1 d52_12 rfl ?_
    obtain ⟨q13, hq13, h⟩ := Option.bind_eq_some_iff.mp h
    refine g_callP (pc := 13) (vs := [.int i1, .int i3]) K d52_13 (w97 hw) (w98 hw) (w99 hw) (w100 hw) hyC pd_0 rfl rfl (con_M_load l Z a0 hw n1 a (ctx_le K) hq13) rfl (Nat.le_of_ble_eq_true rfl) (Nat.le_of_ble_eq_true rfl) rfl rfl ?_
    refine g_istore (pc := 16) (L' := [some (.ref 0), some (.int i1), some (.int i2), some (.int i3), some (.int q13.1)]) K.1 d52_16 (blt rfl) rfl ?_
    refine g_aloadN (pc := 18) K.1 d52_18 rfl ?_
    refine g_iloadN (pc := 19) K.1 d52_19 rfl ?_
    refine g_iloadN (pc := 20) K.1 d52_20 rfl ?_
    refine g_iload (pc := 21) K.1 d52_21 rfl ?_
    obtain ⟨q23, hq23, h⟩ := Option.bind_eq_some_iff.mp h
    refine g_callP (pc := 23) (vs := [.int i2, .int i3, .int q13.1]) K d52_23 (w186 hw) (w187 hw) (w188 hw) (w189 hw) hyC pd_5 rfl rfl (con_M_store l Z a0 hw n1 a (ctx_le K) hq23) rfl (Nat.le_of_ble_eq_true rfl) (Nat.le_of_ble_eq_true rfl) rfl rfl ?_
    refine g_iinc (pc := 26) (w := 1) (L' := [some (.ref 0), some (.int i1), some (.int i2), some (.int (i3 + (1 : Int32))), some (.int q13.1)]) K.1 d52_26 rfl (by decide) rfl ?_
    refine g_goto (pc := 29) (pc' := 2) K.1 d52_29 (by decide) ?_
    exact g_less (hk2 _ _ _ _ h) (ls (ls (ls (ls (ln l0)))))
  refine g_icT (pc := 7) (pc' := 32) K.1 d52_7 (by decide) ((flt hc7).2.1) ?_
  cases h; exact g_return K.1 d52_32 (capC K)
def M_copyPoly_l2 (NF : Nat)  : Nat → Int32 → Int32 → Int32 → St → Option (St)
  | 0 => fun _ _ _ _ => none
  | n + 1 => fun i1 i2 i3 σ => M_copyPoly_w2 NF  (M_copyPoly_l2 NF  n) i1 i2 i3 σ
theorem ok_M_copyPoly_l2 {X : Cx (St × Nat)} {Z : State} {a0 : Array Value} {l : Launch} {n1 : Nat} {a : Addr} {h0 : Heap} {NF : Nat} (K : KM_M_copyPoly X Z a0 l n1 a h0) (hw : HW a0 Z) (n : Nat)  {r : St}  : ∀ (i1 : Int32) (i2 : Int32) (i3 : Int32) (σ : St) (h : M_copyPoly_l2 NF  n i1 i2 i3 σ = some r), Go X (none, (r, 16)) 2 [some (.ref 0), some (.int i1), some (.int i2), some (.int i3), none] [] (σ, 16) := by
  induction n with
  | zero => intro i1 i2 i3 σ h; cases h
  | succ n ih => intro i1 i2 i3 σ h; exact ok_M_copyPoly_w2 (NF := NF) K hw  ih h
def M_copyPoly (NF : Nat) (σ : St) (v1 : Int32) (v2 : Int32) : Option (St) :=
  M_copyPoly_l2 NF NF v1 v2 (0 : Int32) σ
theorem ok_M_copyPoly {X : Cx (St × Nat)} {Z : State} {a0 : Array Value} {l : Launch} {n1 : Nat} {a : Addr} {h0 : Heap} {NF : Nat} (K : KM_M_copyPoly X Z a0 l n1 a h0) (hw : HW a0 Z) {σ : St} {v1 : Int32} {v2 : Int32} {r : St} (h : M_copyPoly NF σ v1 v2 = some r) : Go X (none, (r, 16)) 0 [some (.ref 0), some (.int v1), some (.int v2), none, none] [] (σ, 16) := by
  unfold M_copyPoly at h
  refine g_iconst (pc := 0) (v := 0) K.1 d52_0 (by decide) ?_
  refine g_istoreN (pc := 1) (L' := [some (.ref 0), some (.int v1), some (.int v2), some (.int (0 : Int32)), none]) K.1 d52_1 (blt rfl) rfl ?_
  exact ok_M_copyPoly_l2 K hw NF  _ _ _ _ h
theorem con_M_copyPoly (l : Launch) (Z : State) (a0 : Array Value) (hw : HW a0 Z) (n1 : Nat) (a : Addr) (ha : n1 ≤ a) {NF : Nat} {σ : St} {v1 : Int32} {v2 : Int32} {r : St} (h : M_copyPoly NF σ v1 v2 = some r) : Con l Z cC cFS cFA 16 n1 a ⟨cC, "copyPoly", "(II)V"⟩ c52 5 none ⟨2, 0, 0, 30⟩ [.ref 0, .int v1, .int v2] σ none r :=
  con_of_go pnC rfl (layW hw) lgood ha (fun X h1 K => ok_M_copyPoly K hw h)
abbrev KM_M_newtonStep (X : Cx (St × Nat)) (Z : State) (a0 : Array Value) (l : Launch) (n1 : Nat) (a : Addr) (h0 : Heap) : Prop := CtxC X Z a0 cC cFS cFA 16 25 l n1 a h0 ce0 ⟨4, 0, 0, 64⟩ "newtonStep" c49 1 none
def M_newtonStep (NF : Nat) (σ : St) : Option (St) :=
  ((M_computeCorrection NF σ).bind fun q1 => ((M_applyCorrection NF q1).bind fun q5 => ((M_copyPoly NF q5 (gI q5 145) (gI q5 143)).bind fun q17 => (some q17))))
theorem ok_M_newtonStep {X : Cx (St × Nat)} {Z : State} {a0 : Array Value} {l : Launch} {n1 : Nat} {a : Addr} {h0 : Heap} {NF : Nat} (K : KM_M_newtonStep X Z a0 l n1 a h0) (hw : HW a0 Z) {σ : St} {r : St} (h : M_newtonStep NF σ = some r) : Go X (none, (r, 16)) 0 [some (.ref 0)] [] (σ, 16) := by
  unfold M_newtonStep at h
  refine g_aloadN (pc := 0) K.1 d49_0 rfl ?_
  obtain ⟨q1, hq1, h⟩ := Option.bind_eq_some_iff.mp h
  refine g_callP (pc := 1) (vs := []) K d49_1 (w260 hw) (w261 hw) (w262 hw) (w263 hw) hyC pd_14 rfl rfl (con_M_computeCorrection l Z a0 hw n1 a (ctx_le K) hq1) rfl (Nat.le_of_ble_eq_true rfl) (Nat.le_of_ble_eq_true rfl) rfl rfl ?_
  refine g_aloadN (pc := 4) K.1 d49_4 rfl ?_
  obtain ⟨q5, hq5, h⟩ := Option.bind_eq_some_iff.mp h
  refine g_callP (pc := 5) (vs := []) K d49_5 (w264 hw) (w265 hw) (w266 hw) (w267 hw) hyC pd_14 rfl rfl (con_M_applyCorrection l Z a0 hw n1 a (ctx_le K) hq5) rfl (Nat.le_of_ble_eq_true rfl) (Nat.le_of_ble_eq_true rfl) rfl rfl ?_
  refine g_aloadN (pc := 8) K.1 d49_8 rfl ?_
  refine g_aloadN (pc := 9) K.1 d49_9 rfl ?_
  refine g_getI (pc := 10) K d49_10 (w48 hw) mf_selLift2 ?_
  refine g_aloadN (pc := 13) K.1 d49_13 rfl ?_
  refine g_getI (pc := 14) K d49_14 (w44 hw) mf_selInvQ ?_
  obtain ⟨q17, hq17, h⟩ := Option.bind_eq_some_iff.mp h
  refine g_callP (pc := 17) (vs := [.int (gI q5 145), .int (gI q5 143)]) K d49_17 (w268 hw) (w269 hw) (w270 hw) (w271 hw) hyC pd_16 rfl rfl (con_M_copyPoly l Z a0 hw n1 a (ctx_le K) hq17) rfl (Nat.le_of_ble_eq_true rfl) (Nat.le_of_ble_eq_true rfl) rfl rfl ?_
  cases h; exact g_return K.1 d49_20 (capC K)
theorem con_M_newtonStep (l : Launch) (Z : State) (a0 : Array Value) (hw : HW a0 Z) (n1 : Nat) (a : Addr) (ha : n1 ≤ a) {NF : Nat} {σ : St} {r : St} (h : M_newtonStep NF σ = some r) : Con l Z cC cFS cFA 16 n1 a ⟨cC, "newtonStep", "()V"⟩ c49 1 none ⟨4, 0, 0, 64⟩ [.ref 0] σ none r :=
  con_of_go pnC rfl (layW hw) lgood ha (fun X h1 K => ok_M_newtonStep K hw h)
abbrev KM_M_invertModQ (X : Cx (St × Nat)) (Z : State) (a0 : Array Value) (l : Launch) (n1 : Nat) (a : Addr) (h0 : Heap) : Prop := CtxC X Z a0 cC cFS cFA 16 25 l n1 a h0 ce0 ⟨5, 0, 0, 83⟩ "invertModQ" c48 3 (some .boolean)
def M_invertModQ_w18 (NF : Nat) (k18 : Int32 → St → Option (Int32 × St)) (i2 : Int32) (σ : St) : Option (Int32 × St) :=
  (if i2 < (3 : Int32) then ((M_newtonStep NF σ).bind fun q24 => k18 (i2 + (1 : Int32)) q24) else ((M_isInverseOfDraft NF σ (gI σ 143) (gI σ 122)).bind fun q42 => (some ((nar .boolean q42.1), q42.2))))
theorem ok_M_invertModQ_w18 {X : Cx (St × Nat)} {Z : State} {a0 : Array Value} {l : Launch} {n1 : Nat} {a : Addr} {h0 : Heap} {NF : Nat} (K : KM_M_invertModQ X Z a0 l n1 a h0) (hw : HW a0 Z) {k18 : Int32 → St → Option (Int32 × St)} {i2 : Int32} {σ : St} {r : Int32 × St} (hk18 : ∀ (i2 : Int32) (σ : St) (h : k18 i2 σ = some r), Go X (some (.int r.1), (r.2, 16)) 18 [some (.ref 0), none, some (.int i2)] [] (σ, 16)) (h : M_invertModQ_w18 NF k18 i2 σ = some r) : Go X (some (.int r.1), (r.2, 16)) 18 [some (.ref 0), none, some (.int i2)] [] (σ, 16) := by
  unfold M_invertModQ_w18 at h
  refine g_iloadN (pc := 18) K.1 d48_18 rfl ?_
  refine g_iconst (pc := 19) (v := 3) K.1 d48_19 (by decide) ?_
  rcases ifs h with ⟨hc20, h⟩ | ⟨hc20, h⟩
  · refine g_icF (pc := 20) K.1 d48_20 ((tlt hc20).2.1) ?_
    refine g_aloadN (pc := 23) K.1 d48_23 rfl ?_
    obtain ⟨q24, hq24, h⟩ := Option.bind_eq_some_iff.mp h
    refine g_callP (pc := 24) (vs := []) K d48_24 (w256 hw) (w257 hw) (w258 hw) (w259 hw) hyC pd_14 rfl rfl (con_M_newtonStep l Z a0 hw n1 a (ctx_le K) hq24) rfl (Nat.le_of_ble_eq_true rfl) (Nat.le_of_ble_eq_true rfl) rfl rfl ?_
    refine g_iinc (pc := 27) (w := 1) (L' := [some (.ref 0), none, some (.int (i2 + (1 : Int32)))]) K.1 d48_27 rfl (by decide) rfl ?_
    refine g_goto (pc := 30) (pc' := 18) K.1 d48_30 (by decide) ?_
    exact hk18 _ _ h
  refine g_icT (pc := 20) (pc' := 33) K.1 d48_20 (by decide) ((flt hc20).2.1) ?_
  refine g_aloadN (pc := 33) K.1 d48_33 rfl ?_
  refine g_aloadN (pc := 34) K.1 d48_34 rfl ?_
  refine g_getI (pc := 35) K d48_35 (w44 hw) mf_selInvQ ?_
  refine g_aloadN (pc := 38) K.1 d48_38 rfl ?_
  refine g_getI (pc := 39) K d48_39 (w60 hw) mf_q ?_
  obtain ⟨q42, hq42, h⟩ := Option.bind_eq_some_iff.mp h
  refine g_callP (pc := 42) (vs := [.int (gI σ 143), .int (gI σ 122)]) K d48_42 (w240 hw) (w241 hw) (w242 hw) (w243 hw) hyC pd_6 rfl rfl (con_M_isInverseOfDraft l Z a0 hw n1 a (ctx_le K) hq42) rfl (Nat.le_of_ble_eq_true rfl) (Nat.le_of_ble_eq_true rfl) rfl rfl ?_
  cases h; exact g_ireturnN (t := .boolean) K.1 rfl (Or.inl rfl) d48_45 rfl (capC K)
def M_invertModQ_l18 (NF : Nat)  : Nat → Int32 → St → Option (Int32 × St)
  | 0 => fun _ _ => none
  | n + 1 => fun i2 σ => M_invertModQ_w18 NF  (M_invertModQ_l18 NF  n) i2 σ
theorem ok_M_invertModQ_l18 {X : Cx (St × Nat)} {Z : State} {a0 : Array Value} {l : Launch} {n1 : Nat} {a : Addr} {h0 : Heap} {NF : Nat} (K : KM_M_invertModQ X Z a0 l n1 a h0) (hw : HW a0 Z) (n : Nat)  {r : Int32 × St}  : ∀ (i2 : Int32) (σ : St) (h : M_invertModQ_l18 NF  n i2 σ = some r), Go X (some (.int r.1), (r.2, 16)) 18 [some (.ref 0), none, some (.int i2)] [] (σ, 16) := by
  induction n with
  | zero => intro i2 σ h; cases h
  | succ n ih => intro i2 σ h; exact ok_M_invertModQ_w18 (NF := NF) K hw  ih h
def M_invertModQ (NF : Nat) (σ : St) : Option (Int32 × St) :=
  ((M_invertByElimination NF σ (2 : Int32) (gI σ 143)).bind fun q6 => (if q6.1 = 0 then (some ((0 : Int32), q6.2)) else M_invertModQ_l18 NF NF (0 : Int32) q6.2))
theorem ok_M_invertModQ {X : Cx (St × Nat)} {Z : State} {a0 : Array Value} {l : Launch} {n1 : Nat} {a : Addr} {h0 : Heap} {NF : Nat} (K : KM_M_invertModQ X Z a0 l n1 a h0) (hw : HW a0 Z) {σ : St} {r : Int32 × St} (h : M_invertModQ NF σ = some r) : Go X (some (.int r.1), (r.2, 16)) 0 [some (.ref 0), none, none] [] (σ, 16) := by
  unfold M_invertModQ at h
  refine g_aloadN (pc := 0) K.1 d48_0 rfl ?_
  refine g_iconst (pc := 1) (v := 2) K.1 d48_1 (by decide) ?_
  refine g_aloadN (pc := 2) K.1 d48_2 rfl ?_
  refine g_getI (pc := 3) K d48_3 (w44 hw) mf_selInvQ ?_
  obtain ⟨q6, hq6, h⟩ := Option.bind_eq_some_iff.mp h
  refine g_callP (pc := 6) (vs := [.int (2 : Int32), .int (gI σ 143)]) K d48_6 (w77 hw) (w78 hw) (w79 hw) (w80 hw) hyC pd_6 rfl rfl (con_M_invertByElimination l Z a0 hw n1 a (ctx_le K) hq6) rfl (Nat.le_of_ble_eq_true rfl) (Nat.le_of_ble_eq_true rfl) rfl rfl ?_
  refine g_istoreN (pc := 9) (L' := [some (.ref 0), some (.int q6.1), none]) K.1 d48_9 (blt rfl) rfl ?_
  refine g_iloadN (pc := 10) K.1 d48_10 rfl ?_
  rcases ifs h with ⟨hc11, h⟩ | ⟨hc11, h⟩
  · refine g_ifF (pc := 11) K.1 d48_11 ((if0 _ _).trans (teq hc11).2) ?_
    refine g_iconst (pc := 14) (v := 0) K.1 d48_14 (by decide) ?_
    cases h; exact g_ireturnN (t := .boolean) K.1 rfl (Or.inl rfl) d48_15 rfl (capC K)
  refine g_ifT (pc := 11) (pc' := 16) K.1 d48_11 (by decide) ((if0 _ _).trans (feq hc11).2) ?_
  refine g_iconst (pc := 16) (v := 0) K.1 d48_16 (by decide) ?_
  refine g_istoreN (pc := 17) (L' := [some (.ref 0), some (.int q6.1), some (.int (0 : Int32))]) K.1 d48_17 (blt rfl) rfl ?_
  exact g_less (ok_M_invertModQ_l18 K hw NF  _ _ h) (ls (ln (ls l0)))
theorem con_M_invertModQ (l : Launch) (Z : State) (a0 : Array Value) (hw : HW a0 Z) (n1 : Nat) (a : Addr) (ha : n1 ≤ a) {NF : Nat} {σ : St} {r : Int32 × St} (h : M_invertModQ NF σ = some r) : Con l Z cC cFS cFA 16 n1 a ⟨cC, "invertModQ", "()Z"⟩ c48 3 (some .boolean) ⟨5, 0, 0, 83⟩ [.ref 0] σ (some (.int r.1)) r.2 :=
  con_of_go pnC rfl (layW hw) lgood ha (fun X h1 K => ok_M_invertModQ K hw h)
abbrev KM_M_computePublicKey (X : Cx (St × Nat)) (Z : State) (a0 : Array Value) (l : Launch) (n1 : Nat) (a : Addr) (h0 : Heap) : Prop := CtxC X Z a0 cC cFS cFA 16 25 l n1 a h0 ce0 ⟨3, 0, 0, 48⟩ "computePublicKey" c54 4 none
def M_computePublicKey_w2 (NF : Nat) (k2 : Int32 → St → Option (St)) (i1 : Int32) (σ : St) : Option (St) :=
  (if i1 < (gI σ 121) then ((M_convAt NF σ (7 : Int32) (1 : Int32) i1).bind fun q15 => ((M_mod q15.2 q15.1 (gI q15.2 122)).bind fun q25 => ((M_store q25.2 (8 : Int32) i1 q25.1).bind fun q34 => k2 (i1 + (1 : Int32)) q34))) else (some σ))
theorem ok_M_computePublicKey_w2 {X : Cx (St × Nat)} {Z : State} {a0 : Array Value} {l : Launch} {n1 : Nat} {a : Addr} {h0 : Heap} {NF : Nat} (K : KM_M_computePublicKey X Z a0 l n1 a h0) (hw : HW a0 Z) {k2 : Int32 → St → Option (St)} {i1 : Int32} {σ : St} {r : St} (hk2 : ∀ (i1 : Int32) (σ : St) (h : k2 i1 σ = some r), Go X (none, (r, 16)) 2 [some (.ref 0), some (.int i1), none, none] [] (σ, 16)) (h : M_computePublicKey_w2 NF k2 i1 σ = some r) : Go X (none, (r, 16)) 2 [some (.ref 0), some (.int i1), none, none] [] (σ, 16) := by
  unfold M_computePublicKey_w2 at h
  refine g_iloadN (pc := 2) K.1 d54_2 rfl ?_
  refine g_aloadN (pc := 3) K.1 d54_3 rfl ?_
  refine g_getI (pc := 4) K d54_4 (w54 hw) mf_n ?_
  rcases ifs h with ⟨hc7, h⟩ | ⟨hc7, h⟩
  · refine g_icF (pc := 7) K.1 d54_7 ((tlt hc7).2.1) ?_
    refine g_aloadN (pc := 10) K.1 d54_10 rfl ?_
    refine g_bipush (pc := 11) (v := 7) K.1 d54_11 (by decide) ?_
    refine g_iconst (pc := 13) (v := 1) K.1 d54_13 (by decide) ?_
    refine g_iloadN (pc := 14) K.1 d54_14 rfl ?_
    obtain ⟨q15, hq15, h⟩ := Option.bind_eq_some_iff.mp h
    refine g_callP (pc := 15) (vs := [.int (7 : Int32), .int (1 : Int32), .int i1]) K d54_15 (w244 hw) (w245 hw) (w246 hw) (w247 hw) hyC pd_17 rfl rfl (con_M_convAt l Z a0 hw n1 a (ctx_le K) hq15) rfl (Nat.le_of_ble_eq_true rfl) (Nat.le_of_ble_eq_true rfl) rfl rfl ?_
    refine g_istoreN (pc := 18) (L' := [some (.ref 0), some (.int i1), some (.int q15.1), none]) K.1 d54_18 (blt rfl) rfl ?_
    refine g_aloadN (pc := 19) K.1 d54_19 rfl ?_
    refine g_iloadN (pc := 20) K.1 d54_20 rfl ?_
    refine g_aloadN (pc := 21) K.1 d54_21 rfl ?_
    refine g_getI (pc := 22) K d54_22 (w60 hw) mf_q ?_
    obtain ⟨q25, hq25, h⟩ := Option.bind_eq_some_iff.mp h
    refine g_callP (pc := 25) (vs := [.int q15.1, .int (gI q15.2 122)]) K d54_25 (w93 hw) (w94 hw) (w95 hw) (w96 hw) hyC pd_0 rfl rfl (con_M_mod l Z a0 hw n1 a (ctx_le K) hq25) rfl (Nat.le_of_ble_eq_true rfl) (Nat.le_of_ble_eq_true rfl) rfl rfl ?_
    refine g_istoreN (pc := 28) (L' := [some (.ref 0), some (.int i1), some (.int q15.1), some (.int q25.1)]) K.1 d54_28 (blt rfl) rfl ?_
    refine g_aloadN (pc := 29) K.1 d54_29 rfl ?_
    refine g_bipush (pc := 30) (v := 8) K.1 d54_30 (by decide) ?_
    refine g_iloadN (pc := 32) K.1 d54_32 rfl ?_
    refine g_iloadN (pc := 33) K.1 d54_33 rfl ?_
    obtain ⟨q34, hq34, h⟩ := Option.bind_eq_some_iff.mp h
    refine g_callP (pc := 34) (vs := [.int (8 : Int32), .int i1, .int q25.1]) K d54_34 (w186 hw) (w187 hw) (w188 hw) (w189 hw) hyC pd_5 rfl rfl (con_M_store l Z a0 hw n1 a (ctx_le K) hq34) rfl (Nat.le_of_ble_eq_true rfl) (Nat.le_of_ble_eq_true rfl) rfl rfl ?_
    refine g_iinc (pc := 37) (w := 1) (L' := [some (.ref 0), some (.int (i1 + (1 : Int32))), some (.int q15.1), some (.int q25.1)]) K.1 d54_37 rfl (by decide) rfl ?_
    refine g_goto (pc := 40) (pc' := 2) K.1 d54_40 (by decide) ?_
    exact g_less (hk2 _ _ h) (ls (ls (ln (ln l0))))
  refine g_icT (pc := 7) (pc' := 43) K.1 d54_7 (by decide) ((flt hc7).2.1) ?_
  cases h; exact g_return K.1 d54_43 (capC K)
def M_computePublicKey_l2 (NF : Nat)  : Nat → Int32 → St → Option (St)
  | 0 => fun _ _ => none
  | n + 1 => fun i1 σ => M_computePublicKey_w2 NF  (M_computePublicKey_l2 NF  n) i1 σ
theorem ok_M_computePublicKey_l2 {X : Cx (St × Nat)} {Z : State} {a0 : Array Value} {l : Launch} {n1 : Nat} {a : Addr} {h0 : Heap} {NF : Nat} (K : KM_M_computePublicKey X Z a0 l n1 a h0) (hw : HW a0 Z) (n : Nat)  {r : St}  : ∀ (i1 : Int32) (σ : St) (h : M_computePublicKey_l2 NF  n i1 σ = some r), Go X (none, (r, 16)) 2 [some (.ref 0), some (.int i1), none, none] [] (σ, 16) := by
  induction n with
  | zero => intro i1 σ h; cases h
  | succ n ih => intro i1 σ h; exact ok_M_computePublicKey_w2 (NF := NF) K hw  ih h
def M_computePublicKey (NF : Nat) (σ : St) : Option (St) :=
  M_computePublicKey_l2 NF NF (0 : Int32) σ
theorem ok_M_computePublicKey {X : Cx (St × Nat)} {Z : State} {a0 : Array Value} {l : Launch} {n1 : Nat} {a : Addr} {h0 : Heap} {NF : Nat} (K : KM_M_computePublicKey X Z a0 l n1 a h0) (hw : HW a0 Z) {σ : St} {r : St} (h : M_computePublicKey NF σ = some r) : Go X (none, (r, 16)) 0 [some (.ref 0), none, none, none] [] (σ, 16) := by
  unfold M_computePublicKey at h
  refine g_iconst (pc := 0) (v := 0) K.1 d54_0 (by decide) ?_
  refine g_istoreN (pc := 1) (L' := [some (.ref 0), some (.int (0 : Int32)), none, none]) K.1 d54_1 (blt rfl) rfl ?_
  exact ok_M_computePublicKey_l2 K hw NF  _ _ h
theorem con_M_computePublicKey (l : Launch) (Z : State) (a0 : Array Value) (hw : HW a0 Z) (n1 : Nat) (a : Addr) (ha : n1 ≤ a) {NF : Nat} {σ : St} {r : St} (h : M_computePublicKey NF σ = some r) : Con l Z cC cFS cFA 16 n1 a ⟨cC, "computePublicKey", "()V"⟩ c54 4 none ⟨3, 0, 0, 48⟩ [.ref 0] σ none r :=
  con_of_go pnC rfl (layW hw) lgood ha (fun X h1 K => ok_M_computePublicKey K hw h)
abbrev KM_M_installKey (X : Cx (St × Nat)) (Z : State) (a0 : Array Value) (l : Launch) (n1 : Nat) (a : Addr) (h0 : Heap) : Prop := CtxC X Z a0 cC cFS cFA 16 25 l n1 a h0 ce0 ⟨4, 0, 0, 63⟩ "installKey" c53 1 none
def M_installKey (NF : Nat) (σ : St) : Option (St) :=
  ((M_copyPoly NF σ (0 : Int32) (5 : Int32)).bind fun q3 => ((M_copyPoly NF q3 (gI q3 142) (6 : Int32)).bind fun q13 => ((M_copyPoly NF q13 (gI q13 143) (7 : Int32)).bind fun q23 => ((M_computePublicKey NF q23).bind fun q27 => (some (sI (sI q27 124 (1 : Int32)) 125 ((gI (sI q27 124 (1 : Int32)) 125) + (1 : Int32))))))))
theorem ok_M_installKey {X : Cx (St × Nat)} {Z : State} {a0 : Array Value} {l : Launch} {n1 : Nat} {a : Addr} {h0 : Heap} {NF : Nat} (K : KM_M_installKey X Z a0 l n1 a h0) (hw : HW a0 Z) {σ : St} {r : St} (h : M_installKey NF σ = some r) : Go X (none, (r, 16)) 0 [some (.ref 0)] [] (σ, 16) := by
  unfold M_installKey at h
  refine g_aloadN (pc := 0) K.1 d53_0 rfl ?_
  refine g_iconst (pc := 1) (v := 0) K.1 d53_1 (by decide) ?_
  refine g_iconst (pc := 2) (v := 5) K.1 d53_2 (by decide) ?_
  obtain ⟨q3, hq3, h⟩ := Option.bind_eq_some_iff.mp h
  refine g_callP (pc := 3) (vs := [.int (0 : Int32), .int (5 : Int32)]) K d53_3 (w268 hw) (w269 hw) (w270 hw) (w271 hw) hyC pd_16 rfl rfl (con_M_copyPoly l Z a0 hw n1 a (ctx_le K) hq3) rfl (Nat.le_of_ble_eq_true rfl) (Nat.le_of_ble_eq_true rfl) rfl rfl ?_
  refine g_aloadN (pc := 6) K.1 d53_6 rfl ?_
  refine g_aloadN (pc := 7) K.1 d53_7 rfl ?_
  refine g_getI (pc := 8) K d53_8 (w42 hw) mf_selInvP ?_
  refine g_bipush (pc := 11) (v := 6) K.1 d53_11 (by decide) ?_
  obtain ⟨q13, hq13, h⟩ := Option.bind_eq_some_iff.mp h
  refine g_callP (pc := 13) (vs := [.int (gI q3 142), .int (6 : Int32)]) K d53_13 (w268 hw) (w269 hw) (w270 hw) (w271 hw) hyC pd_16 rfl rfl (con_M_copyPoly l Z a0 hw n1 a (ctx_le K) hq13) rfl (Nat.le_of_ble_eq_true rfl) (Nat.le_of_ble_eq_true rfl) rfl rfl ?_
  refine g_aloadN (pc := 16) K.1 d53_16 rfl ?_
  refine g_aloadN (pc := 17) K.1 d53_17 rfl ?_
  refine g_getI (pc := 18) K d53_18 (w44 hw) mf_selInvQ ?_
  refine g_bipush (pc := 21) (v := 7) K.1 d53_21 (by decide) ?_
  obtain ⟨q23, hq23, h⟩ := Option.bind_eq_some_iff.mp h
  refine g_callP (pc := 23) (vs := [.int (gI q13 143), .int (7 : Int32)]) K d53_23 (w268 hw) (w269 hw) (w270 hw) (w271 hw) hyC pd_16 rfl rfl (con_M_copyPoly l Z a0 hw n1 a (ctx_le K) hq23) rfl (Nat.le_of_ble_eq_true rfl) (Nat.le_of_ble_eq_true rfl) rfl rfl ?_
  refine g_aloadN (pc := 26) K.1 d53_26 rfl ?_
  obtain ⟨q27, hq27, h⟩ := Option.bind_eq_some_iff.mp h
  refine g_callP (pc := 27) (vs := []) K d53_27 (w276 hw) (w277 hw) (w278 hw) (w279 hw) hyC pd_14 rfl rfl (con_M_computePublicKey l Z a0 hw n1 a (ctx_le K) hq27) rfl (Nat.le_of_ble_eq_true rfl) (Nat.le_of_ble_eq_true rfl) rfl rfl ?_
  refine g_aloadN (pc := 30) K.1 d53_30 rfl ?_
  refine g_iconst (pc := 31) (v := 1) K.1 d53_31 (by decide) ?_
  refine g_putI (pc := 32) (t := .boolean) (v' := (1 : Int32)) K d53_32 (w64 hw) mf_keyed (Or.inl (w65 hw)) pfd_Z rfl rfl ?_
  refine g_aloadN (pc := 35) K.1 d53_35 rfl ?_
  refine g_aloadN (pc := 36) K.1 d53_36 rfl ?_
  refine g_getI (pc := 37) K d53_37 (w66 hw) mf_keys ?_
  refine g_iconst (pc := 40) (v := 1) K.1 d53_40 (by decide) ?_
  refine g_iadd (pc := 41) K.1 d53_41 ?_
  refine g_putI (pc := 42) (t := .int) (v' := ((gI (sI q27 124 (1 : Int32)) 125) + (1 : Int32))) K d53_42 (w66 hw) mf_keys (Or.inl (w67 hw)) pfd_I rfl rfl ?_
  cases h; exact g_return K.1 d53_45 (capC K)
theorem con_M_installKey (l : Launch) (Z : State) (a0 : Array Value) (hw : HW a0 Z) (n1 : Nat) (a : Addr) (ha : n1 ≤ a) {NF : Nat} {σ : St} {r : St} (h : M_installKey NF σ = some r) : Con l Z cC cFS cFA 16 n1 a ⟨cC, "installKey", "()V"⟩ c53 1 none ⟨4, 0, 0, 63⟩ [.ref 0] σ none r :=
  con_of_go pnC rfl (layW hw) lgood ha (fun X h1 K => ok_M_installKey K hw h)
abbrev KM_M_keygen (X : Cx (St × Nat)) (Z : State) (a0 : Array Value) (l : Launch) (n1 : Nat) (a : Addr) (h0 : Heap) : Prop := CtxC X Z a0 cC cFS cFA 16 25 l n1 a h0 ce0 ⟨6, 0, 0, 97⟩ "keygen" c28 3 (some .int)
def M_keygen (NF : Nat) (σ : St) : Option (Int32 × St) :=
  ((M_invertModThree NF σ).bind fun q1 => (if q1.1 = 0 then (some ((1 : Int32), q1.2)) else ((M_invertModQ NF q1.2).bind fun q12 => (if q12.1 = 0 then (some ((2 : Int32), q12.2)) else ((M_installKey NF q12.2).bind fun q23 => (some ((0 : Int32), q23)))))))
theorem ok_M_keygen {X : Cx (St × Nat)} {Z : State} {a0 : Array Value} {l : Launch} {n1 : Nat} {a : Addr} {h0 : Heap} {NF : Nat} (K : KM_M_keygen X Z a0 l n1 a h0) (hw : HW a0 Z) {σ : St} {r : Int32 × St} (h : M_keygen NF σ = some r) : Go X (some (.int r.1), (r.2, 16)) 0 [some (.ref 0), none, none] [] (σ, 16) := by
  unfold M_keygen at h
  refine g_aloadN (pc := 0) K.1 d28_0 rfl ?_
  obtain ⟨q1, hq1, h⟩ := Option.bind_eq_some_iff.mp h
  refine g_callP (pc := 1) (vs := []) K d28_1 (w73 hw) (w74 hw) (w75 hw) (w76 hw) hyC pd_3 rfl rfl (con_M_invertModThree l Z a0 hw n1 a (ctx_le K) hq1) rfl (Nat.le_of_ble_eq_true rfl) (Nat.le_of_ble_eq_true rfl) rfl rfl ?_
  refine g_istoreN (pc := 4) (L' := [some (.ref 0), some (.int q1.1), none]) K.1 d28_4 (blt rfl) rfl ?_
  refine g_iloadN (pc := 5) K.1 d28_5 rfl ?_
  rcases ifs h with ⟨hc6, h⟩ | ⟨hc6, h⟩
  · refine g_ifF (pc := 6) K.1 d28_6 ((if0 _ _).trans (teq hc6).2) ?_
    refine g_iconst (pc := 9) (v := 1) K.1 d28_9 (by decide) ?_
    cases h; exact g_ireturn K.1 d28_10 (capC K)
  refine g_ifT (pc := 6) (pc' := 11) K.1 d28_6 (by decide) ((if0 _ _).trans (feq hc6).2) ?_
  refine g_aloadN (pc := 11) K.1 d28_11 rfl ?_
  obtain ⟨q12, hq12, h⟩ := Option.bind_eq_some_iff.mp h
  refine g_callP (pc := 12) (vs := []) K d28_12 (w252 hw) (w253 hw) (w254 hw) (w255 hw) hyC pd_3 rfl rfl (con_M_invertModQ l Z a0 hw n1 a (ctx_le K) hq12) rfl (Nat.le_of_ble_eq_true rfl) (Nat.le_of_ble_eq_true rfl) rfl rfl ?_
  refine g_istoreN (pc := 15) (L' := [some (.ref 0), some (.int q1.1), some (.int q12.1)]) K.1 d28_15 (blt rfl) rfl ?_
  refine g_iloadN (pc := 16) K.1 d28_16 rfl ?_
  rcases ifs h with ⟨hc17, h⟩ | ⟨hc17, h⟩
  · refine g_ifF (pc := 17) K.1 d28_17 ((if0 _ _).trans (teq hc17).2) ?_
    refine g_iconst (pc := 20) (v := 2) K.1 d28_20 (by decide) ?_
    cases h; exact g_ireturn K.1 d28_21 (capC K)
  refine g_ifT (pc := 17) (pc' := 22) K.1 d28_17 (by decide) ((if0 _ _).trans (feq hc17).2) ?_
  refine g_aloadN (pc := 22) K.1 d28_22 rfl ?_
  obtain ⟨q23, hq23, h⟩ := Option.bind_eq_some_iff.mp h
  refine g_callP (pc := 23) (vs := []) K d28_23 (w272 hw) (w273 hw) (w274 hw) (w275 hw) hyC pd_14 rfl rfl (con_M_installKey l Z a0 hw n1 a (ctx_le K) hq23) rfl (Nat.le_of_ble_eq_true rfl) (Nat.le_of_ble_eq_true rfl) rfl rfl ?_
  refine g_iconst (pc := 26) (v := 0) K.1 d28_26 (by decide) ?_
  cases h; exact g_ireturn K.1 d28_27 (capC K)
theorem con_M_keygen (l : Launch) (Z : State) (a0 : Array Value) (hw : HW a0 Z) (n1 : Nat) (a : Addr) (ha : n1 ≤ a) {NF : Nat} {σ : St} {r : Int32 × St} (h : M_keygen NF σ = some r) : Con l Z cC cFS cFA 16 n1 a ⟨cC, "keygen", "()I"⟩ c28 3 (some .int) ⟨6, 0, 0, 97⟩ [.ref 0] σ (some (.int r.1)) r.2 :=
  con_of_go pnC rfl (layW hw) lgood ha (fun X h1 K => ok_M_keygen K hw h)
abbrev KM_M_weightOf (X : Cx (St × Nat)) (Z : State) (a0 : Array Value) (l : Launch) (n1 : Nat) (a : Addr) (h0 : Heap) : Prop := CtxC X Z a0 cC cFS cFA 16 25 l n1 a h0 ce0 ⟨2, 0, 0, 28⟩ "weightOf" c56 4 (some .int)
def M_weightOf_b24 (NF : Nat) (k4 : Int32 → Int32 → Int32 → St → Option (Int32 × St)) (i1 : Int32) (i2 : Int32) (i3 : Int32) (σ : St) : Option (Int32 × St) :=
  k4 i1 i2 (i3 + (1 : Int32)) σ
theorem ok_M_weightOf_b24 {X : Cx (St × Nat)} {Z : State} {a0 : Array Value} {l : Launch} {n1 : Nat} {a : Addr} {h0 : Heap} {NF : Nat} (K : KM_M_weightOf X Z a0 l n1 a h0) (hw : HW a0 Z) {k4 : Int32 → Int32 → Int32 → St → Option (Int32 × St)} {i1 : Int32} {i2 : Int32} {i3 : Int32} {σ : St} {r : Int32 × St} (hk4 : ∀ (i1 : Int32) (i2 : Int32) (i3 : Int32) (σ : St) (h : k4 i1 i2 i3 σ = some r), Go X (some (.int r.1), (r.2, 16)) 4 [some (.ref 0), some (.int i1), some (.int i2), some (.int i3)] [] (σ, 16)) (h : M_weightOf_b24 NF k4 i1 i2 i3 σ = some r) : Go X (some (.int r.1), (r.2, 16)) 24 [some (.ref 0), some (.int i1), some (.int i2), some (.int i3)] [] (σ, 16) := by
  unfold M_weightOf_b24 at h
  refine g_iinc (pc := 24) (w := 1) (L' := [some (.ref 0), some (.int i1), some (.int i2), some (.int (i3 + (1 : Int32)))]) K.1 d56_24 rfl (by decide) rfl ?_
  refine g_goto (pc := 27) (pc' := 4) K.1 d56_27 (by decide) ?_
  exact hk4 _ _ _ _ h
def M_weightOf_w4 (NF : Nat) (k4 : Int32 → Int32 → Int32 → St → Option (Int32 × St)) (i1 : Int32) (i2 : Int32) (i3 : Int32) (σ : St) : Option (Int32 × St) :=
  (if i3 < (gI σ 121) then ((M_load σ i1 i3).bind fun q15 => (if q15.1 = 0 then M_weightOf_b24 NF k4 i1 i2 i3 q15.2 else M_weightOf_b24 NF k4 i1 (i2 + (1 : Int32)) i3 q15.2)) else (some (i2, σ)))
theorem ok_M_weightOf_w4 {X : Cx (St × Nat)} {Z : State} {a0 : Array Value} {l : Launch} {n1 : Nat} {a : Addr} {h0 : Heap} {NF : Nat} (K : KM_M_weightOf X Z a0 l n1 a h0) (hw : HW a0 Z) {k4 : Int32 → Int32 → Int32 → St → Option (Int32 × St)} {i1 : Int32} {i2 : Int32} {i3 : Int32} {σ : St} {r : Int32 × St} (hk4 : ∀ (i1 : Int32) (i2 : Int32) (i3 : Int32) (σ : St) (h : k4 i1 i2 i3 σ = some r), Go X (some (.int r.1), (r.2, 16)) 4 [some (.ref 0), some (.int i1), some (.int i2), some (.int i3)] [] (σ, 16)) (h : M_weightOf_w4 NF k4 i1 i2 i3 σ = some r) : Go X (some (.int r.1), (r.2, 16)) 4 [some (.ref 0), some (.int i1), some (.int i2), some (.int i3)] [] (σ, 16) := by
  unfold M_weightOf_w4 at h
  refine g_iloadN (pc := 4) K.1 d56_4 rfl ?_
  refine g_aloadN (pc := 5) K.1 d56_5 rfl ?_
  refine g_getI (pc := 6) K d56_6 (w54 hw) mf_n ?_
  rcases ifs h with ⟨hc9, h⟩ | ⟨hc9, h⟩
  · refine g_icF (pc := 9) K.1 d56_9 ((tlt hc9).2.1) ?_
    refine g_aloadN (pc := 12) K.1 d56_12 rfl ?_
    refine g_iloadN (pc := 13) K.1 d56_13 rfl ?_
    refine g_iloadN (pc := 14) K.1 d56_14 rfl ?_
    obtain ⟨q15, hq15, h⟩ := Option.bind_eq_some_iff.mp h
    refine g_callP (pc := 15) (vs := [.int i1, .int i3]) K d56_15 (w97 hw) (w98 hw) (w99 hw) (w100 hw) hyC pd_0 rfl rfl (con_M_load l Z a0 hw n1 a (ctx_le K) hq15) rfl (Nat.le_of_ble_eq_true rfl) (Nat.le_of_ble_eq_true rfl) rfl rfl ?_
    rcases ifs h with ⟨hc18, h⟩ | ⟨hc18, h⟩
    · refine g_ifT (pc := 18) (pc' := 24) K.1 d56_18 (by decide) ((if0 _ _).trans (teq hc18).1) ?_
      exact ok_M_weightOf_b24 K hw hk4 h
    refine g_ifF (pc := 18) K.1 d56_18 ((if0 _ _).trans (feq hc18).1) ?_
    refine g_iinc (pc := 21) (w := 1) (L' := [some (.ref 0), some (.int i1), some (.int (i2 + (1 : Int32))), some (.int i3)]) K.1 d56_21 rfl (by decide) rfl ?_
    exact ok_M_weightOf_b24 K hw hk4 h
  refine g_icT (pc := 9) (pc' := 30) K.1 d56_9 (by decide) ((flt hc9).2.1) ?_
  refine g_iloadN (pc := 30) K.1 d56_30 rfl ?_
  cases h; exact g_ireturn K.1 d56_31 (capC K)
def M_weightOf_l4 (NF : Nat)  : Nat → Int32 → Int32 → Int32 → St → Option (Int32 × St)
  | 0 => fun _ _ _ _ => none
  | n + 1 => fun i1 i2 i3 σ => M_weightOf_w4 NF  (M_weightOf_l4 NF  n) i1 i2 i3 σ
theorem ok_M_weightOf_l4 {X : Cx (St × Nat)} {Z : State} {a0 : Array Value} {l : Launch} {n1 : Nat} {a : Addr} {h0 : Heap} {NF : Nat} (K : KM_M_weightOf X Z a0 l n1 a h0) (hw : HW a0 Z) (n : Nat)  {r : Int32 × St}  : ∀ (i1 : Int32) (i2 : Int32) (i3 : Int32) (σ : St) (h : M_weightOf_l4 NF  n i1 i2 i3 σ = some r), Go X (some (.int r.1), (r.2, 16)) 4 [some (.ref 0), some (.int i1), some (.int i2), some (.int i3)] [] (σ, 16) := by
  induction n with
  | zero => intro i1 i2 i3 σ h; cases h
  | succ n ih => intro i1 i2 i3 σ h; exact ok_M_weightOf_w4 (NF := NF) K hw  ih h
def M_weightOf (NF : Nat) (σ : St) (v1 : Int32) : Option (Int32 × St) :=
  M_weightOf_l4 NF NF v1 (0 : Int32) (0 : Int32) σ
theorem ok_M_weightOf {X : Cx (St × Nat)} {Z : State} {a0 : Array Value} {l : Launch} {n1 : Nat} {a : Addr} {h0 : Heap} {NF : Nat} (K : KM_M_weightOf X Z a0 l n1 a h0) (hw : HW a0 Z) {σ : St} {v1 : Int32} {r : Int32 × St} (h : M_weightOf NF σ v1 = some r) : Go X (some (.int r.1), (r.2, 16)) 0 [some (.ref 0), some (.int v1), none, none] [] (σ, 16) := by
  unfold M_weightOf at h
  refine g_iconst (pc := 0) (v := 0) K.1 d56_0 (by decide) ?_
  refine g_istoreN (pc := 1) (L' := [some (.ref 0), some (.int v1), some (.int (0 : Int32)), none]) K.1 d56_1 (blt rfl) rfl ?_
  refine g_iconst (pc := 2) (v := 0) K.1 d56_2 (by decide) ?_
  refine g_istoreN (pc := 3) (L' := [some (.ref 0), some (.int v1), some (.int (0 : Int32)), some (.int (0 : Int32))]) K.1 d56_3 (blt rfl) rfl ?_
  exact ok_M_weightOf_l4 K hw NF  _ _ _ _ h
theorem con_M_weightOf (l : Launch) (Z : State) (a0 : Array Value) (hw : HW a0 Z) (n1 : Nat) (a : Addr) (ha : n1 ≤ a) {NF : Nat} {σ : St} {v1 : Int32} {r : Int32 × St} (h : M_weightOf NF σ v1 = some r) : Con l Z cC cFS cFA 16 n1 a ⟨cC, "weightOf", "(I)I"⟩ c56 4 (some .int) ⟨2, 0, 0, 28⟩ [.ref 0, .int v1] σ (some (.int r.1)) r.2 :=
  con_of_go pnC rfl (layW hw) lgood ha (fun X h1 K => ok_M_weightOf K hw h)
abbrev KM_M_cipherCoeff (X : Cx (St × Nat)) (Z : State) (a0 : Array Value) (l : Launch) (n1 : Nat) (a : Addr) (h0 : Heap) : Prop := CtxC X Z a0 cC cFS cFA 16 25 l n1 a h0 ce0 ⟨3, 0, 0, 48⟩ "cipherCoeff" c58 5 (some .int)
def M_cipherCoeff (NF : Nat) (σ : St) (v1 : Int32) : Option (Int32 × St) :=
  ((M_convAt NF σ (3 : Int32) (8 : Int32) v1).bind fun q5 => ((M_load q5.2 (2 : Int32) v1).bind fun q12 => ((M_mod q12.2 (((3 : Int32) * q5.1) + q12.1) (gI q12.2 122)).bind fun q30 => (some (q30.1, q30.2)))))
theorem ok_M_cipherCoeff {X : Cx (St × Nat)} {Z : State} {a0 : Array Value} {l : Launch} {n1 : Nat} {a : Addr} {h0 : Heap} {NF : Nat} (K : KM_M_cipherCoeff X Z a0 l n1 a h0) (hw : HW a0 Z) {σ : St} {v1 : Int32} {r : Int32 × St} (h : M_cipherCoeff NF σ v1 = some r) : Go X (some (.int r.1), (r.2, 16)) 0 [some (.ref 0), some (.int v1), none, none, none] [] (σ, 16) := by
  unfold M_cipherCoeff at h
  refine g_aloadN (pc := 0) K.1 d58_0 rfl ?_
  refine g_iconst (pc := 1) (v := 3) K.1 d58_1 (by decide) ?_
  refine g_bipush (pc := 2) (v := 8) K.1 d58_2 (by decide) ?_
  refine g_iloadN (pc := 4) K.1 d58_4 rfl ?_
  obtain ⟨q5, hq5, h⟩ := Option.bind_eq_some_iff.mp h
  refine g_callP (pc := 5) (vs := [.int (3 : Int32), .int (8 : Int32), .int v1]) K d58_5 (w244 hw) (w245 hw) (w246 hw) (w247 hw) hyC pd_17 rfl rfl (con_M_convAt l Z a0 hw n1 a (ctx_le K) hq5) rfl (Nat.le_of_ble_eq_true rfl) (Nat.le_of_ble_eq_true rfl) rfl rfl ?_
  refine g_istoreN (pc := 8) (L' := [some (.ref 0), some (.int v1), some (.int q5.1), none, none]) K.1 d58_8 (blt rfl) rfl ?_
  refine g_aloadN (pc := 9) K.1 d58_9 rfl ?_
  refine g_iconst (pc := 10) (v := 2) K.1 d58_10 (by decide) ?_
  refine g_iloadN (pc := 11) K.1 d58_11 rfl ?_
  obtain ⟨q12, hq12, h⟩ := Option.bind_eq_some_iff.mp h
  refine g_callP (pc := 12) (vs := [.int (2 : Int32), .int v1]) K d58_12 (w97 hw) (w98 hw) (w99 hw) (w100 hw) hyC pd_0 rfl rfl (con_M_load l Z a0 hw n1 a (ctx_le K) hq12) rfl (Nat.le_of_ble_eq_true rfl) (Nat.le_of_ble_eq_true rfl) rfl rfl ?_
  refine g_istoreN (pc := 15) (L' := [some (.ref 0), some (.int v1), some (.int q5.1), some (.int q12.1), none]) K.1 d58_15 (blt rfl) rfl ?_
  refine g_iconst (pc := 16) (v := 3) K.1 d58_16 (by decide) ?_
  refine g_iloadN (pc := 17) K.1 d58_17 rfl ?_
  refine g_imul (pc := 18) K.1 d58_18 ?_
  refine g_iloadN (pc := 19) K.1 d58_19 rfl ?_
  refine g_iadd (pc := 20) K.1 d58_20 ?_
  refine g_istore (pc := 21) (L' := [some (.ref 0), some (.int v1), some (.int q5.1), some (.int q12.1), some (.int (((3 : Int32) * q5.1) + q12.1))]) K.1 d58_21 (blt rfl) rfl ?_
  refine g_aloadN (pc := 23) K.1 d58_23 rfl ?_
  refine g_iload (pc := 24) K.1 d58_24 rfl ?_
  refine g_aloadN (pc := 26) K.1 d58_26 rfl ?_
  refine g_getI (pc := 27) K d58_27 (w60 hw) mf_q ?_
  obtain ⟨q30, hq30, h⟩ := Option.bind_eq_some_iff.mp h
  refine g_callP (pc := 30) (vs := [.int (((3 : Int32) * q5.1) + q12.1), .int (gI q12.2 122)]) K d58_30 (w93 hw) (w94 hw) (w95 hw) (w96 hw) hyC pd_0 rfl rfl (con_M_mod l Z a0 hw n1 a (ctx_le K) hq30) rfl (Nat.le_of_ble_eq_true rfl) (Nat.le_of_ble_eq_true rfl) rfl rfl ?_
  cases h; exact g_ireturn K.1 d58_33 (capC K)
theorem con_M_cipherCoeff (l : Launch) (Z : State) (a0 : Array Value) (hw : HW a0 Z) (n1 : Nat) (a : Addr) (ha : n1 ≤ a) {NF : Nat} {σ : St} {v1 : Int32} {r : Int32 × St} (h : M_cipherCoeff NF σ v1 = some r) : Con l Z cC cFS cFA 16 n1 a ⟨cC, "cipherCoeff", "(I)I"⟩ c58 5 (some .int) ⟨3, 0, 0, 48⟩ [.ref 0, .int v1] σ (some (.int r.1)) r.2 :=
  con_of_go pnC rfl (layW hw) lgood ha (fun X h1 K => ok_M_cipherCoeff K hw h)
abbrev KM_M_writeCiphertext (X : Cx (St × Nat)) (Z : State) (a0 : Array Value) (l : Launch) (n1 : Nat) (a : Addr) (h0 : Heap) : Prop := CtxC X Z a0 cC cFS cFA 16 25 l n1 a h0 ce0 ⟨4, 0, 0, 64⟩ "writeCiphertext" c57 3 none
def M_writeCiphertext_w2 (NF : Nat) (k2 : Int32 → St → Option (St)) (i1 : Int32) (σ : St) : Option (St) :=
  (if i1 < (gI σ 121) then ((M_cipherCoeff NF σ i1).bind fun q12 => ((M_store q12.2 (4 : Int32) i1 q12.1).bind fun q20 => k2 (i1 + (1 : Int32)) q20)) else (some σ))
theorem ok_M_writeCiphertext_w2 {X : Cx (St × Nat)} {Z : State} {a0 : Array Value} {l : Launch} {n1 : Nat} {a : Addr} {h0 : Heap} {NF : Nat} (K : KM_M_writeCiphertext X Z a0 l n1 a h0) (hw : HW a0 Z) {k2 : Int32 → St → Option (St)} {i1 : Int32} {σ : St} {r : St} (hk2 : ∀ (i1 : Int32) (σ : St) (h : k2 i1 σ = some r), Go X (none, (r, 16)) 2 [some (.ref 0), some (.int i1), none] [] (σ, 16)) (h : M_writeCiphertext_w2 NF k2 i1 σ = some r) : Go X (none, (r, 16)) 2 [some (.ref 0), some (.int i1), none] [] (σ, 16) := by
  unfold M_writeCiphertext_w2 at h
  refine g_iloadN (pc := 2) K.1 d57_2 rfl ?_
  refine g_aloadN (pc := 3) K.1 d57_3 rfl ?_
  refine g_getI (pc := 4) K d57_4 (w54 hw) mf_n ?_
  rcases ifs h with ⟨hc7, h⟩ | ⟨hc7, h⟩
  · refine g_icF (pc := 7) K.1 d57_7 ((tlt hc7).2.1) ?_
    refine g_aloadN (pc := 10) K.1 d57_10 rfl ?_
    refine g_iloadN (pc := 11) K.1 d57_11 rfl ?_
    obtain ⟨q12, hq12, h⟩ := Option.bind_eq_some_iff.mp h
    refine g_callP (pc := 12) (vs := [.int i1]) K d57_12 (w314 hw) (w315 hw) (w316 hw) (w317 hw) hyC pd_9 rfl rfl (con_M_cipherCoeff l Z a0 hw n1 a (ctx_le K) hq12) rfl (Nat.le_of_ble_eq_true rfl) (Nat.le_of_ble_eq_true rfl) rfl rfl ?_
    refine g_istoreN (pc := 15) (L' := [some (.ref 0), some (.int i1), some (.int q12.1)]) K.1 d57_15 (blt rfl) rfl ?_
    refine g_aloadN (pc := 16) K.1 d57_16 rfl ?_
    refine g_iconst (pc := 17) (v := 4) K.1 d57_17 (by decide) ?_
    refine g_iloadN (pc := 18) K.1 d57_18 rfl ?_
    refine g_iloadN (pc := 19) K.1 d57_19 rfl ?_
    obtain ⟨q20, hq20, h⟩ := Option.bind_eq_some_iff.mp h
    refine g_callP (pc := 20) (vs := [.int (4 : Int32), .int i1, .int q12.1]) K d57_20 (w186 hw) (w187 hw) (w188 hw) (w189 hw) hyC pd_5 rfl rfl (con_M_store l Z a0 hw n1 a (ctx_le K) hq20) rfl (Nat.le_of_ble_eq_true rfl) (Nat.le_of_ble_eq_true rfl) rfl rfl ?_
    refine g_iinc (pc := 23) (w := 1) (L' := [some (.ref 0), some (.int (i1 + (1 : Int32))), some (.int q12.1)]) K.1 d57_23 rfl (by decide) rfl ?_
    refine g_goto (pc := 26) (pc' := 2) K.1 d57_26 (by decide) ?_
    exact g_less (hk2 _ _ h) (ls (ls (ln l0)))
  refine g_icT (pc := 7) (pc' := 29) K.1 d57_7 (by decide) ((flt hc7).2.1) ?_
  cases h; exact g_return K.1 d57_29 (capC K)
def M_writeCiphertext_l2 (NF : Nat)  : Nat → Int32 → St → Option (St)
  | 0 => fun _ _ => none
  | n + 1 => fun i1 σ => M_writeCiphertext_w2 NF  (M_writeCiphertext_l2 NF  n) i1 σ
theorem ok_M_writeCiphertext_l2 {X : Cx (St × Nat)} {Z : State} {a0 : Array Value} {l : Launch} {n1 : Nat} {a : Addr} {h0 : Heap} {NF : Nat} (K : KM_M_writeCiphertext X Z a0 l n1 a h0) (hw : HW a0 Z) (n : Nat)  {r : St}  : ∀ (i1 : Int32) (σ : St) (h : M_writeCiphertext_l2 NF  n i1 σ = some r), Go X (none, (r, 16)) 2 [some (.ref 0), some (.int i1), none] [] (σ, 16) := by
  induction n with
  | zero => intro i1 σ h; cases h
  | succ n ih => intro i1 σ h; exact ok_M_writeCiphertext_w2 (NF := NF) K hw  ih h
def M_writeCiphertext (NF : Nat) (σ : St) : Option (St) :=
  M_writeCiphertext_l2 NF NF (0 : Int32) σ
theorem ok_M_writeCiphertext {X : Cx (St × Nat)} {Z : State} {a0 : Array Value} {l : Launch} {n1 : Nat} {a : Addr} {h0 : Heap} {NF : Nat} (K : KM_M_writeCiphertext X Z a0 l n1 a h0) (hw : HW a0 Z) {σ : St} {r : St} (h : M_writeCiphertext NF σ = some r) : Go X (none, (r, 16)) 0 [some (.ref 0), none, none] [] (σ, 16) := by
  unfold M_writeCiphertext at h
  refine g_iconst (pc := 0) (v := 0) K.1 d57_0 (by decide) ?_
  refine g_istoreN (pc := 1) (L' := [some (.ref 0), some (.int (0 : Int32)), none]) K.1 d57_1 (blt rfl) rfl ?_
  exact ok_M_writeCiphertext_l2 K hw NF  _ _ h
theorem con_M_writeCiphertext (l : Launch) (Z : State) (a0 : Array Value) (hw : HW a0 Z) (n1 : Nat) (a : Addr) (ha : n1 ≤ a) {NF : Nat} {σ : St} {r : St} (h : M_writeCiphertext NF σ = some r) : Con l Z cC cFS cFA 16 n1 a ⟨cC, "writeCiphertext", "()V"⟩ c57 3 none ⟨4, 0, 0, 64⟩ [.ref 0] σ none r :=
  con_of_go pnC rfl (layW hw) lgood ha (fun X h1 K => ok_M_writeCiphertext K hw h)
abbrev KM_M_encrypt (X : Cx (St × Nat)) (Z : State) (a0 : Array Value) (l : Launch) (n1 : Nat) (a : Addr) (h0 : Heap) : Prop := CtxC X Z a0 cC cFS cFA 16 25 l n1 a h0 ce0 ⟨5, 0, 0, 78⟩ "encrypt" c55 3 (some .int)
def M_encrypt (NF : Nat) (σ : St) : Option (Int32 × St) :=
  (if (gI σ 124) = 0 then (some ((1 : Int32), σ)) else ((M_weightOf NF σ (2 : Int32)).bind fun q11 => (if (gI q11.2 123) < q11.1 then (some ((2 : Int32), q11.2)) else ((M_weightOf NF q11.2 (3 : Int32)).bind fun q27 => (if (gI q27.2 123) < q27.1 then (some ((3 : Int32), q27.2)) else ((M_writeCiphertext NF q27.2).bind fun q42 => (some ((0 : Int32), q42))))))))
theorem ok_M_encrypt {X : Cx (St × Nat)} {Z : State} {a0 : Array Value} {l : Launch} {n1 : Nat} {a : Addr} {h0 : Heap} {NF : Nat} (K : KM_M_encrypt X Z a0 l n1 a h0) (hw : HW a0 Z) {σ : St} {r : Int32 × St} (h : M_encrypt NF σ = some r) : Go X (some (.int r.1), (r.2, 16)) 0 [some (.ref 0), none, none] [] (σ, 16) := by
  unfold M_encrypt at h
  refine g_aloadN (pc := 0) K.1 d55_0 rfl ?_
  refine g_getI (pc := 1) K d55_1 (w64 hw) mf_keyed ?_
  rcases ifs h with ⟨hc4, h⟩ | ⟨hc4, h⟩
  · refine g_ifF (pc := 4) K.1 d55_4 ((if0 _ _).trans (teq hc4).2) ?_
    refine g_iconst (pc := 7) (v := 1) K.1 d55_7 (by decide) ?_
    cases h; exact g_ireturn K.1 d55_8 (capC K)
  refine g_ifT (pc := 4) (pc' := 9) K.1 d55_4 (by decide) ((if0 _ _).trans (feq hc4).2) ?_
  refine g_aloadN (pc := 9) K.1 d55_9 rfl ?_
  refine g_iconst (pc := 10) (v := 2) K.1 d55_10 (by decide) ?_
  obtain ⟨q11, hq11, h⟩ := Option.bind_eq_some_iff.mp h
  refine g_callP (pc := 11) (vs := [.int (2 : Int32)]) K d55_11 (w306 hw) (w307 hw) (w308 hw) (w309 hw) hyC pd_9 rfl rfl (con_M_weightOf l Z a0 hw n1 a (ctx_le K) hq11) rfl (Nat.le_of_ble_eq_true rfl) (Nat.le_of_ble_eq_true rfl) rfl rfl ?_
  refine g_istoreN (pc := 14) (L' := [some (.ref 0), some (.int q11.1), none]) K.1 d55_14 (blt rfl) rfl ?_
  refine g_iloadN (pc := 15) K.1 d55_15 rfl ?_
  refine g_aloadN (pc := 16) K.1 d55_16 rfl ?_
  refine g_getI (pc := 17) K d55_17 (w62 hw) mf_bound ?_
  rcases ifs h with ⟨hc20, h⟩ | ⟨hc20, h⟩
  · refine g_icF (pc := 20) K.1 d55_20 ((tlt hc20).2.2.2) ?_
    refine g_iconst (pc := 23) (v := 2) K.1 d55_23 (by decide) ?_
    cases h; exact g_ireturn K.1 d55_24 (capC K)
  refine g_icT (pc := 20) (pc' := 25) K.1 d55_20 (by decide) ((flt hc20).2.2.2) ?_
  refine g_aloadN (pc := 25) K.1 d55_25 rfl ?_
  refine g_iconst (pc := 26) (v := 3) K.1 d55_26 (by decide) ?_
  obtain ⟨q27, hq27, h⟩ := Option.bind_eq_some_iff.mp h
  refine g_callP (pc := 27) (vs := [.int (3 : Int32)]) K d55_27 (w306 hw) (w307 hw) (w308 hw) (w309 hw) hyC pd_9 rfl rfl (con_M_weightOf l Z a0 hw n1 a (ctx_le K) hq27) rfl (Nat.le_of_ble_eq_true rfl) (Nat.le_of_ble_eq_true rfl) rfl rfl ?_
  refine g_istoreN (pc := 30) (L' := [some (.ref 0), some (.int q11.1), some (.int q27.1)]) K.1 d55_30 (blt rfl) rfl ?_
  refine g_iloadN (pc := 31) K.1 d55_31 rfl ?_
  refine g_aloadN (pc := 32) K.1 d55_32 rfl ?_
  refine g_getI (pc := 33) K d55_33 (w62 hw) mf_bound ?_
  rcases ifs h with ⟨hc36, h⟩ | ⟨hc36, h⟩
  · refine g_icF (pc := 36) K.1 d55_36 ((tlt hc36).2.2.2) ?_
    refine g_iconst (pc := 39) (v := 3) K.1 d55_39 (by decide) ?_
    cases h; exact g_ireturn K.1 d55_40 (capC K)
  refine g_icT (pc := 36) (pc' := 41) K.1 d55_36 (by decide) ((flt hc36).2.2.2) ?_
  refine g_aloadN (pc := 41) K.1 d55_41 rfl ?_
  obtain ⟨q42, hq42, h⟩ := Option.bind_eq_some_iff.mp h
  refine g_callP (pc := 42) (vs := []) K d55_42 (w310 hw) (w311 hw) (w312 hw) (w313 hw) hyC pd_14 rfl rfl (con_M_writeCiphertext l Z a0 hw n1 a (ctx_le K) hq42) rfl (Nat.le_of_ble_eq_true rfl) (Nat.le_of_ble_eq_true rfl) rfl rfl ?_
  refine g_iconst (pc := 45) (v := 0) K.1 d55_45 (by decide) ?_
  cases h; exact g_ireturn K.1 d55_46 (capC K)
theorem con_M_encrypt (l : Launch) (Z : State) (a0 : Array Value) (hw : HW a0 Z) (n1 : Nat) (a : Addr) (ha : n1 ≤ a) {NF : Nat} {σ : St} {r : Int32 × St} (h : M_encrypt NF σ = some r) : Con l Z cC cFS cFA 16 n1 a ⟨cC, "encrypt", "()I"⟩ c55 3 (some .int) ⟨5, 0, 0, 78⟩ [.ref 0] σ (some (.int r.1)) r.2 :=
  con_of_go pnC rfl (layW hw) lgood ha (fun X h1 K => ok_M_encrypt K hw h)
abbrev KM_M_centre (X : Cx (St × Nat)) (Z : State) (a0 : Array Value) (l : Launch) (n1 : Nat) (a : Addr) (h0 : Heap) : Prop := CtxC X Z a0 cC cFS cFA 16 25 l n1 a h0 ce0 ⟨0, 0, 0, 0⟩ "centre" c61 3 (some .int)
def M_centre (σ : St) (v1 : Int32) : Option (Int32 × St) :=
  (if ((gI σ 122) / (2 : Int32)) < v1 then (some ((v1 - (gI σ 122)), σ)) else (some (v1, σ)))
theorem ok_M_centre {X : Cx (St × Nat)} {Z : State} {a0 : Array Value} {l : Launch} {n1 : Nat} {a : Addr} {h0 : Heap} (K : KM_M_centre X Z a0 l n1 a h0) (hw : HW a0 Z) {σ : St} {v1 : Int32} {r : Int32 × St} (h : M_centre σ v1 = some r) : Go X (some (.int r.1), (r.2, 16)) 0 [some (.ref 0), some (.int v1), none] [] (σ, 16) := by
  unfold M_centre at h
  refine g_aloadN (pc := 0) K.1 d61_0 rfl ?_
  refine g_getI (pc := 1) K d61_1 (w60 hw) mf_q ?_
  refine g_iconst (pc := 4) (v := 2) K.1 d61_4 (by decide) ?_
  refine g_idiv (pc := 5) K.1 d61_5 (by decide) ?_
  refine g_istoreN (pc := 6) (L' := [some (.ref 0), some (.int v1), some (.int ((gI σ 122) / (2 : Int32)))]) K.1 d61_6 (blt rfl) rfl ?_
  refine g_iloadN (pc := 7) K.1 d61_7 rfl ?_
  refine g_iloadN (pc := 8) K.1 d61_8 rfl ?_
  rcases ifs h with ⟨hc9, h⟩ | ⟨hc9, h⟩
  · refine g_icT (pc := 9) (pc' := 14) K.1 d61_9 (by decide) ((tlt hc9).2.2.1) ?_
    refine g_iloadN (pc := 14) K.1 d61_14 rfl ?_
    refine g_aloadN (pc := 15) K.1 d61_15 rfl ?_
    refine g_getI (pc := 16) K d61_16 (w60 hw) mf_q ?_
    refine g_isub (pc := 19) K.1 d61_19 ?_
    cases h; exact g_ireturn K.1 d61_20 (capC K)
  refine g_icF (pc := 9) K.1 d61_9 ((flt hc9).2.2.1) ?_
  refine g_iloadN (pc := 12) K.1 d61_12 rfl ?_
  cases h; exact g_ireturn K.1 d61_13 (capC K)
theorem con_M_centre (l : Launch) (Z : State) (a0 : Array Value) (hw : HW a0 Z) (n1 : Nat) (a : Addr) (ha : n1 ≤ a) {σ : St} {v1 : Int32} {r : Int32 × St} (h : M_centre σ v1 = some r) : Con l Z cC cFS cFA 16 n1 a ⟨cC, "centre", "(I)I"⟩ c61 3 (some .int) ⟨0, 0, 0, 0⟩ [.ref 0, .int v1] σ (some (.int r.1)) r.2 :=
  con_of_go pnC rfl (layW hw) lgood ha (fun X h1 K => ok_M_centre K hw h)
abbrev KM_M_writeCentred (X : Cx (St × Nat)) (Z : State) (a0 : Array Value) (l : Launch) (n1 : Nat) (a : Addr) (h0 : Heap) : Prop := CtxC X Z a0 cC cFS cFA 16 25 l n1 a h0 ce0 ⟨3, 0, 0, 48⟩ "writeCentred" c60 5 none
def M_writeCentred_w2 (NF : Nat) (k2 : Int32 → St → Option (St)) (i1 : Int32) (σ : St) : Option (St) :=
  (if i1 < (gI σ 121) then ((M_convAt NF σ (5 : Int32) (4 : Int32) i1).bind fun q14 => ((M_mod q14.2 q14.1 (gI q14.2 122)).bind fun q24 => ((M_centre q24.2 q24.1).bind fun q30 => ((M_store q30.2 (9 : Int32) i1 q30.1).bind fun q41 => k2 (i1 + (1 : Int32)) q41)))) else (some σ))
theorem ok_M_writeCentred_w2 {X : Cx (St × Nat)} {Z : State} {a0 : Array Value} {l : Launch} {n1 : Nat} {a : Addr} {h0 : Heap} {NF : Nat} (K : KM_M_writeCentred X Z a0 l n1 a h0) (hw : HW a0 Z) {k2 : Int32 → St → Option (St)} {i1 : Int32} {σ : St} {r : St} (hk2 : ∀ (i1 : Int32) (σ : St) (h : k2 i1 σ = some r), Go X (none, (r, 16)) 2 [some (.ref 0), some (.int i1), none, none, none] [] (σ, 16)) (h : M_writeCentred_w2 NF k2 i1 σ = some r) : Go X (none, (r, 16)) 2 [some (.ref 0), some (.int i1), none, none, none] [] (σ, 16) := by
  unfold M_writeCentred_w2 at h
  refine g_iloadN (pc := 2) K.1 d60_2 rfl ?_
  refine g_aloadN (pc := 3) K.1 d60_3 rfl ?_
  refine g_getI (pc := 4) K d60_4 (w54 hw) mf_n ?_
  rcases ifs h with ⟨hc7, h⟩ | ⟨hc7, h⟩
  · refine g_icF (pc := 7) K.1 d60_7 ((tlt hc7).2.1) ?_
    refine g_aloadN (pc := 10) K.1 d60_10 rfl ?_
    refine g_iconst (pc := 11) (v := 5) K.1 d60_11 (by decide) ?_
    refine g_iconst (pc := 12) (v := 4) K.1 d60_12 (by decide) ?_
    refine g_iloadN (pc := 13) K.1 d60_13 rfl ?_
    obtain ⟨q14, hq14, h⟩ := Option.bind_eq_some_iff.mp h
    refine g_callP (pc := 14) (vs := [.int (5 : Int32), .int (4 : Int32), .int i1]) K d60_14 (w244 hw) (w245 hw) (w246 hw) (w247 hw) hyC pd_17 rfl rfl (con_M_convAt l Z a0 hw n1 a (ctx_le K) hq14) rfl (Nat.le_of_ble_eq_true rfl) (Nat.le_of_ble_eq_true rfl) rfl rfl ?_
    refine g_istoreN (pc := 17) (L' := [some (.ref 0), some (.int i1), some (.int q14.1), none, none]) K.1 d60_17 (blt rfl) rfl ?_
    refine g_aloadN (pc := 18) K.1 d60_18 rfl ?_
    refine g_iloadN (pc := 19) K.1 d60_19 rfl ?_
    refine g_aloadN (pc := 20) K.1 d60_20 rfl ?_
    refine g_getI (pc := 21) K d60_21 (w60 hw) mf_q ?_
    obtain ⟨q24, hq24, h⟩ := Option.bind_eq_some_iff.mp h
    refine g_callP (pc := 24) (vs := [.int q14.1, .int (gI q14.2 122)]) K d60_24 (w93 hw) (w94 hw) (w95 hw) (w96 hw) hyC pd_0 rfl rfl (con_M_mod l Z a0 hw n1 a (ctx_le K) hq24) rfl (Nat.le_of_ble_eq_true rfl) (Nat.le_of_ble_eq_true rfl) rfl rfl ?_
    refine g_istoreN (pc := 27) (L' := [some (.ref 0), some (.int i1), some (.int q14.1), some (.int q24.1), none]) K.1 d60_27 (blt rfl) rfl ?_
    refine g_aloadN (pc := 28) K.1 d60_28 rfl ?_
    refine g_iloadN (pc := 29) K.1 d60_29 rfl ?_
    obtain ⟨q30, hq30, h⟩ := Option.bind_eq_some_iff.mp h
    refine g_callP (pc := 30) (vs := [.int q24.1]) K d60_30 (w294 hw) (w295 hw) (w296 hw) (w297 hw) hyC pd_9 rfl rfl (con_M_centre l Z a0 hw n1 a (ctx_le K) hq30) rfl (Nat.le_of_ble_eq_true rfl) (Nat.le_of_ble_eq_true rfl) rfl rfl ?_
    refine g_istore (pc := 33) (L' := [some (.ref 0), some (.int i1), some (.int q14.1), some (.int q24.1), some (.int q30.1)]) K.1 d60_33 (blt rfl) rfl ?_
    refine g_aloadN (pc := 35) K.1 d60_35 rfl ?_
    refine g_bipush (pc := 36) (v := 9) K.1 d60_36 (by decide) ?_
    refine g_iloadN (pc := 38) K.1 d60_38 rfl ?_
    refine g_iload (pc := 39) K.1 d60_39 rfl ?_
    obtain ⟨q41, hq41, h⟩ := Option.bind_eq_some_iff.mp h
    refine g_callP (pc := 41) (vs := [.int (9 : Int32), .int i1, .int q30.1]) K d60_41 (w186 hw) (w187 hw) (w188 hw) (w189 hw) hyC pd_5 rfl rfl (con_M_store l Z a0 hw n1 a (ctx_le K) hq41) rfl (Nat.le_of_ble_eq_true rfl) (Nat.le_of_ble_eq_true rfl) rfl rfl ?_
    refine g_iinc (pc := 44) (w := 1) (L' := [some (.ref 0), some (.int (i1 + (1 : Int32))), some (.int q14.1), some (.int q24.1), some (.int q30.1)]) K.1 d60_44 rfl (by decide) rfl ?_
    refine g_goto (pc := 47) (pc' := 2) K.1 d60_47 (by decide) ?_
    exact g_less (hk2 _ _ h) (ls (ls (ln (ln (ln l0)))))
  refine g_icT (pc := 7) (pc' := 50) K.1 d60_7 (by decide) ((flt hc7).2.1) ?_
  cases h; exact g_return K.1 d60_50 (capC K)
def M_writeCentred_l2 (NF : Nat)  : Nat → Int32 → St → Option (St)
  | 0 => fun _ _ => none
  | n + 1 => fun i1 σ => M_writeCentred_w2 NF  (M_writeCentred_l2 NF  n) i1 σ
theorem ok_M_writeCentred_l2 {X : Cx (St × Nat)} {Z : State} {a0 : Array Value} {l : Launch} {n1 : Nat} {a : Addr} {h0 : Heap} {NF : Nat} (K : KM_M_writeCentred X Z a0 l n1 a h0) (hw : HW a0 Z) (n : Nat)  {r : St}  : ∀ (i1 : Int32) (σ : St) (h : M_writeCentred_l2 NF  n i1 σ = some r), Go X (none, (r, 16)) 2 [some (.ref 0), some (.int i1), none, none, none] [] (σ, 16) := by
  induction n with
  | zero => intro i1 σ h; cases h
  | succ n ih => intro i1 σ h; exact ok_M_writeCentred_w2 (NF := NF) K hw  ih h
def M_writeCentred (NF : Nat) (σ : St) : Option (St) :=
  M_writeCentred_l2 NF NF (0 : Int32) σ
theorem ok_M_writeCentred {X : Cx (St × Nat)} {Z : State} {a0 : Array Value} {l : Launch} {n1 : Nat} {a : Addr} {h0 : Heap} {NF : Nat} (K : KM_M_writeCentred X Z a0 l n1 a h0) (hw : HW a0 Z) {σ : St} {r : St} (h : M_writeCentred NF σ = some r) : Go X (none, (r, 16)) 0 [some (.ref 0), none, none, none, none] [] (σ, 16) := by
  unfold M_writeCentred at h
  refine g_iconst (pc := 0) (v := 0) K.1 d60_0 (by decide) ?_
  refine g_istoreN (pc := 1) (L' := [some (.ref 0), some (.int (0 : Int32)), none, none, none]) K.1 d60_1 (blt rfl) rfl ?_
  exact ok_M_writeCentred_l2 K hw NF  _ _ h
theorem con_M_writeCentred (l : Launch) (Z : State) (a0 : Array Value) (hw : HW a0 Z) (n1 : Nat) (a : Addr) (ha : n1 ≤ a) {NF : Nat} {σ : St} {r : St} (h : M_writeCentred NF σ = some r) : Con l Z cC cFS cFA 16 n1 a ⟨cC, "writeCentred", "()V"⟩ c60 5 none ⟨3, 0, 0, 48⟩ [.ref 0] σ none r :=
  con_of_go pnC rfl (layW hw) lgood ha (fun X h1 K => ok_M_writeCentred K hw h)
abbrev KM_M_ternaryOf (X : Cx (St × Nat)) (Z : State) (a0 : Array Value) (l : Launch) (n1 : Nat) (a : Addr) (h0 : Heap) : Prop := CtxC X Z a0 cC cFS cFA 16 25 l n1 a h0 ce0 ⟨0, 0, 0, 0⟩ "ternaryOf" c63 2 (some .int)
def M_ternaryOf (σ : St) (v1 : Int32) : Option (Int32 × St) :=
  (if (1 : Int32) < v1 then (some ((-1 : Int32), σ)) else (some (v1, σ)))
theorem ok_M_ternaryOf {X : Cx (St × Nat)} {Z : State} {a0 : Array Value} {l : Launch} {n1 : Nat} {a : Addr} {h0 : Heap} (K : KM_M_ternaryOf X Z a0 l n1 a h0) (hw : HW a0 Z) {σ : St} {v1 : Int32} {r : Int32 × St} (h : M_ternaryOf σ v1 = some r) : Go X (some (.int r.1), (r.2, 16)) 0 [some (.ref 0), some (.int v1)] [] (σ, 16) := by
  unfold M_ternaryOf at h
  refine g_iloadN (pc := 0) K.1 d63_0 rfl ?_
  refine g_iconst (pc := 1) (v := 1) K.1 d63_1 (by decide) ?_
  rcases ifs h with ⟨hc2, h⟩ | ⟨hc2, h⟩
  · refine g_icT (pc := 2) (pc' := 7) K.1 d63_2 (by decide) ((tlt hc2).2.2.1) ?_
    refine g_iconst (pc := 7) (v := -1) K.1 d63_7 (by decide) ?_
    cases h; exact g_ireturn K.1 d63_8 (capC K)
  refine g_icF (pc := 2) K.1 d63_2 ((flt hc2).2.2.1) ?_
  refine g_iloadN (pc := 5) K.1 d63_5 rfl ?_
  cases h; exact g_ireturn K.1 d63_6 (capC K)
theorem con_M_ternaryOf (l : Launch) (Z : State) (a0 : Array Value) (hw : HW a0 Z) (n1 : Nat) (a : Addr) (ha : n1 ≤ a) {σ : St} {v1 : Int32} {r : Int32 × St} (h : M_ternaryOf σ v1 = some r) : Con l Z cC cFS cFA 16 n1 a ⟨cC, "ternaryOf", "(I)I"⟩ c63 2 (some .int) ⟨0, 0, 0, 0⟩ [.ref 0, .int v1] σ (some (.int r.1)) r.2 :=
  con_of_go pnC rfl (layW hw) lgood ha (fun X h1 K => ok_M_ternaryOf K hw h)
abbrev KM_M_writeMessage (X : Cx (St × Nat)) (Z : State) (a0 : Array Value) (l : Launch) (n1 : Nat) (a : Addr) (h0 : Heap) : Prop := CtxC X Z a0 cC cFS cFA 16 25 l n1 a h0 ce0 ⟨3, 0, 0, 48⟩ "writeMessage" c62 5 none
def M_writeMessage_w2 (NF : Nat) (k2 : Int32 → St → Option (St)) (i1 : Int32) (σ : St) : Option (St) :=
  (if i1 < (gI σ 121) then ((M_convAt NF σ (6 : Int32) (9 : Int32) i1).bind fun q16 => ((M_mod q16.2 q16.1 (3 : Int32)).bind fun q23 => ((M_ternaryOf q23.2 q23.1).bind fun q29 => ((M_store q29.2 (10 : Int32) i1 q29.1).bind fun q40 => k2 (i1 + (1 : Int32)) q40)))) else (some σ))
theorem ok_M_writeMessage_w2 {X : Cx (St × Nat)} {Z : State} {a0 : Array Value} {l : Launch} {n1 : Nat} {a : Addr} {h0 : Heap} {NF : Nat} (K : KM_M_writeMessage X Z a0 l n1 a h0) (hw : HW a0 Z) {k2 : Int32 → St → Option (St)} {i1 : Int32} {σ : St} {r : St} (hk2 : ∀ (i1 : Int32) (σ : St) (h : k2 i1 σ = some r), Go X (none, (r, 16)) 2 [some (.ref 0), some (.int i1), none, none, none] [] (σ, 16)) (h : M_writeMessage_w2 NF k2 i1 σ = some r) : Go X (none, (r, 16)) 2 [some (.ref 0), some (.int i1), none, none, none] [] (σ, 16) := by
  unfold M_writeMessage_w2 at h
  refine g_iloadN (pc := 2) K.1 d62_2 rfl ?_
  refine g_aloadN (pc := 3) K.1 d62_3 rfl ?_
  refine g_getI (pc := 4) K d62_4 (w54 hw) mf_n ?_
  rcases ifs h with ⟨hc7, h⟩ | ⟨hc7, h⟩
  · refine g_icF (pc := 7) K.1 d62_7 ((tlt hc7).2.1) ?_
    refine g_aloadN (pc := 10) K.1 d62_10 rfl ?_
    refine g_bipush (pc := 11) (v := 6) K.1 d62_11 (by decide) ?_
    refine g_bipush (pc := 13) (v := 9) K.1 d62_13 (by decide) ?_
    refine g_iloadN (pc := 15) K.1 d62_15 rfl ?_
    obtain ⟨q16, hq16, h⟩ := Option.bind_eq_some_iff.mp h
    refine g_callP (pc := 16) (vs := [.int (6 : Int32), .int (9 : Int32), .int i1]) K d62_16 (w244 hw) (w245 hw) (w246 hw) (w247 hw) hyC pd_17 rfl rfl (con_M_convAt l Z a0 hw n1 a (ctx_le K) hq16) rfl (Nat.le_of_ble_eq_true rfl) (Nat.le_of_ble_eq_true rfl) rfl rfl ?_
    refine g_istoreN (pc := 19) (L' := [some (.ref 0), some (.int i1), some (.int q16.1), none, none]) K.1 d62_19 (blt rfl) rfl ?_
    refine g_aloadN (pc := 20) K.1 d62_20 rfl ?_
    refine g_iloadN (pc := 21) K.1 d62_21 rfl ?_
    refine g_iconst (pc := 22) (v := 3) K.1 d62_22 (by decide) ?_
    obtain ⟨q23, hq23, h⟩ := Option.bind_eq_some_iff.mp h
    refine g_callP (pc := 23) (vs := [.int q16.1, .int (3 : Int32)]) K d62_23 (w93 hw) (w94 hw) (w95 hw) (w96 hw) hyC pd_0 rfl rfl (con_M_mod l Z a0 hw n1 a (ctx_le K) hq23) rfl (Nat.le_of_ble_eq_true rfl) (Nat.le_of_ble_eq_true rfl) rfl rfl ?_
    refine g_istoreN (pc := 26) (L' := [some (.ref 0), some (.int i1), some (.int q16.1), some (.int q23.1), none]) K.1 d62_26 (blt rfl) rfl ?_
    refine g_aloadN (pc := 27) K.1 d62_27 rfl ?_
    refine g_iloadN (pc := 28) K.1 d62_28 rfl ?_
    obtain ⟨q29, hq29, h⟩ := Option.bind_eq_some_iff.mp h
    refine g_callP (pc := 29) (vs := [.int q23.1]) K d62_29 (w302 hw) (w303 hw) (w304 hw) (w305 hw) hyC pd_9 rfl rfl (con_M_ternaryOf l Z a0 hw n1 a (ctx_le K) hq29) rfl (Nat.le_of_ble_eq_true rfl) (Nat.le_of_ble_eq_true rfl) rfl rfl ?_
    refine g_istore (pc := 32) (L' := [some (.ref 0), some (.int i1), some (.int q16.1), some (.int q23.1), some (.int q29.1)]) K.1 d62_32 (blt rfl) rfl ?_
    refine g_aloadN (pc := 34) K.1 d62_34 rfl ?_
    refine g_bipush (pc := 35) (v := 10) K.1 d62_35 (by decide) ?_
    refine g_iloadN (pc := 37) K.1 d62_37 rfl ?_
    refine g_iload (pc := 38) K.1 d62_38 rfl ?_
    obtain ⟨q40, hq40, h⟩ := Option.bind_eq_some_iff.mp h
    refine g_callP (pc := 40) (vs := [.int (10 : Int32), .int i1, .int q29.1]) K d62_40 (w186 hw) (w187 hw) (w188 hw) (w189 hw) hyC pd_5 rfl rfl (con_M_store l Z a0 hw n1 a (ctx_le K) hq40) rfl (Nat.le_of_ble_eq_true rfl) (Nat.le_of_ble_eq_true rfl) rfl rfl ?_
    refine g_iinc (pc := 43) (w := 1) (L' := [some (.ref 0), some (.int (i1 + (1 : Int32))), some (.int q16.1), some (.int q23.1), some (.int q29.1)]) K.1 d62_43 rfl (by decide) rfl ?_
    refine g_goto (pc := 46) (pc' := 2) K.1 d62_46 (by decide) ?_
    exact g_less (hk2 _ _ h) (ls (ls (ln (ln (ln l0)))))
  refine g_icT (pc := 7) (pc' := 49) K.1 d62_7 (by decide) ((flt hc7).2.1) ?_
  cases h; exact g_return K.1 d62_49 (capC K)
def M_writeMessage_l2 (NF : Nat)  : Nat → Int32 → St → Option (St)
  | 0 => fun _ _ => none
  | n + 1 => fun i1 σ => M_writeMessage_w2 NF  (M_writeMessage_l2 NF  n) i1 σ
theorem ok_M_writeMessage_l2 {X : Cx (St × Nat)} {Z : State} {a0 : Array Value} {l : Launch} {n1 : Nat} {a : Addr} {h0 : Heap} {NF : Nat} (K : KM_M_writeMessage X Z a0 l n1 a h0) (hw : HW a0 Z) (n : Nat)  {r : St}  : ∀ (i1 : Int32) (σ : St) (h : M_writeMessage_l2 NF  n i1 σ = some r), Go X (none, (r, 16)) 2 [some (.ref 0), some (.int i1), none, none, none] [] (σ, 16) := by
  induction n with
  | zero => intro i1 σ h; cases h
  | succ n ih => intro i1 σ h; exact ok_M_writeMessage_w2 (NF := NF) K hw  ih h
def M_writeMessage (NF : Nat) (σ : St) : Option (St) :=
  M_writeMessage_l2 NF NF (0 : Int32) σ
theorem ok_M_writeMessage {X : Cx (St × Nat)} {Z : State} {a0 : Array Value} {l : Launch} {n1 : Nat} {a : Addr} {h0 : Heap} {NF : Nat} (K : KM_M_writeMessage X Z a0 l n1 a h0) (hw : HW a0 Z) {σ : St} {r : St} (h : M_writeMessage NF σ = some r) : Go X (none, (r, 16)) 0 [some (.ref 0), none, none, none, none] [] (σ, 16) := by
  unfold M_writeMessage at h
  refine g_iconst (pc := 0) (v := 0) K.1 d62_0 (by decide) ?_
  refine g_istoreN (pc := 1) (L' := [some (.ref 0), some (.int (0 : Int32)), none, none, none]) K.1 d62_1 (blt rfl) rfl ?_
  exact ok_M_writeMessage_l2 K hw NF  _ _ h
theorem con_M_writeMessage (l : Launch) (Z : State) (a0 : Array Value) (hw : HW a0 Z) (n1 : Nat) (a : Addr) (ha : n1 ≤ a) {NF : Nat} {σ : St} {r : St} (h : M_writeMessage NF σ = some r) : Con l Z cC cFS cFA 16 n1 a ⟨cC, "writeMessage", "()V"⟩ c62 5 none ⟨3, 0, 0, 48⟩ [.ref 0] σ none r :=
  con_of_go pnC rfl (layW hw) lgood ha (fun X h1 K => ok_M_writeMessage K hw h)
abbrev KM_M_decrypt (X : Cx (St × Nat)) (Z : State) (a0 : Array Value) (l : Launch) (n1 : Nat) (a : Addr) (h0 : Heap) : Prop := CtxC X Z a0 cC cFS cFA 16 25 l n1 a h0 ce0 ⟨4, 0, 0, 64⟩ "decrypt" c59 1 (some .int)
def M_decrypt (NF : Nat) (σ : St) : Option (Int32 × St) :=
  (if (gI σ 124) = 0 then (some ((1 : Int32), σ)) else ((M_writeCentred NF σ).bind fun q10 => ((M_writeMessage NF q10).bind fun q14 => (some ((0 : Int32), q14)))))
theorem ok_M_decrypt {X : Cx (St × Nat)} {Z : State} {a0 : Array Value} {l : Launch} {n1 : Nat} {a : Addr} {h0 : Heap} {NF : Nat} (K : KM_M_decrypt X Z a0 l n1 a h0) (hw : HW a0 Z) {σ : St} {r : Int32 × St} (h : M_decrypt NF σ = some r) : Go X (some (.int r.1), (r.2, 16)) 0 [some (.ref 0)] [] (σ, 16) := by
  unfold M_decrypt at h
  refine g_aloadN (pc := 0) K.1 d59_0 rfl ?_
  refine g_getI (pc := 1) K d59_1 (w64 hw) mf_keyed ?_
  rcases ifs h with ⟨hc4, h⟩ | ⟨hc4, h⟩
  · refine g_ifF (pc := 4) K.1 d59_4 ((if0 _ _).trans (teq hc4).2) ?_
    refine g_iconst (pc := 7) (v := 1) K.1 d59_7 (by decide) ?_
    cases h; exact g_ireturn K.1 d59_8 (capC K)
  refine g_ifT (pc := 4) (pc' := 9) K.1 d59_4 (by decide) ((if0 _ _).trans (feq hc4).2) ?_
  refine g_aloadN (pc := 9) K.1 d59_9 rfl ?_
  obtain ⟨q10, hq10, h⟩ := Option.bind_eq_some_iff.mp h
  refine g_callP (pc := 10) (vs := []) K d59_10 (w290 hw) (w291 hw) (w292 hw) (w293 hw) hyC pd_14 rfl rfl (con_M_writeCentred l Z a0 hw n1 a (ctx_le K) hq10) rfl (Nat.le_of_ble_eq_true rfl) (Nat.le_of_ble_eq_true rfl) rfl rfl ?_
  refine g_aloadN (pc := 13) K.1 d59_13 rfl ?_
  obtain ⟨q14, hq14, h⟩ := Option.bind_eq_some_iff.mp h
  refine g_callP (pc := 14) (vs := []) K d59_14 (w298 hw) (w299 hw) (w300 hw) (w301 hw) hyC pd_14 rfl rfl (con_M_writeMessage l Z a0 hw n1 a (ctx_le K) hq14) rfl (Nat.le_of_ble_eq_true rfl) (Nat.le_of_ble_eq_true rfl) rfl rfl ?_
  refine g_iconst (pc := 17) (v := 0) K.1 d59_17 (by decide) ?_
  cases h; exact g_ireturn K.1 d59_18 (capC K)
theorem con_M_decrypt (l : Launch) (Z : State) (a0 : Array Value) (hw : HW a0 Z) (n1 : Nat) (a : Addr) (ha : n1 ≤ a) {NF : Nat} {σ : St} {r : Int32 × St} (h : M_decrypt NF σ = some r) : Con l Z cC cFS cFA 16 n1 a ⟨cC, "decrypt", "()I"⟩ c59 1 (some .int) ⟨4, 0, 0, 64⟩ [.ref 0] σ (some (.int r.1)) r.2 :=
  con_of_go pnC rfl (layW hw) lgood ha (fun X h1 K => ok_M_decrypt K hw h)
abbrev KM_M_clampInt (X : Cx (St × Nat)) (Z : State) (a0 : Array Value) (l : Launch) (n1 : Nat) (a : Addr) (h0 : Heap) : Prop := CtxC X Z a0 cC cFS cFA 16 25 l n1 a h0 ce0 ⟨0, 0, 0, 0⟩ "clampInt" c65 4 (some .int)
def M_clampInt (σ : St) (v1 : Int32) (v2 : Int32) (v3 : Int32) : Option (Int32 × St) :=
  (if v1 < v2 then (some (v2, σ)) else (if v3 < v1 then (some (v3, σ)) else (some (v1, σ))))
theorem ok_M_clampInt {X : Cx (St × Nat)} {Z : State} {a0 : Array Value} {l : Launch} {n1 : Nat} {a : Addr} {h0 : Heap} (K : KM_M_clampInt X Z a0 l n1 a h0) (hw : HW a0 Z) {σ : St} {v1 : Int32} {v2 : Int32} {v3 : Int32} {r : Int32 × St} (h : M_clampInt σ v1 v2 v3 = some r) : Go X (some (.int r.1), (r.2, 16)) 0 [some (.ref 0), some (.int v1), some (.int v2), some (.int v3)] [] (σ, 16) := by
  unfold M_clampInt at h
  refine g_iloadN (pc := 0) K.1 d65_0 rfl ?_
  refine g_iloadN (pc := 1) K.1 d65_1 rfl ?_
  rcases ifs h with ⟨hc2, h⟩ | ⟨hc2, h⟩
  · refine g_icF (pc := 2) K.1 d65_2 ((tlt hc2).2.1) ?_
    refine g_iloadN (pc := 5) K.1 d65_5 rfl ?_
    cases h; exact g_ireturn K.1 d65_6 (capC K)
  refine g_icT (pc := 2) (pc' := 7) K.1 d65_2 (by decide) ((flt hc2).2.1) ?_
  refine g_iloadN (pc := 7) K.1 d65_7 rfl ?_
  refine g_iloadN (pc := 8) K.1 d65_8 rfl ?_
  rcases ifs h with ⟨hc9, h⟩ | ⟨hc9, h⟩
  · refine g_icF (pc := 9) K.1 d65_9 ((tlt hc9).2.2.2) ?_
    refine g_iloadN (pc := 12) K.1 d65_12 rfl ?_
    cases h; exact g_ireturn K.1 d65_13 (capC K)
  refine g_icT (pc := 9) (pc' := 14) K.1 d65_9 (by decide) ((flt hc9).2.2.2) ?_
  refine g_iloadN (pc := 14) K.1 d65_14 rfl ?_
  cases h; exact g_ireturn K.1 d65_15 (capC K)
theorem con_M_clampInt (l : Launch) (Z : State) (a0 : Array Value) (hw : HW a0 Z) (n1 : Nat) (a : Addr) (ha : n1 ≤ a) {σ : St} {v1 : Int32} {v2 : Int32} {v3 : Int32} {r : Int32 × St} (h : M_clampInt σ v1 v2 v3 = some r) : Con l Z cC cFS cFA 16 n1 a ⟨cC, "clampInt", "(III)I"⟩ c65 4 (some .int) ⟨0, 0, 0, 0⟩ [.ref 0, .int v1, .int v2, .int v3] σ (some (.int r.1)) r.2 :=
  con_of_go pnC rfl (layW hw) lgood ha (fun X h1 K => ok_M_clampInt K hw h)
abbrev KM_M_powerOfTwo (X : Cx (St × Nat)) (Z : State) (a0 : Array Value) (l : Launch) (n1 : Nat) (a : Addr) (h0 : Heap) : Prop := CtxC X Z a0 cC cFS cFA 16 25 l n1 a h0 ce0 ⟨0, 0, 0, 0⟩ "powerOfTwo" c66 4 (some .int)
def M_powerOfTwo_w4 (NF : Nat) (k4 : Int32 → Int32 → Int32 → St → Option (Int32 × St)) (i1 : Int32) (i2 : Int32) (i3 : Int32) (σ : St) : Option (Int32 × St) :=
  (if i3 < i1 then (if i3 < (30 : Int32) then k4 i1 (i2 * (2 : Int32)) (i3 + (1 : Int32)) σ else (some (i2, σ))) else (some (i2, σ)))
theorem ok_M_powerOfTwo_w4 {X : Cx (St × Nat)} {Z : State} {a0 : Array Value} {l : Launch} {n1 : Nat} {a : Addr} {h0 : Heap} {NF : Nat} (K : KM_M_powerOfTwo X Z a0 l n1 a h0) (hw : HW a0 Z) {k4 : Int32 → Int32 → Int32 → St → Option (Int32 × St)} {i1 : Int32} {i2 : Int32} {i3 : Int32} {σ : St} {r : Int32 × St} (hk4 : ∀ (i1 : Int32) (i2 : Int32) (i3 : Int32) (σ : St) (h : k4 i1 i2 i3 σ = some r), Go X (some (.int r.1), (r.2, 16)) 4 [none, some (.int i1), some (.int i2), some (.int i3)] [] (σ, 16)) (h : M_powerOfTwo_w4 NF k4 i1 i2 i3 σ = some r) : Go X (some (.int r.1), (r.2, 16)) 4 [none, some (.int i1), some (.int i2), some (.int i3)] [] (σ, 16) := by
  unfold M_powerOfTwo_w4 at h
  refine g_iloadN (pc := 4) K.1 d66_4 rfl ?_
  refine g_iloadN (pc := 5) K.1 d66_5 rfl ?_
  rcases ifs h with ⟨hc6, h⟩ | ⟨hc6, h⟩
  · refine g_icF (pc := 6) K.1 d66_6 ((tlt hc6).2.1) ?_
    refine g_iloadN (pc := 9) K.1 d66_9 rfl ?_
    refine g_bipush (pc := 10) (v := 30) K.1 d66_10 (by decide) ?_
    rcases ifs h with ⟨hc12, h⟩ | ⟨hc12, h⟩
    · refine g_icF (pc := 12) K.1 d66_12 ((tlt hc12).2.1) ?_
      refine g_iloadN (pc := 15) K.1 d66_15 rfl ?_
      refine g_iconst (pc := 16) (v := 2) K.1 d66_16 (by decide) ?_
      refine g_imul (pc := 17) K.1 d66_17 ?_
      refine g_istoreN (pc := 18) (L' := [none, some (.int i1), some (.int (i2 * (2 : Int32))), some (.int i3)]) K.1 d66_18 (blt rfl) rfl ?_
      refine g_iinc (pc := 19) (w := 1) (L' := [none, some (.int i1), some (.int (i2 * (2 : Int32))), some (.int (i3 + (1 : Int32)))]) K.1 d66_19 rfl (by decide) rfl ?_
      refine g_goto (pc := 22) (pc' := 4) K.1 d66_22 (by decide) ?_
      exact hk4 _ _ _ _ h
    refine g_icT (pc := 12) (pc' := 25) K.1 d66_12 (by decide) ((flt hc12).2.1) ?_
    refine g_iloadN (pc := 25) K.1 d66_25 rfl ?_
    cases h; exact g_ireturn K.1 d66_26 (capC K)
  refine g_icT (pc := 6) (pc' := 25) K.1 d66_6 (by decide) ((flt hc6).2.1) ?_
  refine g_iloadN (pc := 25) K.1 d66_25 rfl ?_
  cases h; exact g_ireturn K.1 d66_26 (capC K)
def M_powerOfTwo_l4 (NF : Nat)  : Nat → Int32 → Int32 → Int32 → St → Option (Int32 × St)
  | 0 => fun _ _ _ _ => none
  | n + 1 => fun i1 i2 i3 σ => M_powerOfTwo_w4 NF  (M_powerOfTwo_l4 NF  n) i1 i2 i3 σ
theorem ok_M_powerOfTwo_l4 {X : Cx (St × Nat)} {Z : State} {a0 : Array Value} {l : Launch} {n1 : Nat} {a : Addr} {h0 : Heap} {NF : Nat} (K : KM_M_powerOfTwo X Z a0 l n1 a h0) (hw : HW a0 Z) (n : Nat)  {r : Int32 × St}  : ∀ (i1 : Int32) (i2 : Int32) (i3 : Int32) (σ : St) (h : M_powerOfTwo_l4 NF  n i1 i2 i3 σ = some r), Go X (some (.int r.1), (r.2, 16)) 4 [none, some (.int i1), some (.int i2), some (.int i3)] [] (σ, 16) := by
  induction n with
  | zero => intro i1 i2 i3 σ h; cases h
  | succ n ih => intro i1 i2 i3 σ h; exact ok_M_powerOfTwo_w4 (NF := NF) K hw  ih h
def M_powerOfTwo (NF : Nat) (σ : St) (v1 : Int32) : Option (Int32 × St) :=
  M_powerOfTwo_l4 NF NF v1 (1 : Int32) (0 : Int32) σ
theorem ok_M_powerOfTwo {X : Cx (St × Nat)} {Z : State} {a0 : Array Value} {l : Launch} {n1 : Nat} {a : Addr} {h0 : Heap} {NF : Nat} (K : KM_M_powerOfTwo X Z a0 l n1 a h0) (hw : HW a0 Z) {σ : St} {v1 : Int32} {r : Int32 × St} (h : M_powerOfTwo NF σ v1 = some r) : Go X (some (.int r.1), (r.2, 16)) 0 [some (.ref 0), some (.int v1), none, none] [] (σ, 16) := by
  unfold M_powerOfTwo at h
  refine g_iconst (pc := 0) (v := 1) K.1 d66_0 (by decide) ?_
  refine g_istoreN (pc := 1) (L' := [some (.ref 0), some (.int v1), some (.int (1 : Int32)), none]) K.1 d66_1 (blt rfl) rfl ?_
  refine g_iconst (pc := 2) (v := 0) K.1 d66_2 (by decide) ?_
  refine g_istoreN (pc := 3) (L' := [some (.ref 0), some (.int v1), some (.int (1 : Int32)), some (.int (0 : Int32))]) K.1 d66_3 (blt rfl) rfl ?_
  exact g_less (ok_M_powerOfTwo_l4 K hw NF  _ _ _ _ h) (ln (ls (ls (ls l0))))
theorem con_M_powerOfTwo (l : Launch) (Z : State) (a0 : Array Value) (hw : HW a0 Z) (n1 : Nat) (a : Addr) (ha : n1 ≤ a) {NF : Nat} {σ : St} {v1 : Int32} {r : Int32 × St} (h : M_powerOfTwo NF σ v1 = some r) : Con l Z cC cFS cFA 16 n1 a ⟨cC, "powerOfTwo", "(I)I"⟩ c66 4 (some .int) ⟨0, 0, 0, 0⟩ [.ref 0, .int v1] σ (some (.int r.1)) r.2 :=
  con_of_go pnC rfl (layW hw) lgood ha (fun X h1 K => ok_M_powerOfTwo K hw h)
abbrev KM_M_init (X : Cx (St × Nat)) (Z : State) (a0 : Array Value) (l : Launch) (n1 : Nat) (a : Addr) (h0 : Heap) : Prop := CtxC X Z a0 cC cFS cFA 16 25 l n1 a h0 (ceI cFA) ⟨1, 16, 561, 16⟩ "<init>" c64 5 none
def M_init (NF : Nat) (v1 : Int32) (v2 : Int32) : Option (St) :=
  ((M_clampInt (sI (sI (sI (sI z0 142 (11 : Int32)) 143 (12 : Int32)) 144 (13 : Int32)) 145 (14 : Int32)) v1 (5 : Int32) (17 : Int32)).bind fun q162 => ((M_clampInt q162.2 v2 (5 : Int32) (8 : Int32)).bind fun q171 => ((M_powerOfTwo NF (sI q171.2 121 q162.1) q171.1).bind fun q185 => (some (sI (sI (sI (sI q185.2 122 q185.1) 123 (((gI (sI q185.2 122 q185.1) 122) / (8 : Int32)) - (1 : Int32))) 124 (0 : Int32)) 125 (0 : Int32))))))
theorem ok_M_init {X : Cx (St × Nat)} {Z : State} {a0 : Array Value} {l : Launch} {n1 : Nat} {a : Addr} {h0 : Heap} {NF : Nat} (K : KM_M_init X Z a0 l n1 a h0) (hw : HW a0 Z) (hh : h0.size = a + 1) {v1 : Int32} {v2 : Int32} {r : St} (h : M_init NF v1 v2 = some r) : Go X (none, (r, 16)) 0 [some (.ref 0), some (.int v1), some (.int v2), none, none] [] (z0, 0) := by
  unfold M_init at h
  refine g_aloadN (pc := 0) K.1 d64_0 rfl ?_
  refine g_objinit (pc := 1) K d64_1 (w6 hw) (w7 hw) (w8 hw) rfl (by decide) (by decide) ?_
  refine g_aloadN (pc := 4) K.1 d64_4 rfl ?_
  refine g_bipush (pc := 5) (v := 17) K.1 d64_5 (by decide) ?_
  refine g_newput (pc := 7) (j := 0) K d64_7 d64_9 (w9 hw) (w10 hw) mf_f (Or.inl (w11 hw)) pfd_AI (fun _ => rfl) (fun _ => rfl) (Or.inl rfl) ma_f rfl rfl (by decide) (by decide) (by decide) hh rfl (by decide) (by decide) (by decide) (fun _ => rfl) ?_
  refine g_aloadN (pc := 12) K.1 d64_12 rfl ?_
  refine g_bipush (pc := 13) (v := 17) K.1 d64_13 (by decide) ?_
  refine g_newput (pc := 15) (j := 1) K d64_15 d64_17 (w9 hw) (w12 hw) mf_g (Or.inl (w13 hw)) pfd_AI (fun _ => rfl) (fun _ => rfl) (Or.inl rfl) ma_g rfl rfl (by decide) (by decide) (by decide) hh rfl (by decide) (by decide) (by decide) (fun _ => rfl) ?_
  refine g_aloadN (pc := 20) K.1 d64_20 rfl ?_
  refine g_bipush (pc := 21) (v := 17) K.1 d64_21 (by decide) ?_
  refine g_newput (pc := 23) (j := 2) K d64_23 d64_25 (w9 hw) (w14 hw) mf_m (Or.inl (w15 hw)) pfd_AI (fun _ => rfl) (fun _ => rfl) (Or.inl rfl) ma_m rfl rfl (by decide) (by decide) (by decide) hh rfl (by decide) (by decide) (by decide) (fun _ => rfl) ?_
  refine g_aloadN (pc := 28) K.1 d64_28 rfl ?_
  refine g_bipush (pc := 29) (v := 17) K.1 d64_29 (by decide) ?_
  refine g_newput (pc := 31) (j := 3) K d64_31 d64_33 (w9 hw) (w16 hw) mf_r (Or.inl (w17 hw)) pfd_AI (fun _ => rfl) (fun _ => rfl) (Or.inl rfl) ma_r rfl rfl (by decide) (by decide) (by decide) hh rfl (by decide) (by decide) (by decide) (fun _ => rfl) ?_
  refine g_aloadN (pc := 36) K.1 d64_36 rfl ?_
  refine g_bipush (pc := 37) (v := 17) K.1 d64_37 (by decide) ?_
  refine g_newput (pc := 39) (j := 4) K d64_39 d64_41 (w9 hw) (w18 hw) mf_c (Or.inl (w19 hw)) pfd_AI (fun _ => rfl) (fun _ => rfl) (Or.inl rfl) ma_c rfl rfl (by decide) (by decide) (by decide) hh rfl (by decide) (by decide) (by decide) (fun _ => rfl) ?_
  refine g_aloadN (pc := 44) K.1 d64_44 rfl ?_
  refine g_bipush (pc := 45) (v := 17) K.1 d64_45 (by decide) ?_
  refine g_newput (pc := 47) (j := 5) K d64_47 d64_49 (w9 hw) (w20 hw) mf_kf (Or.inl (w21 hw)) pfd_AI (fun _ => rfl) (fun _ => rfl) (Or.inl rfl) ma_kf rfl rfl (by decide) (by decide) (by decide) hh rfl (by decide) (by decide) (by decide) (fun _ => rfl) ?_
  refine g_aloadN (pc := 52) K.1 d64_52 rfl ?_
  refine g_bipush (pc := 53) (v := 17) K.1 d64_53 (by decide) ?_
  refine g_newput (pc := 55) (j := 6) K d64_55 d64_57 (w9 hw) (w22 hw) mf_fp (Or.inl (w23 hw)) pfd_AI (fun _ => rfl) (fun _ => rfl) (Or.inl rfl) ma_fp rfl rfl (by decide) (by decide) (by decide) hh rfl (by decide) (by decide) (by decide) (fun _ => rfl) ?_
  refine g_aloadN (pc := 60) K.1 d64_60 rfl ?_
  refine g_bipush (pc := 61) (v := 17) K.1 d64_61 (by decide) ?_
  refine g_newput (pc := 63) (j := 7) K d64_63 d64_65 (w9 hw) (w24 hw) mf_fq (Or.inl (w25 hw)) pfd_AI (fun _ => rfl) (fun _ => rfl) (Or.inl rfl) ma_fq rfl rfl (by decide) (by decide) (by decide) hh rfl (by decide) (by decide) (by decide) (fun _ => rfl) ?_
  refine g_aloadN (pc := 68) K.1 d64_68 rfl ?_
  refine g_bipush (pc := 69) (v := 17) K.1 d64_69 (by decide) ?_
  refine g_newput (pc := 71) (j := 8) K d64_71 d64_73 (w9 hw) (w26 hw) mf_h (Or.inl (w27 hw)) pfd_AI (fun _ => rfl) (fun _ => rfl) (Or.inl rfl) ma_h rfl rfl (by decide) (by decide) (by decide) hh rfl (by decide) (by decide) (by decide) (fun _ => rfl) ?_
  refine g_aloadN (pc := 76) K.1 d64_76 rfl ?_
  refine g_bipush (pc := 77) (v := 17) K.1 d64_77 (by decide) ?_
  refine g_newput (pc := 79) (j := 9) K d64_79 d64_81 (w9 hw) (w28 hw) mf_a (Or.inl (w29 hw)) pfd_AI (fun _ => rfl) (fun _ => rfl) (Or.inl rfl) ma_a rfl rfl (by decide) (by decide) (by decide) hh rfl (by decide) (by decide) (by decide) (fun _ => rfl) ?_
  refine g_aloadN (pc := 84) K.1 d64_84 rfl ?_
  refine g_bipush (pc := 85) (v := 17) K.1 d64_85 (by decide) ?_
  refine g_newput (pc := 87) (j := 10) K d64_87 d64_89 (w9 hw) (w30 hw) mf_d (Or.inl (w31 hw)) pfd_AI (fun _ => rfl) (fun _ => rfl) (Or.inl rfl) ma_d rfl rfl (by decide) (by decide) (by decide) hh rfl (by decide) (by decide) (by decide) (fun _ => rfl) ?_
  refine g_aloadN (pc := 92) K.1 d64_92 rfl ?_
  refine g_sipush (pc := 93) (v := 306) K.1 d64_93 (by decide) ?_
  refine g_newput (pc := 96) (j := 11) K d64_96 d64_98 (w9 hw) (w32 hw) mf_mat (Or.inl (w33 hw)) pfd_AI (fun _ => rfl) (fun _ => rfl) (Or.inl rfl) ma_mat rfl rfl (by decide) (by decide) (by decide) hh rfl (by decide) (by decide) (by decide) (fun _ => rfl) ?_
  refine g_aloadN (pc := 101) K.1 d64_101 rfl ?_
  refine g_bipush (pc := 102) (v := 17) K.1 d64_102 (by decide) ?_
  refine g_newput (pc := 104) (j := 12) K d64_104 d64_106 (w9 hw) (w34 hw) mf_invP (Or.inl (w35 hw)) pfd_AI (fun _ => rfl) (fun _ => rfl) (Or.inl rfl) ma_invP rfl rfl (by decide) (by decide) (by decide) hh rfl (by decide) (by decide) (by decide) (fun _ => rfl) ?_
  refine g_aloadN (pc := 109) K.1 d64_109 rfl ?_
  refine g_bipush (pc := 110) (v := 17) K.1 d64_110 (by decide) ?_
  refine g_newput (pc := 112) (j := 13) K d64_112 d64_114 (w9 hw) (w36 hw) mf_invQ (Or.inl (w37 hw)) pfd_AI (fun _ => rfl) (fun _ => rfl) (Or.inl rfl) ma_invQ rfl rfl (by decide) (by decide) (by decide) hh rfl (by decide) (by decide) (by decide) (fun _ => rfl) ?_
  refine g_aloadN (pc := 117) K.1 d64_117 rfl ?_
  refine g_bipush (pc := 118) (v := 17) K.1 d64_118 (by decide) ?_
  refine g_newput (pc := 120) (j := 14) K d64_120 d64_122 (w9 hw) (w38 hw) mf_lift (Or.inl (w39 hw)) pfd_AI (fun _ => rfl) (fun _ => rfl) (Or.inl rfl) ma_lift rfl rfl (by decide) (by decide) (by decide) hh rfl (by decide) (by decide) (by decide) (fun _ => rfl) ?_
  refine g_aloadN (pc := 125) K.1 d64_125 rfl ?_
  refine g_bipush (pc := 126) (v := 17) K.1 d64_126 (by decide) ?_
  refine g_newput (pc := 128) (j := 15) K d64_128 d64_130 (w9 hw) (w40 hw) mf_lift2 (Or.inl (w41 hw)) pfd_AI (fun _ => rfl) (fun _ => rfl) (Or.inl rfl) ma_lift2 rfl rfl (by decide) (by decide) (by decide) hh rfl (by decide) (by decide) (by decide) (fun _ => rfl) ?_
  refine g_aloadN (pc := 133) K.1 d64_133 rfl ?_
  refine g_bipush (pc := 134) (v := 11) K.1 d64_134 (by decide) ?_
  refine g_putI (pc := 136) (t := .int) (v' := (11 : Int32)) K d64_136 (w42 hw) mf_selInvP (Or.inl (w43 hw)) pfd_I rfl rfl ?_
  refine g_aloadN (pc := 139) K.1 d64_139 rfl ?_
  refine g_bipush (pc := 140) (v := 12) K.1 d64_140 (by decide) ?_
  refine g_putI (pc := 142) (t := .int) (v' := (12 : Int32)) K d64_142 (w44 hw) mf_selInvQ (Or.inl (w45 hw)) pfd_I rfl rfl ?_
  refine g_aloadN (pc := 145) K.1 d64_145 rfl ?_
  refine g_bipush (pc := 146) (v := 13) K.1 d64_146 (by decide) ?_
  refine g_putI (pc := 148) (t := .int) (v' := (13 : Int32)) K d64_148 (w46 hw) mf_selLift (Or.inl (w47 hw)) pfd_I rfl rfl ?_
  refine g_aloadN (pc := 151) K.1 d64_151 rfl ?_
  refine g_bipush (pc := 152) (v := 14) K.1 d64_152 (by decide) ?_
  refine g_putI (pc := 154) (t := .int) (v' := (14 : Int32)) K d64_154 (w48 hw) mf_selLift2 (Or.inl (w49 hw)) pfd_I rfl rfl ?_
  refine g_aloadN (pc := 157) K.1 d64_157 rfl ?_
  refine g_iloadN (pc := 158) K.1 d64_158 rfl ?_
  refine g_iconst (pc := 159) (v := 5) K.1 d64_159 (by decide) ?_
  refine g_bipush (pc := 160) (v := 17) K.1 d64_160 (by decide) ?_
  obtain ⟨q162, hq162, h⟩ := Option.bind_eq_some_iff.mp h
  refine g_callP (pc := 162) (vs := [.int v1, .int (5 : Int32), .int (17 : Int32)]) K d64_162 (w50 hw) (w51 hw) (w52 hw) (w53 hw) hyC pd_17 rfl rfl (con_M_clampInt l Z a0 hw n1 a (ctx_le K) hq162) rfl (Nat.le_of_ble_eq_true rfl) (Nat.le_of_ble_eq_true rfl) rfl rfl ?_
  refine g_istoreN (pc := 165) (L' := [some (.ref 0), some (.int v1), some (.int v2), some (.int q162.1), none]) K.1 d64_165 (blt rfl) rfl ?_
  refine g_aloadN (pc := 166) K.1 d64_166 rfl ?_
  refine g_iloadN (pc := 167) K.1 d64_167 rfl ?_
  refine g_iconst (pc := 168) (v := 5) K.1 d64_168 (by decide) ?_
  refine g_bipush (pc := 169) (v := 8) K.1 d64_169 (by decide) ?_
  obtain ⟨q171, hq171, h⟩ := Option.bind_eq_some_iff.mp h
  refine g_callP (pc := 171) (vs := [.int v2, .int (5 : Int32), .int (8 : Int32)]) K d64_171 (w50 hw) (w51 hw) (w52 hw) (w53 hw) hyC pd_17 rfl rfl (con_M_clampInt l Z a0 hw n1 a (ctx_le K) hq171) rfl (Nat.le_of_ble_eq_true rfl) (Nat.le_of_ble_eq_true rfl) rfl rfl ?_
  refine g_istore (pc := 174) (L' := [some (.ref 0), some (.int v1), some (.int v2), some (.int q162.1), some (.int q171.1)]) K.1 d64_174 (blt rfl) rfl ?_
  refine g_aloadN (pc := 176) K.1 d64_176 rfl ?_
  refine g_iloadN (pc := 177) K.1 d64_177 rfl ?_
  refine g_putI (pc := 178) (t := .int) (v' := q162.1) K d64_178 (w54 hw) mf_n (Or.inl (w55 hw)) pfd_I rfl rfl ?_
  refine g_aloadN (pc := 181) K.1 d64_181 rfl ?_
  refine g_aloadN (pc := 182) K.1 d64_182 rfl ?_
  refine g_iload (pc := 183) K.1 d64_183 rfl ?_
  obtain ⟨q185, hq185, h⟩ := Option.bind_eq_some_iff.mp h
  refine g_callP (pc := 185) (vs := [.int q171.1]) K d64_185 (w56 hw) (w57 hw) (w58 hw) (w59 hw) hyC pd_9 rfl rfl (con_M_powerOfTwo l Z a0 hw n1 a (ctx_le K) hq185) rfl (Nat.le_of_ble_eq_true rfl) (Nat.le_of_ble_eq_true rfl) rfl rfl ?_
  refine g_putI (pc := 188) (t := .int) (v' := q185.1) K d64_188 (w60 hw) mf_q (Or.inl (w61 hw)) pfd_I rfl rfl ?_
  refine g_aloadN (pc := 191) K.1 d64_191 rfl ?_
  refine g_aloadN (pc := 192) K.1 d64_192 rfl ?_
  refine g_getI (pc := 193) K d64_193 (w60 hw) mf_q ?_
  refine g_bipush (pc := 196) (v := 8) K.1 d64_196 (by decide) ?_
  refine g_idiv (pc := 198) K.1 d64_198 (by decide) ?_
  refine g_iconst (pc := 199) (v := 1) K.1 d64_199 (by decide) ?_
  refine g_isub (pc := 200) K.1 d64_200 ?_
  refine g_putI (pc := 201) (t := .int) (v' := (((gI (sI q185.2 122 q185.1) 122) / (8 : Int32)) - (1 : Int32))) K d64_201 (w62 hw) mf_bound (Or.inl (w63 hw)) pfd_I rfl rfl ?_
  refine g_aloadN (pc := 204) K.1 d64_204 rfl ?_
  refine g_iconst (pc := 205) (v := 0) K.1 d64_205 (by decide) ?_
  refine g_putI (pc := 206) (t := .boolean) (v' := (0 : Int32)) K d64_206 (w64 hw) mf_keyed (Or.inl (w65 hw)) pfd_Z rfl rfl ?_
  refine g_aloadN (pc := 209) K.1 d64_209 rfl ?_
  refine g_iconst (pc := 210) (v := 0) K.1 d64_210 (by decide) ?_
  refine g_putI (pc := 211) (t := .int) (v' := (0 : Int32)) K d64_211 (w66 hw) mf_keys (Or.inl (w67 hw)) pfd_I rfl rfl ?_
  cases h; exact g_return K.1 d64_214 (capC K)
theorem con_M_init (l : Launch) (Z : State) (a0 : Array Value) (hw : HW a0 Z) (n1 : Nat) (a : Addr) (ha : n1 ≤ a) {NF : Nat} {v1 : Int32} {v2 : Int32} {r : St} (h : M_init NF v1 v2 = some r) : ConI l Z cC cFS cFA 16 n1 a ⟨cC, "<init>", "(II)V"⟩ c64 5 ⟨1, 16, 561, 16⟩ [.ref 0, .int v1, .int v2] r :=
  coni_of_go pnC rfl (layW hw) lgood ha (by decide) (by decide) (fun X h1 hh K => ok_M_init K hw hh h)
abbrev KM_LAW (X : Cx (List (St × Nat))) (Z : State) (a0 : Array Value) (l : Launch) (n1 : Nat) (sc : Addr) (H0 : Heap) : Prop := CtxL X Z a0 cC cFS cFA 16 25 l n1 sc H0 (ceL 25 cFA) ⟨10, 80, 2432, 224⟩ 80 2432 "NtruToyL5" "law" code 9 (some .boolean)
def LAW_b261 (NF : Nat) (z : Int32) (f : Int → Int32) (k22 : Int32 → St → St → Option (Int32 × List (St × Nat))) (i3 : Int32) (x0 : St) (x1 : St) : Option (Int32 × List (St × Nat)) :=
  ((H_same NF z f x0 x1).bind fun q263 => (if q263.1 = 0 then (some ((0 : Int32), [(q263.2.1, 16), (q263.2.2, 16)])) else k22 (i3 + (4 : Int32)) q263.2.1 q263.2.2))
theorem ok_LAW_b261 {X : Cx (List (St × Nat))} {Z : State} {a0 : Array Value} {l : Launch} {n1 : Nat} {sc : Addr} {H0 : Heap} {NF : Nat} {z : Int32} {f : Int → Int32} (K : KM_LAW X Z a0 l n1 sc H0) (hw : HW a0 Z) (hS : Script Z H0 sc z f) (hs0 : hsz X = n1) {k22 : Int32 → St → St → Option (Int32 × List (St × Nat))} {i3 : Int32} {x0 : St} {x1 : St} {r : Int32 × List (St × Nat)} (hk22 : ∀ (i3 : Int32) (x0 : St) (x1 : St) (h : k22 i3 x0 x1 = some r), Go X (some (.int r.1), r.2) 22 [some (.ref 100), some (.ref 0), some (.ref 1), some (.int i3), none, none, none, none, none] [] [(x0, 16), (x1, 16)]) (h : LAW_b261 NF z f k22 i3 x0 x1 = some r) : Go X (some (.int r.1), r.2) 261 [some (.ref 100), some (.ref 0), some (.ref 1), some (.int i3), none, none, none, none, none] [] [(x0, 16), (x1, 16)] := by
  unfold LAW_b261 at h
  refine g_aloadN (pc := 261) K.1 at_261 rfl ?_
  refine g_aloadN (pc := 262) K.1 at_262 rfl ?_
  obtain ⟨q263, hq263, h⟩ := Option.bind_eq_some_iff.mp h
  refine l_static (pc := 263) (vs := [.ref 0, .ref 1]) (W' := [(q263.2.1, 16), (q263.2.2, 16)]) K at_263 (w129 hw) (w130 hw) (w131 hw) (w132 hw) hyL pd_4 rfl rfl (con_H_same l Z a0 hw n1 sc H0 hS (ctxl_sz K) hq263) rfl (ble rfl) (ble rfl) rfl rfl (ceL_eq rfl) (capJ1 cj_16_16 rfl) (capJ2 cj_16_16 rfl) ?_
  rcases ifs h with ⟨hc266, h⟩ | ⟨hc266, h⟩
  · refine g_ifF (pc := 266) K.1 at_266 ((if0 _ _).trans (teq hc266).2) ?_
    refine g_iconst (pc := 269) (v := 0) K.1 at_269 (by decide) ?_
    cases h; exact g_ireturnN (t := .boolean) K.1 rfl (Or.inl rfl) at_270 rfl (capL K (capJ1 cj_16_16 rfl) (capJ2 cj_16_16 rfl))
  refine g_ifT (pc := 266) (pc' := 271) K.1 at_266 (by decide) ((if0 _ _).trans (feq hc266).2) ?_
  refine g_iinc (pc := 271) (w := 4) (L' := [some (.ref 100), some (.ref 0), some (.ref 1), some (.int (i3 + (4 : Int32))), none, none, none, none, none]) K.1 at_271 rfl (by decide) rfl ?_
  refine g_goto (pc := 274) (pc' := 22) K.1 at_274 (by decide) ?_
  exact hk22 _ _ _ h
def LAW_b96 (NF : Nat) (z : Int32) (f : Int → Int32) (k22 : Int32 → St → St → Option (Int32 × List (St × Nat))) (i3 : Int32) (x0 : St) (x1 : St) : Option (Int32 × List (St × Nat)) :=
  LAW_b261 NF z f k22 i3 x0 x1
theorem ok_LAW_b96 {X : Cx (List (St × Nat))} {Z : State} {a0 : Array Value} {l : Launch} {n1 : Nat} {sc : Addr} {H0 : Heap} {NF : Nat} {z : Int32} {f : Int → Int32} (K : KM_LAW X Z a0 l n1 sc H0) (hw : HW a0 Z) (hS : Script Z H0 sc z f) (hs0 : hsz X = n1) {k22 : Int32 → St → St → Option (Int32 × List (St × Nat))} {i3 : Int32} {x0 : St} {x1 : St} {r : Int32 × List (St × Nat)} (hk22 : ∀ (i3 : Int32) (x0 : St) (x1 : St) (h : k22 i3 x0 x1 = some r), Go X (some (.int r.1), r.2) 22 [some (.ref 100), some (.ref 0), some (.ref 1), some (.int i3), none, none, none, none, none] [] [(x0, 16), (x1, 16)]) (h : LAW_b96 NF z f k22 i3 x0 x1 = some r) : Go X (some (.int r.1), r.2) 96 [some (.ref 100), some (.ref 0), some (.ref 1), some (.int i3), none, none, none, none, none] [] [(x0, 16), (x1, 16)] := by
  unfold LAW_b96 at h
  refine g_goto (pc := 96) (pc' := 261) K.1 at_96 (by decide) ?_
  exact ok_LAW_b261 K hw hS hs0 hk22 h
def LAW_b135 (NF : Nat) (z : Int32) (f : Int → Int32) (k22 : Int32 → St → St → Option (Int32 × List (St × Nat))) (i3 : Int32) (x0 : St) (x1 : St) : Option (Int32 × List (St × Nat)) :=
  LAW_b261 NF z f k22 i3 x0 x1
theorem ok_LAW_b135 {X : Cx (List (St × Nat))} {Z : State} {a0 : Array Value} {l : Launch} {n1 : Nat} {sc : Addr} {H0 : Heap} {NF : Nat} {z : Int32} {f : Int → Int32} (K : KM_LAW X Z a0 l n1 sc H0) (hw : HW a0 Z) (hS : Script Z H0 sc z f) (hs0 : hsz X = n1) {k22 : Int32 → St → St → Option (Int32 × List (St × Nat))} {i3 : Int32} {x0 : St} {x1 : St} {r : Int32 × List (St × Nat)} (hk22 : ∀ (i3 : Int32) (x0 : St) (x1 : St) (h : k22 i3 x0 x1 = some r), Go X (some (.int r.1), r.2) 22 [some (.ref 100), some (.ref 0), some (.ref 1), some (.int i3), none, none, none, none, none] [] [(x0, 16), (x1, 16)]) (h : LAW_b135 NF z f k22 i3 x0 x1 = some r) : Go X (some (.int r.1), r.2) 135 [some (.ref 100), some (.ref 0), some (.ref 1), some (.int i3), none, none, none, none, none] [] [(x0, 16), (x1, 16)] := by
  unfold LAW_b135 at h
  refine g_goto (pc := 135) (pc' := 261) K.1 at_135 (by decide) ?_
  exact ok_LAW_b261 K hw hS hs0 hk22 h
def LAW_b168 (NF : Nat) (z : Int32) (f : Int → Int32) (k22 : Int32 → St → St → Option (Int32 × List (St × Nat))) (i3 : Int32) (x0 : St) (x1 : St) : Option (Int32 × List (St × Nat)) :=
  LAW_b261 NF z f k22 i3 x0 x1
theorem ok_LAW_b168 {X : Cx (List (St × Nat))} {Z : State} {a0 : Array Value} {l : Launch} {n1 : Nat} {sc : Addr} {H0 : Heap} {NF : Nat} {z : Int32} {f : Int → Int32} (K : KM_LAW X Z a0 l n1 sc H0) (hw : HW a0 Z) (hS : Script Z H0 sc z f) (hs0 : hsz X = n1) {k22 : Int32 → St → St → Option (Int32 × List (St × Nat))} {i3 : Int32} {x0 : St} {x1 : St} {r : Int32 × List (St × Nat)} (hk22 : ∀ (i3 : Int32) (x0 : St) (x1 : St) (h : k22 i3 x0 x1 = some r), Go X (some (.int r.1), r.2) 22 [some (.ref 100), some (.ref 0), some (.ref 1), some (.int i3), none, none, none, none, none] [] [(x0, 16), (x1, 16)]) (h : LAW_b168 NF z f k22 i3 x0 x1 = some r) : Go X (some (.int r.1), r.2) 168 [some (.ref 100), some (.ref 0), some (.ref 1), some (.int i3), none, none, none, none, none] [] [(x0, 16), (x1, 16)] := by
  unfold LAW_b168 at h
  refine g_goto (pc := 168) (pc' := 261) K.1 at_168 (by decide) ?_
  exact ok_LAW_b261 K hw hS hs0 hk22 h
def LAW_b199 (NF : Nat) (z : Int32) (f : Int → Int32) (k22 : Int32 → St → St → Option (Int32 × List (St × Nat))) (i3 : Int32) (x0 : St) (x1 : St) : Option (Int32 × List (St × Nat)) :=
  LAW_b261 NF z f k22 i3 x0 x1
theorem ok_LAW_b199 {X : Cx (List (St × Nat))} {Z : State} {a0 : Array Value} {l : Launch} {n1 : Nat} {sc : Addr} {H0 : Heap} {NF : Nat} {z : Int32} {f : Int → Int32} (K : KM_LAW X Z a0 l n1 sc H0) (hw : HW a0 Z) (hS : Script Z H0 sc z f) (hs0 : hsz X = n1) {k22 : Int32 → St → St → Option (Int32 × List (St × Nat))} {i3 : Int32} {x0 : St} {x1 : St} {r : Int32 × List (St × Nat)} (hk22 : ∀ (i3 : Int32) (x0 : St) (x1 : St) (h : k22 i3 x0 x1 = some r), Go X (some (.int r.1), r.2) 22 [some (.ref 100), some (.ref 0), some (.ref 1), some (.int i3), none, none, none, none, none] [] [(x0, 16), (x1, 16)]) (h : LAW_b199 NF z f k22 i3 x0 x1 = some r) : Go X (some (.int r.1), r.2) 199 [some (.ref 100), some (.ref 0), some (.ref 1), some (.int i3), none, none, none, none, none] [] [(x0, 16), (x1, 16)] := by
  unfold LAW_b199 at h
  refine g_goto (pc := 199) (pc' := 261) K.1 at_199 (by decide) ?_
  exact ok_LAW_b261 K hw hS hs0 hk22 h
def LAW_b230 (NF : Nat) (z : Int32) (f : Int → Int32) (k22 : Int32 → St → St → Option (Int32 × List (St × Nat))) (i3 : Int32) (x0 : St) (x1 : St) : Option (Int32 × List (St × Nat)) :=
  LAW_b261 NF z f k22 i3 x0 x1
theorem ok_LAW_b230 {X : Cx (List (St × Nat))} {Z : State} {a0 : Array Value} {l : Launch} {n1 : Nat} {sc : Addr} {H0 : Heap} {NF : Nat} {z : Int32} {f : Int → Int32} (K : KM_LAW X Z a0 l n1 sc H0) (hw : HW a0 Z) (hS : Script Z H0 sc z f) (hs0 : hsz X = n1) {k22 : Int32 → St → St → Option (Int32 × List (St × Nat))} {i3 : Int32} {x0 : St} {x1 : St} {r : Int32 × List (St × Nat)} (hk22 : ∀ (i3 : Int32) (x0 : St) (x1 : St) (h : k22 i3 x0 x1 = some r), Go X (some (.int r.1), r.2) 22 [some (.ref 100), some (.ref 0), some (.ref 1), some (.int i3), none, none, none, none, none] [] [(x0, 16), (x1, 16)]) (h : LAW_b230 NF z f k22 i3 x0 x1 = some r) : Go X (some (.int r.1), r.2) 230 [some (.ref 100), some (.ref 0), some (.ref 1), some (.int i3), none, none, none, none, none] [] [(x0, 16), (x1, 16)] := by
  unfold LAW_b230 at h
  refine g_goto (pc := 230) (pc' := 261) K.1 at_230 (by decide) ?_
  exact ok_LAW_b261 K hw hS hs0 hk22 h
def LAW_w22 (NF : Nat) (z : Int32) (f : Int → Int32) (k22 : Int32 → St → St → Option (Int32 × List (St × Nat))) (i3 : Int32) (x0 : St) (x1 : St) : Option (Int32 × List (St × Nat)) :=
  (if z < (i3 + (4 : Int32)) then (some ((1 : Int32), [(x0, 16), (x1, 16)])) else (if 0 ≤ (i3).toInt ∧ (i3).toInt < z.toInt then (if 0 ≤ ((i3 + (1 : Int32))).toInt ∧ ((i3 + (1 : Int32))).toInt < z.toInt then (if 0 ≤ ((i3 + (2 : Int32))).toInt ∧ ((i3 + (2 : Int32))).toInt < z.toInt then (if 0 ≤ ((i3 + (3 : Int32))).toInt ∧ ((i3 + (3 : Int32))).toInt < z.toInt then (if ((f (i3).toInt) &&& (7 : Int32)) = 0 then ((M_setCoeff x0 (f ((i3 + (1 : Int32))).toInt) (f ((i3 + (2 : Int32))).toInt) (f ((i3 + (3 : Int32))).toInt)).bind fun q71 => (if q71.1 = 0 then LAW_b96 NF z f k22 i3 q71.2 x1 else ((M_setCoeff x1 (f ((i3 + (1 : Int32))).toInt) (f ((i3 + (2 : Int32))).toInt) (f ((i3 + (3 : Int32))).toInt)).bind fun q88 => (if q88.1 = 0 then (some ((0 : Int32), [(q71.2, 16), (q88.2, 16)])) else LAW_b96 NF z f k22 i3 q71.2 q88.2)))) else (if ((f (i3).toInt) &&& (7 : Int32)) = (1 : Int32) then ((M_setPacked NF x0 (f ((i3 + (1 : Int32))).toInt) (((f ((i3 + (2 : Int32))).toInt)).toInt64)).bind fun q111 => (if q111.1 = 0 then LAW_b135 NF z f k22 i3 q111.2 x1 else ((M_setPacked NF x1 (f ((i3 + (1 : Int32))).toInt) (((f ((i3 + (2 : Int32))).toInt)).toInt64)).bind fun q127 => (if q127.1 = 0 then (some ((0 : Int32), [(q111.2, 16), (q127.2, 16)])) else LAW_b135 NF z f k22 i3 q111.2 q127.2)))) else (if ((f (i3).toInt) &&& (7 : Int32)) = (2 : Int32) then ((M_clear NF x0 (f ((i3 + (1 : Int32))).toInt)).bind fun q147 => (if q147.1 = 0 then LAW_b168 NF z f k22 i3 q147.2 x1 else ((M_clear NF x1 (f ((i3 + (1 : Int32))).toInt)).bind fun q160 => (if q160.1 = 0 then (some ((0 : Int32), [(q147.2, 16), (q160.2, 16)])) else LAW_b168 NF z f k22 i3 q147.2 q160.2)))) else (if ((f (i3).toInt) &&& (7 : Int32)) = (3 : Int32) then ((M_keygen NF x0).bind fun q178 => (if q178.1 = 0 then ((M_keygen NF x1).bind fun q189 => (if q189.1 = q178.1 then LAW_b199 NF z f k22 i3 q178.2 q189.2 else (some ((0 : Int32), [(q178.2, 16), (q189.2, 16)])))) else LAW_b199 NF z f k22 i3 q178.2 x1)) else (if ((f (i3).toInt) &&& (7 : Int32)) = (4 : Int32) then ((M_encrypt NF x0).bind fun q209 => (if q209.1 = 0 then ((M_encrypt NF x1).bind fun q220 => (if q220.1 = q209.1 then LAW_b230 NF z f k22 i3 q209.2 q220.2 else (some ((0 : Int32), [(q209.2, 16), (q220.2, 16)])))) else LAW_b230 NF z f k22 i3 q209.2 x1)) else (if ((f (i3).toInt) &&& (7 : Int32)) = (5 : Int32) then ((M_decrypt NF x0).bind fun q240 => (if q240.1 = 0 then ((M_decrypt NF x1).bind fun q251 => (if q251.1 = q240.1 then LAW_b261 NF z f k22 i3 q240.2 q251.2 else (some ((0 : Int32), [(q240.2, 16), (q251.2, 16)])))) else LAW_b261 NF z f k22 i3 q240.2 x1)) else LAW_b261 NF z f k22 i3 x0 x1)))))) else none) else none) else none) else none))
theorem ok_LAW_w22 {X : Cx (List (St × Nat))} {Z : State} {a0 : Array Value} {l : Launch} {n1 : Nat} {sc : Addr} {H0 : Heap} {NF : Nat} {z : Int32} {f : Int → Int32} (K : KM_LAW X Z a0 l n1 sc H0) (hw : HW a0 Z) (hS : Script Z H0 sc z f) (hs0 : hsz X = n1) {k22 : Int32 → St → St → Option (Int32 × List (St × Nat))} {i3 : Int32} {x0 : St} {x1 : St} {r : Int32 × List (St × Nat)} (hk22 : ∀ (i3 : Int32) (x0 : St) (x1 : St) (h : k22 i3 x0 x1 = some r), Go X (some (.int r.1), r.2) 22 [some (.ref 100), some (.ref 0), some (.ref 1), some (.int i3), none, none, none, none, none] [] [(x0, 16), (x1, 16)]) (h : LAW_w22 NF z f k22 i3 x0 x1 = some r) : Go X (some (.int r.1), r.2) 22 [some (.ref 100), some (.ref 0), some (.ref 1), some (.int i3), none, none, none, none, none] [] [(x0, 16), (x1, 16)] := by
  unfold LAW_w22 at h
  refine g_iloadN (pc := 22) K.1 at_22 rfl ?_
  refine g_iconst (pc := 23) (v := 4) K.1 at_23 (by decide) ?_
  refine g_iadd (pc := 24) K.1 at_24 ?_
  refine g_aloadN (pc := 25) K.1 at_25 rfl ?_
  refine l_len (pc := 26) K hS at_26 ?_
  rcases ifs h with ⟨hc27, h⟩ | ⟨hc27, h⟩
  · refine g_icT (pc := 27) (pc' := 277) K.1 at_27 (by decide) ((tlt hc27).2.2.1) ?_
    refine g_iconst (pc := 277) (v := 1) K.1 at_277 (by decide) ?_
    cases h; exact g_ireturnN (t := .boolean) K.1 rfl (Or.inl rfl) at_278 rfl (capL K (capJ1 cj_16_16 rfl) (capJ2 cj_16_16 rfl))
  refine g_icF (pc := 27) K.1 at_27 ((flt hc27).2.2.1) ?_
  refine g_aloadN (pc := 30) K.1 at_30 rfl ?_
  refine g_iloadN (pc := 31) K.1 at_31 rfl ?_
  obtain ⟨hc32, h⟩ := ifn h
  refine l_iaload (pc := 32) K hS at_32 hc32 ?_
  refine g_bipush (pc := 33) (v := 7) K.1 at_33 (by decide) ?_
  refine g_iand (pc := 35) K.1 at_35 ?_
  refine g_istore (pc := 36) (L' := [some (.ref 100), some (.ref 0), some (.ref 1), some (.int i3), some (.int ((f (i3).toInt) &&& (7 : Int32))), none, none, none, none]) K.1 at_36 (blt rfl) rfl ?_
  refine g_aloadN (pc := 38) K.1 at_38 rfl ?_
  refine g_iloadN (pc := 39) K.1 at_39 rfl ?_
  refine g_iconst (pc := 40) (v := 1) K.1 at_40 (by decide) ?_
  refine g_iadd (pc := 41) K.1 at_41 ?_
  obtain ⟨hc42, h⟩ := ifn h
  refine l_iaload (pc := 42) K hS at_42 hc42 ?_
  refine g_istore (pc := 43) (L' := [some (.ref 100), some (.ref 0), some (.ref 1), some (.int i3), some (.int ((f (i3).toInt) &&& (7 : Int32))), some (.int (f ((i3 + (1 : Int32))).toInt)), none, none, none]) K.1 at_43 (blt rfl) rfl ?_
  refine g_aloadN (pc := 45) K.1 at_45 rfl ?_
  refine g_iloadN (pc := 46) K.1 at_46 rfl ?_
  refine g_iconst (pc := 47) (v := 2) K.1 at_47 (by decide) ?_
  refine g_iadd (pc := 48) K.1 at_48 ?_
  obtain ⟨hc49, h⟩ := ifn h
  refine l_iaload (pc := 49) K hS at_49 hc49 ?_
  refine g_istore (pc := 50) (L' := [some (.ref 100), some (.ref 0), some (.ref 1), some (.int i3), some (.int ((f (i3).toInt) &&& (7 : Int32))), some (.int (f ((i3 + (1 : Int32))).toInt)), some (.int (f ((i3 + (2 : Int32))).toInt)), none, none]) K.1 at_50 (blt rfl) rfl ?_
  refine g_aloadN (pc := 52) K.1 at_52 rfl ?_
  refine g_iloadN (pc := 53) K.1 at_53 rfl ?_
  refine g_iconst (pc := 54) (v := 3) K.1 at_54 (by decide) ?_
  refine g_iadd (pc := 55) K.1 at_55 ?_
  obtain ⟨hc56, h⟩ := ifn h
  refine l_iaload (pc := 56) K hS at_56 hc56 ?_
  refine g_istore (pc := 57) (L' := [some (.ref 100), some (.ref 0), some (.ref 1), some (.int i3), some (.int ((f (i3).toInt) &&& (7 : Int32))), some (.int (f ((i3 + (1 : Int32))).toInt)), some (.int (f ((i3 + (2 : Int32))).toInt)), some (.int (f ((i3 + (3 : Int32))).toInt)), none]) K.1 at_57 (blt rfl) rfl ?_
  refine g_iload (pc := 59) K.1 at_59 rfl ?_
  rcases ifs h with ⟨hc61, h⟩ | ⟨hc61, h⟩
  · refine g_ifF (pc := 61) K.1 at_61 ((if0 _ _).trans (teq hc61).2) ?_
    refine g_aloadN (pc := 64) K.1 at_64 rfl ?_
    refine g_iload (pc := 65) K.1 at_65 rfl ?_
    refine g_iload (pc := 67) K.1 at_67 rfl ?_
    refine g_iload (pc := 69) K.1 at_69 rfl ?_
    obtain ⟨q71, hq71, h⟩ := Option.bind_eq_some_iff.mp h
    refine l_call (pc := 71) (vs := [.int (f ((i3 + (1 : Int32))).toInt), .int (f ((i3 + (2 : Int32))).toInt), .int (f ((i3 + (3 : Int32))).toInt)]) (i := 0) (W' := [(q71.2, 16), (x1, 16)]) K at_71 (w194 hw) (w196 hw) (w195 hw) (w197 hw) (w198 hw) hyC pd_7 (by intro v q; simp only [List.mem_cons, List.not_mem_nil, or_false] at q; rcases q with rfl | rfl | rfl <;> rfl) (by decide) rfl rfl (fun _ q => by cases q; rfl) rfl rfl (con_M_setCoeff l Z a0 hw n1 _ (Nat.le_add_right _ _) hq71) rfl (ble rfl) (ble rfl) rfl rfl (ceL_eq rfl) (capJ1 cj_16_16 rfl) (capJ2 cj_16_16 rfl) ?_
    refine g_istore (pc := 74) (L' := [some (.ref 100), some (.ref 0), some (.ref 1), some (.int i3), some (.int ((f (i3).toInt) &&& (7 : Int32))), some (.int (f ((i3 + (1 : Int32))).toInt)), some (.int (f ((i3 + (2 : Int32))).toInt)), some (.int (f ((i3 + (3 : Int32))).toInt)), some (.int q71.1)]) K.1 at_74 (blt rfl) rfl ?_
    refine g_iload (pc := 76) K.1 at_76 rfl ?_
    rcases ifs h with ⟨hc78, h⟩ | ⟨hc78, h⟩
    · refine g_ifT (pc := 78) (pc' := 96) K.1 at_78 (by decide) ((if0 _ _).trans (teq hc78).1) ?_
      exact g_less (ok_LAW_b96 K hw hS hs0 hk22 h) (ls (ls (ls (ls (ln (ln (ln (ln (ln l0)))))))))
    refine g_ifF (pc := 78) K.1 at_78 ((if0 _ _).trans (feq hc78).1) ?_
    refine g_aloadN (pc := 81) K.1 at_81 rfl ?_
    refine g_iload (pc := 82) K.1 at_82 rfl ?_
    refine g_iload (pc := 84) K.1 at_84 rfl ?_
    refine g_iload (pc := 86) K.1 at_86 rfl ?_
    obtain ⟨q88, hq88, h⟩ := Option.bind_eq_some_iff.mp h
    refine l_call (pc := 88) (vs := [.int (f ((i3 + (1 : Int32))).toInt), .int (f ((i3 + (2 : Int32))).toInt), .int (f ((i3 + (3 : Int32))).toInt)]) (i := 1) (W' := [(q71.2, 16), (q88.2, 16)]) K at_88 (w194 hw) (w196 hw) (w195 hw) (w197 hw) (w198 hw) hyC pd_7 (by intro v q; simp only [List.mem_cons, List.not_mem_nil, or_false] at q; rcases q with rfl | rfl | rfl <;> rfl) (by decide) rfl rfl (fun _ q => by cases q; rfl) rfl rfl (con_M_setCoeff l Z a0 hw n1 _ (Nat.le_add_right _ _) hq88) rfl (ble rfl) (ble rfl) rfl rfl (ceL_eq rfl) (capJ1 cj_16_16 rfl) (capJ2 cj_16_16 rfl) ?_
    rcases ifs h with ⟨hc91, h⟩ | ⟨hc91, h⟩
    · refine g_ifF (pc := 91) K.1 at_91 ((if0 _ _).trans (teq hc91).2) ?_
      refine g_iconst (pc := 94) (v := 0) K.1 at_94 (by decide) ?_
      cases h; exact g_ireturnN (t := .boolean) K.1 rfl (Or.inl rfl) at_95 rfl (capL K (capJ1 cj_16_16 rfl) (capJ2 cj_16_16 rfl))
    refine g_ifT (pc := 91) (pc' := 96) K.1 at_91 (by decide) ((if0 _ _).trans (feq hc91).2) ?_
    exact g_less (ok_LAW_b96 K hw hS hs0 hk22 h) (ls (ls (ls (ls (ln (ln (ln (ln (ln l0)))))))))
  refine g_ifT (pc := 61) (pc' := 99) K.1 at_61 (by decide) ((if0 _ _).trans (feq hc61).2) ?_
  refine g_iload (pc := 99) K.1 at_99 rfl ?_
  refine g_iconst (pc := 101) (v := 1) K.1 at_101 (by decide) ?_
  rcases ifs h with ⟨hc102, h⟩ | ⟨hc102, h⟩
  · refine g_icF (pc := 102) K.1 at_102 ((teq hc102).2) ?_
    refine g_aloadN (pc := 105) K.1 at_105 rfl ?_
    refine g_iload (pc := 106) K.1 at_106 rfl ?_
    refine g_iload (pc := 108) K.1 at_108 rfl ?_
    refine g_i2l (pc := 110) K.1 at_110 ?_
    obtain ⟨q111, hq111, h⟩ := Option.bind_eq_some_iff.mp h
    refine l_call (pc := 111) (vs := [.int (f ((i3 + (1 : Int32))).toInt), .long (((f ((i3 + (2 : Int32))).toInt)).toInt64)]) (i := 0) (W' := [(q111.2, 16), (x1, 16)]) K at_111 (w156 hw) (w158 hw) (w157 hw) (w159 hw) (w160 hw) hyC pd_12 (by intro v q; simp only [List.mem_cons, List.not_mem_nil, or_false] at q; rcases q with rfl | rfl <;> rfl) (by decide) rfl rfl (fun _ q => by cases q; rfl) rfl rfl (con_M_setPacked l Z a0 hw n1 _ (Nat.le_add_right _ _) hq111) rfl (ble rfl) (ble rfl) rfl rfl (ceL_eq rfl) (capJ1 cj_16_16 rfl) (capJ2 cj_16_16 rfl) ?_
    refine g_istore (pc := 114) (L' := [some (.ref 100), some (.ref 0), some (.ref 1), some (.int i3), some (.int ((f (i3).toInt) &&& (7 : Int32))), some (.int (f ((i3 + (1 : Int32))).toInt)), some (.int (f ((i3 + (2 : Int32))).toInt)), some (.int (f ((i3 + (3 : Int32))).toInt)), some (.int q111.1)]) K.1 at_114 (blt rfl) rfl ?_
    refine g_iload (pc := 116) K.1 at_116 rfl ?_
    rcases ifs h with ⟨hc118, h⟩ | ⟨hc118, h⟩
    · refine g_ifT (pc := 118) (pc' := 135) K.1 at_118 (by decide) ((if0 _ _).trans (teq hc118).1) ?_
      exact g_less (ok_LAW_b135 K hw hS hs0 hk22 h) (ls (ls (ls (ls (ln (ln (ln (ln (ln l0)))))))))
    refine g_ifF (pc := 118) K.1 at_118 ((if0 _ _).trans (feq hc118).1) ?_
    refine g_aloadN (pc := 121) K.1 at_121 rfl ?_
    refine g_iload (pc := 122) K.1 at_122 rfl ?_
    refine g_iload (pc := 124) K.1 at_124 rfl ?_
    refine g_i2l (pc := 126) K.1 at_126 ?_
    obtain ⟨q127, hq127, h⟩ := Option.bind_eq_some_iff.mp h
    refine l_call (pc := 127) (vs := [.int (f ((i3 + (1 : Int32))).toInt), .long (((f ((i3 + (2 : Int32))).toInt)).toInt64)]) (i := 1) (W' := [(q111.2, 16), (q127.2, 16)]) K at_127 (w156 hw) (w158 hw) (w157 hw) (w159 hw) (w160 hw) hyC pd_12 (by intro v q; simp only [List.mem_cons, List.not_mem_nil, or_false] at q; rcases q with rfl | rfl <;> rfl) (by decide) rfl rfl (fun _ q => by cases q; rfl) rfl rfl (con_M_setPacked l Z a0 hw n1 _ (Nat.le_add_right _ _) hq127) rfl (ble rfl) (ble rfl) rfl rfl (ceL_eq rfl) (capJ1 cj_16_16 rfl) (capJ2 cj_16_16 rfl) ?_
    rcases ifs h with ⟨hc130, h⟩ | ⟨hc130, h⟩
    · refine g_ifF (pc := 130) K.1 at_130 ((if0 _ _).trans (teq hc130).2) ?_
      refine g_iconst (pc := 133) (v := 0) K.1 at_133 (by decide) ?_
      cases h; exact g_ireturnN (t := .boolean) K.1 rfl (Or.inl rfl) at_134 rfl (capL K (capJ1 cj_16_16 rfl) (capJ2 cj_16_16 rfl))
    refine g_ifT (pc := 130) (pc' := 135) K.1 at_130 (by decide) ((if0 _ _).trans (feq hc130).2) ?_
    exact g_less (ok_LAW_b135 K hw hS hs0 hk22 h) (ls (ls (ls (ls (ln (ln (ln (ln (ln l0)))))))))
  refine g_icT (pc := 102) (pc' := 138) K.1 at_102 (by decide) ((feq hc102).2) ?_
  refine g_iload (pc := 138) K.1 at_138 rfl ?_
  refine g_iconst (pc := 140) (v := 2) K.1 at_140 (by decide) ?_
  rcases ifs h with ⟨hc141, h⟩ | ⟨hc141, h⟩
  · refine g_icF (pc := 141) K.1 at_141 ((teq hc141).2) ?_
    refine g_aloadN (pc := 144) K.1 at_144 rfl ?_
    refine g_iload (pc := 145) K.1 at_145 rfl ?_
    obtain ⟨q147, hq147, h⟩ := Option.bind_eq_some_iff.mp h
    refine l_call (pc := 147) (vs := [.int (f ((i3 + (1 : Int32))).toInt)]) (i := 0) (W' := [(q147.2, 16), (x1, 16)]) K at_147 (w211 hw) (w213 hw) (w212 hw) (w214 hw) (w215 hw) hyC pd_1 (by intro v q; simp only [List.mem_cons, List.not_mem_nil, or_false] at q; subst q <;> rfl) (by decide) rfl rfl (fun _ q => by cases q; rfl) rfl rfl (con_M_clear l Z a0 hw n1 _ (Nat.le_add_right _ _) hq147) rfl (ble rfl) (ble rfl) rfl rfl (ceL_eq rfl) (capJ1 cj_16_16 rfl) (capJ2 cj_16_16 rfl) ?_
    refine g_istore (pc := 150) (L' := [some (.ref 100), some (.ref 0), some (.ref 1), some (.int i3), some (.int ((f (i3).toInt) &&& (7 : Int32))), some (.int (f ((i3 + (1 : Int32))).toInt)), some (.int (f ((i3 + (2 : Int32))).toInt)), some (.int (f ((i3 + (3 : Int32))).toInt)), some (.int q147.1)]) K.1 at_150 (blt rfl) rfl ?_
    refine g_iload (pc := 152) K.1 at_152 rfl ?_
    rcases ifs h with ⟨hc154, h⟩ | ⟨hc154, h⟩
    · refine g_ifT (pc := 154) (pc' := 168) K.1 at_154 (by decide) ((if0 _ _).trans (teq hc154).1) ?_
      exact g_less (ok_LAW_b168 K hw hS hs0 hk22 h) (ls (ls (ls (ls (ln (ln (ln (ln (ln l0)))))))))
    refine g_ifF (pc := 154) K.1 at_154 ((if0 _ _).trans (feq hc154).1) ?_
    refine g_aloadN (pc := 157) K.1 at_157 rfl ?_
    refine g_iload (pc := 158) K.1 at_158 rfl ?_
    obtain ⟨q160, hq160, h⟩ := Option.bind_eq_some_iff.mp h
    refine l_call (pc := 160) (vs := [.int (f ((i3 + (1 : Int32))).toInt)]) (i := 1) (W' := [(q147.2, 16), (q160.2, 16)]) K at_160 (w211 hw) (w213 hw) (w212 hw) (w214 hw) (w215 hw) hyC pd_1 (by intro v q; simp only [List.mem_cons, List.not_mem_nil, or_false] at q; subst q <;> rfl) (by decide) rfl rfl (fun _ q => by cases q; rfl) rfl rfl (con_M_clear l Z a0 hw n1 _ (Nat.le_add_right _ _) hq160) rfl (ble rfl) (ble rfl) rfl rfl (ceL_eq rfl) (capJ1 cj_16_16 rfl) (capJ2 cj_16_16 rfl) ?_
    rcases ifs h with ⟨hc163, h⟩ | ⟨hc163, h⟩
    · refine g_ifF (pc := 163) K.1 at_163 ((if0 _ _).trans (teq hc163).2) ?_
      refine g_iconst (pc := 166) (v := 0) K.1 at_166 (by decide) ?_
      cases h; exact g_ireturnN (t := .boolean) K.1 rfl (Or.inl rfl) at_167 rfl (capL K (capJ1 cj_16_16 rfl) (capJ2 cj_16_16 rfl))
    refine g_ifT (pc := 163) (pc' := 168) K.1 at_163 (by decide) ((if0 _ _).trans (feq hc163).2) ?_
    exact g_less (ok_LAW_b168 K hw hS hs0 hk22 h) (ls (ls (ls (ls (ln (ln (ln (ln (ln l0)))))))))
  refine g_icT (pc := 141) (pc' := 171) K.1 at_141 (by decide) ((feq hc141).2) ?_
  refine g_iload (pc := 171) K.1 at_171 rfl ?_
  refine g_iconst (pc := 173) (v := 3) K.1 at_173 (by decide) ?_
  rcases ifs h with ⟨hc174, h⟩ | ⟨hc174, h⟩
  · refine g_icF (pc := 174) K.1 at_174 ((teq hc174).2) ?_
    refine g_aloadN (pc := 177) K.1 at_177 rfl ?_
    obtain ⟨q178, hq178, h⟩ := Option.bind_eq_some_iff.mp h
    refine l_call (pc := 178) (vs := []) (i := 0) (W' := [(q178.2, 16), (x1, 16)]) K at_178 (w68 hw) (w70 hw) (w69 hw) (w71 hw) (w72 hw) hyC pd_2 (fun _ q => by cases q) (by decide) rfl rfl (fun _ q => by cases q; rfl) rfl rfl (con_M_keygen l Z a0 hw n1 _ (Nat.le_add_right _ _) hq178) rfl (ble rfl) (ble rfl) rfl rfl (ceL_eq rfl) (capJ1 cj_16_16 rfl) (capJ2 cj_16_16 rfl) ?_
    refine g_istore (pc := 181) (L' := [some (.ref 100), some (.ref 0), some (.ref 1), some (.int i3), some (.int ((f (i3).toInt) &&& (7 : Int32))), some (.int (f ((i3 + (1 : Int32))).toInt)), some (.int (f ((i3 + (2 : Int32))).toInt)), some (.int (f ((i3 + (3 : Int32))).toInt)), some (.int q178.1)]) K.1 at_181 (blt rfl) rfl ?_
    refine g_iload (pc := 183) K.1 at_183 rfl ?_
    rcases ifs h with ⟨hc185, h⟩ | ⟨hc185, h⟩
    · refine g_ifF (pc := 185) K.1 at_185 ((if0 _ _).trans (teq hc185).2) ?_
      refine g_aloadN (pc := 188) K.1 at_188 rfl ?_
      obtain ⟨q189, hq189, h⟩ := Option.bind_eq_some_iff.mp h
      refine l_call (pc := 189) (vs := []) (i := 1) (W' := [(q178.2, 16), (q189.2, 16)]) K at_189 (w68 hw) (w70 hw) (w69 hw) (w71 hw) (w72 hw) hyC pd_2 (fun _ q => by cases q) (by decide) rfl rfl (fun _ q => by cases q; rfl) rfl rfl (con_M_keygen l Z a0 hw n1 _ (Nat.le_add_right _ _) hq189) rfl (ble rfl) (ble rfl) rfl rfl (ceL_eq rfl) (capJ1 cj_16_16 rfl) (capJ2 cj_16_16 rfl) ?_
      refine g_iload (pc := 192) K.1 at_192 rfl ?_
      rcases ifs h with ⟨hc194, h⟩ | ⟨hc194, h⟩
      · refine g_icT (pc := 194) (pc' := 199) K.1 at_194 (by decide) ((teq hc194).1) ?_
        exact g_less (ok_LAW_b199 K hw hS hs0 hk22 h) (ls (ls (ls (ls (ln (ln (ln (ln (ln l0)))))))))
      refine g_icF (pc := 194) K.1 at_194 ((feq hc194).1) ?_
      refine g_iconst (pc := 197) (v := 0) K.1 at_197 (by decide) ?_
      cases h; exact g_ireturnN (t := .boolean) K.1 rfl (Or.inl rfl) at_198 rfl (capL K (capJ1 cj_16_16 rfl) (capJ2 cj_16_16 rfl))
    refine g_ifT (pc := 185) (pc' := 199) K.1 at_185 (by decide) ((if0 _ _).trans (feq hc185).2) ?_
    exact g_less (ok_LAW_b199 K hw hS hs0 hk22 h) (ls (ls (ls (ls (ln (ln (ln (ln (ln l0)))))))))
  refine g_icT (pc := 174) (pc' := 202) K.1 at_174 (by decide) ((feq hc174).2) ?_
  refine g_iload (pc := 202) K.1 at_202 rfl ?_
  refine g_iconst (pc := 204) (v := 4) K.1 at_204 (by decide) ?_
  rcases ifs h with ⟨hc205, h⟩ | ⟨hc205, h⟩
  · refine g_icF (pc := 205) K.1 at_205 ((teq hc205).2) ?_
    refine g_aloadN (pc := 208) K.1 at_208 rfl ?_
    obtain ⟨q209, hq209, h⟩ := Option.bind_eq_some_iff.mp h
    refine l_call (pc := 209) (vs := []) (i := 0) (W' := [(q209.2, 16), (x1, 16)]) K at_209 (w285 hw) (w287 hw) (w286 hw) (w288 hw) (w289 hw) hyC pd_2 (fun _ q => by cases q) (by decide) rfl rfl (fun _ q => by cases q; rfl) rfl rfl (con_M_encrypt l Z a0 hw n1 _ (Nat.le_add_right _ _) hq209) rfl (ble rfl) (ble rfl) rfl rfl (ceL_eq rfl) (capJ1 cj_16_16 rfl) (capJ2 cj_16_16 rfl) ?_
    refine g_istore (pc := 212) (L' := [some (.ref 100), some (.ref 0), some (.ref 1), some (.int i3), some (.int ((f (i3).toInt) &&& (7 : Int32))), some (.int (f ((i3 + (1 : Int32))).toInt)), some (.int (f ((i3 + (2 : Int32))).toInt)), some (.int (f ((i3 + (3 : Int32))).toInt)), some (.int q209.1)]) K.1 at_212 (blt rfl) rfl ?_
    refine g_iload (pc := 214) K.1 at_214 rfl ?_
    rcases ifs h with ⟨hc216, h⟩ | ⟨hc216, h⟩
    · refine g_ifF (pc := 216) K.1 at_216 ((if0 _ _).trans (teq hc216).2) ?_
      refine g_aloadN (pc := 219) K.1 at_219 rfl ?_
      obtain ⟨q220, hq220, h⟩ := Option.bind_eq_some_iff.mp h
      refine l_call (pc := 220) (vs := []) (i := 1) (W' := [(q209.2, 16), (q220.2, 16)]) K at_220 (w285 hw) (w287 hw) (w286 hw) (w288 hw) (w289 hw) hyC pd_2 (fun _ q => by cases q) (by decide) rfl rfl (fun _ q => by cases q; rfl) rfl rfl (con_M_encrypt l Z a0 hw n1 _ (Nat.le_add_right _ _) hq220) rfl (ble rfl) (ble rfl) rfl rfl (ceL_eq rfl) (capJ1 cj_16_16 rfl) (capJ2 cj_16_16 rfl) ?_
      refine g_iload (pc := 223) K.1 at_223 rfl ?_
      rcases ifs h with ⟨hc225, h⟩ | ⟨hc225, h⟩
      · refine g_icT (pc := 225) (pc' := 230) K.1 at_225 (by decide) ((teq hc225).1) ?_
        exact g_less (ok_LAW_b230 K hw hS hs0 hk22 h) (ls (ls (ls (ls (ln (ln (ln (ln (ln l0)))))))))
      refine g_icF (pc := 225) K.1 at_225 ((feq hc225).1) ?_
      refine g_iconst (pc := 228) (v := 0) K.1 at_228 (by decide) ?_
      cases h; exact g_ireturnN (t := .boolean) K.1 rfl (Or.inl rfl) at_229 rfl (capL K (capJ1 cj_16_16 rfl) (capJ2 cj_16_16 rfl))
    refine g_ifT (pc := 216) (pc' := 230) K.1 at_216 (by decide) ((if0 _ _).trans (feq hc216).2) ?_
    exact g_less (ok_LAW_b230 K hw hS hs0 hk22 h) (ls (ls (ls (ls (ln (ln (ln (ln (ln l0)))))))))
  refine g_icT (pc := 205) (pc' := 233) K.1 at_205 (by decide) ((feq hc205).2) ?_
  refine g_iload (pc := 233) K.1 at_233 rfl ?_
  refine g_iconst (pc := 235) (v := 5) K.1 at_235 (by decide) ?_
  rcases ifs h with ⟨hc236, h⟩ | ⟨hc236, h⟩
  · refine g_icF (pc := 236) K.1 at_236 ((teq hc236).2) ?_
    refine g_aloadN (pc := 239) K.1 at_239 rfl ?_
    obtain ⟨q240, hq240, h⟩ := Option.bind_eq_some_iff.mp h
    refine l_call (pc := 240) (vs := []) (i := 0) (W' := [(q240.2, 16), (x1, 16)]) K at_240 (w280 hw) (w282 hw) (w281 hw) (w283 hw) (w284 hw) hyC pd_2 (fun _ q => by cases q) (by decide) rfl rfl (fun _ q => by cases q; rfl) rfl rfl (con_M_decrypt l Z a0 hw n1 _ (Nat.le_add_right _ _) hq240) rfl (ble rfl) (ble rfl) rfl rfl (ceL_eq rfl) (capJ1 cj_16_16 rfl) (capJ2 cj_16_16 rfl) ?_
    refine g_istore (pc := 243) (L' := [some (.ref 100), some (.ref 0), some (.ref 1), some (.int i3), some (.int ((f (i3).toInt) &&& (7 : Int32))), some (.int (f ((i3 + (1 : Int32))).toInt)), some (.int (f ((i3 + (2 : Int32))).toInt)), some (.int (f ((i3 + (3 : Int32))).toInt)), some (.int q240.1)]) K.1 at_243 (blt rfl) rfl ?_
    refine g_iload (pc := 245) K.1 at_245 rfl ?_
    rcases ifs h with ⟨hc247, h⟩ | ⟨hc247, h⟩
    · refine g_ifF (pc := 247) K.1 at_247 ((if0 _ _).trans (teq hc247).2) ?_
      refine g_aloadN (pc := 250) K.1 at_250 rfl ?_
      obtain ⟨q251, hq251, h⟩ := Option.bind_eq_some_iff.mp h
      refine l_call (pc := 251) (vs := []) (i := 1) (W' := [(q240.2, 16), (q251.2, 16)]) K at_251 (w280 hw) (w282 hw) (w281 hw) (w283 hw) (w284 hw) hyC pd_2 (fun _ q => by cases q) (by decide) rfl rfl (fun _ q => by cases q; rfl) rfl rfl (con_M_decrypt l Z a0 hw n1 _ (Nat.le_add_right _ _) hq251) rfl (ble rfl) (ble rfl) rfl rfl (ceL_eq rfl) (capJ1 cj_16_16 rfl) (capJ2 cj_16_16 rfl) ?_
      refine g_iload (pc := 254) K.1 at_254 rfl ?_
      rcases ifs h with ⟨hc256, h⟩ | ⟨hc256, h⟩
      · refine g_icT (pc := 256) (pc' := 261) K.1 at_256 (by decide) ((teq hc256).1) ?_
        exact g_less (ok_LAW_b261 K hw hS hs0 hk22 h) (ls (ls (ls (ls (ln (ln (ln (ln (ln l0)))))))))
      refine g_icF (pc := 256) K.1 at_256 ((feq hc256).1) ?_
      refine g_iconst (pc := 259) (v := 0) K.1 at_259 (by decide) ?_
      cases h; exact g_ireturnN (t := .boolean) K.1 rfl (Or.inl rfl) at_260 rfl (capL K (capJ1 cj_16_16 rfl) (capJ2 cj_16_16 rfl))
    refine g_ifT (pc := 247) (pc' := 261) K.1 at_247 (by decide) ((if0 _ _).trans (feq hc247).2) ?_
    exact g_less (ok_LAW_b261 K hw hS hs0 hk22 h) (ls (ls (ls (ls (ln (ln (ln (ln (ln l0)))))))))
  refine g_icT (pc := 236) (pc' := 261) K.1 at_236 (by decide) ((feq hc236).2) ?_
  exact g_less (ok_LAW_b261 K hw hS hs0 hk22 h) (ls (ls (ls (ls (ln (ln (ln (ln (ls l0)))))))))
def LAW_l22 (NF : Nat) (z : Int32) (f : Int → Int32)  : Nat → Int32 → St → St → Option (Int32 × List (St × Nat))
  | 0 => fun _ _ _ => none
  | n + 1 => fun i3 x0 x1 => LAW_w22 NF z f  (LAW_l22 NF z f  n) i3 x0 x1
theorem ok_LAW_l22 {X : Cx (List (St × Nat))} {Z : State} {a0 : Array Value} {l : Launch} {n1 : Nat} {sc : Addr} {H0 : Heap} {NF : Nat} {z : Int32} {f : Int → Int32} (K : KM_LAW X Z a0 l n1 sc H0) (hw : HW a0 Z) (hS : Script Z H0 sc z f) (hs0 : hsz X = n1) (n : Nat)  {r : Int32 × List (St × Nat)}  : ∀ (i3 : Int32) (x0 : St) (x1 : St) (h : LAW_l22 NF z f  n i3 x0 x1 = some r), Go X (some (.int r.1), r.2) 22 [some (.ref 100), some (.ref 0), some (.ref 1), some (.int i3), none, none, none, none, none] [] [(x0, 16), (x1, 16)] := by
  induction n with
  | zero => intro i3 x0 x1 h; cases h
  | succ n ih => intro i3 x0 x1 h; exact ok_LAW_w22 (NF := NF) K hw hS hs0  ih h
def LAW (NF : Nat) (z : Int32) (f : Int → Int32)  : Option (Int32 × List (St × Nat)) :=
  ((M_init NF (5 : Int32) (5 : Int32)).bind fun q6 => ((M_init NF (5 : Int32) (5 : Int32)).bind fun q16 => LAW_l22 NF z f NF (0 : Int32) q6 q16))
theorem ok_LAW {X : Cx (List (St × Nat))} {Z : State} {a0 : Array Value} {l : Launch} {n1 : Nat} {sc : Addr} {H0 : Heap} {NF : Nat} {z : Int32} {f : Int → Int32} (K : KM_LAW X Z a0 l n1 sc H0) (hw : HW a0 Z) (hS : Script Z H0 sc z f) (hs0 : hsz X = n1)  {r : Int32 × List (St × Nat)} (h : LAW NF z f  = some r) : Go X (some (.int r.1), r.2) 0 [some (.ref 100), none, none, none, none, none, none, none, none] [] [] := by
  unfold LAW at h
  refine l_new (pc := 0) (i := 0) K at_0 (w0 hw) rfl (Nat.ne_of_beq_eq_false rfl) hs0 ceI_0 (capN1 cn_ rfl) (capN2 cn_ rfl) rfl ?_
  refine g_dup (pc := 3) K.1 at_3 rfl ?_
  refine g_iconst (pc := 4) (v := 5) K.1 at_4 (by decide) ?_
  refine g_iconst (pc := 5) (v := 5) K.1 at_5 (by decide) ?_
  obtain ⟨q6, hq6, h⟩ := Option.bind_eq_some_iff.mp h
  refine l_init (pc := 6) (vs := [.int (5 : Int32), .int (5 : Int32)]) (i := 0) (W0 := []) (W' := [(q6, 16)]) K at_6 (w3 hw) (w4 hw) (w5 hw) hyC pd_16 (by intro v q; simp only [List.mem_cons, List.not_mem_nil, or_false] at q; rcases q with rfl | rfl <;> rfl) rfl rfl rfl rfl (by decide) rfl rfl (con_M_init l Z a0 hw n1 _ (Nat.le_add_right _ _) hq6) rfl (ble rfl) (ble rfl) rfl ceI_nA ceI_0 (capJ1 cj_16 rfl) (capJ2 cj_16 rfl) ?_
  refine g_astoreN (pc := 9) (L' := [some (.ref 100), some (.ref 0), none, none, none, none, none, none, none]) K.1 at_9 (blt rfl) rfl ?_
  refine l_new (pc := 10) (i := 1) K at_10 (w0 hw) rfl (Nat.ne_of_beq_eq_false rfl) hs0 ceI_0 (capN1 cn_16 rfl) (capN2 cn_16 rfl) rfl ?_
  refine g_dup (pc := 13) K.1 at_13 rfl ?_
  refine g_iconst (pc := 14) (v := 5) K.1 at_14 (by decide) ?_
  refine g_iconst (pc := 15) (v := 5) K.1 at_15 (by decide) ?_
  obtain ⟨q16, hq16, h⟩ := Option.bind_eq_some_iff.mp h
  refine l_init (pc := 16) (vs := [.int (5 : Int32), .int (5 : Int32)]) (i := 1) (W0 := [(q6, 16)]) (W' := [(q6, 16), (q16, 16)]) K at_16 (w3 hw) (w4 hw) (w5 hw) hyC pd_16 (by intro v q; simp only [List.mem_cons, List.not_mem_nil, or_false] at q; rcases q with rfl | rfl <;> rfl) rfl rfl rfl rfl (by decide) rfl rfl (con_M_init l Z a0 hw n1 _ (Nat.le_add_right _ _) hq16) rfl (ble rfl) (ble rfl) rfl ceI_nA ceI_0 (capJ1 cj_16_16 rfl) (capJ2 cj_16_16 rfl) ?_
  refine g_astoreN (pc := 19) (L' := [some (.ref 100), some (.ref 0), some (.ref 1), none, none, none, none, none, none]) K.1 at_19 (blt rfl) rfl ?_
  refine g_iconst (pc := 20) (v := 0) K.1 at_20 (by decide) ?_
  refine g_istoreN (pc := 21) (L' := [some (.ref 100), some (.ref 0), some (.ref 1), some (.int (0 : Int32)), none, none, none, none, none]) K.1 at_21 (blt rfl) rfl ?_
  exact ok_LAW_l22 K hw hS hs0 NF  _ _ _ h
theorem con_LAW (l : Launch) (Z : State) (a0 : Array Value) (hw : HW a0 Z) (ws : List Jvm.Cond) (sc : Addr) (H0 : Heap) {NF : Nat} {z : Int32} {f : Int → Int32} (hS : Script Z H0 sc z f)  {r : Int32 × List (St × Nat)} (h : LAW NF z f  = some r) : MetP l Z x code maxLocals ret room_1 ws H0.size H0 ([.ref 100].map (up (adL sc H0.size 16))).toArray (some (.int r.1)) (fun _ => True) := by
  refine (met_of_go (S := List (St × Nat)) (ad := adL sc H0.size 16) (INV := INVl Z cC cFS cFA 16 H0.size H0) (CE := ceL 25 cFA) (x := []) (x' := r.2) (v := some (.int r.1)) (y := x) pnL rfl ⟨fun i q hq => by simp at hq, by simp [sizeW], Nat.le_refl _, fun _ _ q => q⟩ rfl ?_).mono (fun _ _ => trivial)
  intro p e s m below meth c hs K
  exact ok_LAW ⟨K, layW hw, lgood, rfl, rfl, rfl, rfl, rfl, rfl, rfl, rfl, rfl⟩ hw hS (by show s.heap.size = _; rw [hs]) h
/-- the array behind a selector (0: none) -/
def own_k (w : Int32) : Nat := if w = 0 then 1 else if w = 1 then 2 else if w = 2 then 3 else if w = 3 then 4 else if w = 4 then 5 else if w = 5 then 6 else if w = 6 then 7 else if w = 7 then 8 else if w = 8 then 9 else if w = 9 then 10 else if w = 10 then 11 else if w = 11 then 13 else if w = 12 then 14 else if w = 13 then 15 else if w = 14 then 16 else 0
def own_v (σ : St) (w : Int32) (i : Int) : Int32 := if own_k w = 0 then 0 else gA σ (own_k w) i
def own_put (σ : St) (w : Int32) (i : Int) (v : Int32) : St := if own_k w = 0 then σ else sA σ (own_k w) i v
def own_fill (σ : St) (w : Int32) (N : Int) (g : Int → Int32) : St := if own_k w = 0 then σ else fillS σ (own_k w) N g
theorem own_load (σ : St) (w i : Int32) (h0 : 0 ≤ i.toInt) (h1 : i.toInt < 17) : M_load σ w i = some (own_v σ w i.toInt, σ) := by
  unfold M_load M_loadHeld M_loadScratch own_v own_k
  have hb : 0 ≤ i.toInt ∧ i.toInt < 17 := ⟨h0, h1⟩
  rw [if_neg (by rw [lt_i]; show ¬ _ < (0 : Int); omega), if_pos (by rw [lt_i]; exact h1)]
  by_cases e0 : w = 0
  · subst e0; simp +decide only [hb, if_true, if_false, Option.bind_some]
  by_cases e1 : w = 1
  · subst e1; simp +decide only [hb, if_true, if_false, Option.bind_some]
  by_cases e2 : w = 2
  · subst e2; simp +decide only [hb, if_true, if_false, Option.bind_some]
  by_cases e3 : w = 3
  · subst e3; simp +decide only [hb, if_true, if_false, Option.bind_some]
  by_cases e4 : w = 4
  · subst e4; simp +decide only [hb, if_true, if_false, Option.bind_some]
  by_cases e5 : w = 5
  · subst e5; simp +decide only [hb, if_true, if_false, Option.bind_some]
  by_cases e6 : w = 6
  · subst e6; simp +decide only [hb, if_true, if_false, Option.bind_some]
  by_cases e7 : w = 7
  · subst e7; simp +decide only [hb, if_true, if_false, Option.bind_some]
  by_cases e8 : w = 8
  · subst e8; simp +decide only [hb, if_true, if_false, Option.bind_some]
  by_cases e9 : w = 9
  · subst e9; simp +decide only [hb, if_true, if_false, Option.bind_some]
  by_cases e10 : w = 10
  · subst e10; simp +decide only [hb, if_true, if_false, Option.bind_some]
  by_cases e11 : w = 11
  · subst e11; simp +decide only [hb, if_true, if_false, Option.bind_some]
  by_cases e12 : w = 12
  · subst e12; simp +decide only [hb, if_true, if_false, Option.bind_some]
  by_cases e13 : w = 13
  · subst e13; simp +decide only [hb, if_true, if_false, Option.bind_some]
  by_cases e14 : w = 14
  · subst e14; simp +decide only [hb, if_true, if_false, Option.bind_some]
  by_cases hw : w < 11
  · simp only [hw, e0, e1, e2, e3, e4, e5, e6, e7, e8, e9, e10, e11, e12, e13, e14, if_true, if_false, Option.bind_some]
  · simp only [hw, e0, e1, e2, e3, e4, e5, e6, e7, e8, e9, e10, e11, e12, e13, e14, if_true, if_false, Option.bind_some]
theorem own_store (σ : St) (w i v : Int32) (h0 : 0 ≤ i.toInt) (h1 : i.toInt < 17) : M_store σ w i v = some (own_put σ w i.toInt v) := by
  unfold M_store M_storeHeld M_storeScratch own_put own_k
  have hb : 0 ≤ i.toInt ∧ i.toInt < 17 := ⟨h0, h1⟩
  rw [if_neg (by rw [lt_i]; show ¬ _ < (0 : Int); omega), if_pos (by rw [lt_i]; exact h1)]
  by_cases e0 : w = 0
  · subst e0; simp +decide only [hb, if_true, if_false, Option.bind_some]
  by_cases e1 : w = 1
  · subst e1; simp +decide only [hb, if_true, if_false, Option.bind_some]
  by_cases e2 : w = 2
  · subst e2; simp +decide only [hb, if_true, if_false, Option.bind_some]
  by_cases e3 : w = 3
  · subst e3; simp +decide only [hb, if_true, if_false, Option.bind_some]
  by_cases e4 : w = 4
  · subst e4; simp +decide only [hb, if_true, if_false, Option.bind_some]
  by_cases e5 : w = 5
  · subst e5; simp +decide only [hb, if_true, if_false, Option.bind_some]
  by_cases e6 : w = 6
  · subst e6; simp +decide only [hb, if_true, if_false, Option.bind_some]
  by_cases e7 : w = 7
  · subst e7; simp +decide only [hb, if_true, if_false, Option.bind_some]
  by_cases e8 : w = 8
  · subst e8; simp +decide only [hb, if_true, if_false, Option.bind_some]
  by_cases e9 : w = 9
  · subst e9; simp +decide only [hb, if_true, if_false, Option.bind_some]
  by_cases e10 : w = 10
  · subst e10; simp +decide only [hb, if_true, if_false, Option.bind_some]
  by_cases e11 : w = 11
  · subst e11; simp +decide only [hb, if_true, if_false, Option.bind_some]
  by_cases e12 : w = 12
  · subst e12; simp +decide only [hb, if_true, if_false, Option.bind_some]
  by_cases e13 : w = 13
  · subst e13; simp +decide only [hb, if_true, if_false, Option.bind_some]
  by_cases e14 : w = 14
  · subst e14; simp +decide only [hb, if_true, if_false, Option.bind_some]
  by_cases hw : w < 11
  · simp only [hw, e0, e1, e2, e3, e4, e5, e6, e7, e8, e9, e10, e11, e12, e13, e14, if_true, if_false, Option.bind_some]
  · simp only [hw, e0, e1, e2, e3, e4, e5, e6, e7, e8, e9, e10, e11, e12, e13, e14, if_true, if_false, Option.bind_some]
/-! fills -/
theorem own_fill0 (σ : St) (w : Int32) (g : Int → Int32) : own_fill σ w 0 g = σ := by
  unfold own_fill
  split
  · rfl
  · exact (fill_iter σ (own_k w) g 0).symm
theorem own_fillS (σ : St) (w : Int32) (i : Int) (h : 0 ≤ i) (g : Int → Int32) : own_put (own_fill σ w i g) w i (g i) = own_fill σ w (i + 1) g := by
  unfold own_fill own_put
  split
  · rfl
  · obtain ⟨n, rfl⟩ := Int.eq_ofNat_of_zero_le h
    have := fill_iter σ (own_k w) g (n + 1)
    rw [show ((n + 1 : Nat) : Int) = (n : Int) + 1 from rfl] at this
    rw [← this, ← fill_iter]
    rfl
theorem gI_own (σ : St) (w : Int32) (N : Int) (g : Int → Int32) (q : Nat) : gI (own_fill σ w N g) q = gI σ q := by
  unfold own_fill; split <;> rfl
theorem gA_own (σ : St) (w : Int32) (N : Int) (g : Int → Int32) (q : Nat) (j : Int) (h : q ≠ own_k w) : gA (own_fill σ w N g) q j = gA σ q j := by
  unfold own_fill; split
  · rfl
  · rw [gA_fill, if_neg (fun c => h c.1)]
theorem gA_ownF (σ : St) (w : Int32) (N : Int) (g : Int → Int32) (j : Int) (hw : own_k w ≠ 0) : gA (own_fill σ w N g) (own_k w) j = if 0 ≤ j ∧ j < N then g j else gA σ (own_k w) j := by
  unfold own_fill; rw [if_neg hw, gA_fill]; simp only [true_and]
theorem own_vF (σ : St) (w x : Int32) (N : Int) (g : Int → Int32) (j : Int) (h : own_k x ≠ own_k w) : own_v (own_fill σ w N g) x j = own_v σ x j := by
  unfold own_v; split
  · rfl
  · exact gA_own σ w N g _ j h
theorem own_fl {R : Type} {l : Nat → Int32 → St → Option R} {wf : (Int32 → St → Option R) → Int32 → St → Option R} (hl : ∀ n i x, l (n + 1) i x = wf (l n) i x) (N : Int) (n0 : 0 ≤ N) (hN : N < 2147483648) (σ : St) (w : Int32) (g : Int → Int32) (fin : St → Option R)
    (step : ∀ (kk : Int32 → St → Option R) (i : Int32) (x : St), 0 ≤ i.toInt → i.toInt < N → x = own_fill σ w i.toInt g → wf kk i x = kk (i + 1) (own_put x w i.toInt (g i.toInt)))
    (done : ∀ (kk : Int32 → St → Option R) (i : Int32) (x : St), i.toInt = N → x = own_fill σ w N g → wf kk i x = fin x) (NF : Nat) (hF : N < NF) : l NF 0 σ = fin (own_fill σ w N g) := by
  have e0 : (0 : Int32).toInt = 0 := rfl
  refine loop_up hl N hN (fun i x => x = own_fill σ w i g) (fun o => o = fin (own_fill σ w N g)) ?_ ?_ NF 0 σ (by decide) (by omega) (own_fill0 σ w g).symm (by omega)
  · intro kk i x h0 h1 hx ih
    rw [step kk i x h0 h1 hx]
    refine ih _ ?_
    rw [hx, own_fillS σ w _ h0]
  · intro kk i x hi hx
    rw [done kk i x hi hx, hx]
/-! arithmetic -/
def own_md (v t : Int32) : Int32 := if v % t < 0 then v % t + t else v % t
theorem own_mod (σ : St) (v t : Int32) (h : 0 < t.toInt) : M_mod σ v t = some (own_md v t, σ) := by
  have e0 : (0 : Int32).toInt = 0 := rfl
  unfold M_mod own_md
  rw [if_pos (by rw [lt_i]; omega), if_neg (by rw [eq_i32]; omega)]
  split <;> rfl
theorem own_mdI (v t : Int32) (h : 0 < t.toInt) : (own_md v t).toInt = v.toInt % t.toInt := by
  have e0 : (0 : Int32).toInt = 0 := rfl
  have h0 : (v % t).toInt = v.toInt.tmod t.toInt := Int32.toInt_mod v t
  have b1 := Int.tmod_lt_of_pos v.toInt h
  have b2 := Int.lt_tmod_of_pos v.toInt h
  have c1 := Int.emod_nonneg v.toInt (show t.toInt ≠ 0 by omega)
  have c2 := Int.emod_lt_of_pos v.toInt h
  have d1 := Int.tmod_add_mul_tdiv v.toInt t.toInt
  have r := rng32 t
  unfold own_md
  have key : ∀ z : Int, 0 ≤ z → z < t.toInt → z % t.toInt = v.toInt % t.toInt → z = v.toInt % t.toInt := by
    intro z z0 z1 hz
    rw [← hz, Int.emod_eq_of_lt z0 z1]
  split
  · rename_i c
    rw [lt_i] at c
    rw [i_add (by omega) (by omega)]
    refine key _ (by omega) (by omega) ?_
    rw [h0, Int.add_emod_right]
    conv => rhs; rw [← d1]
    rw [Int.add_mul_emod_self_left]
  · rename_i c
    rw [lt_i] at c
    refine key _ (by omega) (by omega) ?_
    rw [h0]
    conv => rhs; rw [← d1]
    rw [Int.add_mul_emod_self_left]
def own_N (σ : St) : Prop := 5 ≤ (gI σ 121).toInt ∧ (gI σ 121).toInt ≤ 17
theorem own_cyc (σ : St) (hn : own_N σ) (k i : Int32) (k0 : 0 ≤ k.toInt) (k1 : k.toInt < (gI σ 121).toInt) (i0 : 0 ≤ i.toInt) (i1 : i.toInt < (gI σ 121).toInt) : ∃ j, M_cyclicIndex σ (k - i) = some (j, σ) ∧ j.toInt = (k.toInt - i.toInt) % (gI σ 121).toInt := by
  obtain ⟨n1, n2⟩ := hn
  refine ⟨own_md (k - i) (gI σ 121), ?_, ?_⟩
  · unfold M_cyclicIndex
    rw [own_mod σ _ _ (by omega)]; rfl
  · rw [own_mdI _ _ (by omega), i_sub (by omega) (by omega)]
/-- the running sum of a cyclic convolution -/
def own_conv (N k : Int) (X Y : Int → Int32) : Nat → Int32
  | 0 => 0
  | i + 1 => own_conv N k X Y i + X i * Y ((k - i) % N)
theorem own_convC (N k : Int) (hN : 0 < N) {X X' Y Y' : Int → Int32} (hX : ∀ i, 0 ≤ i → i < N → X i = X' i) (hY : ∀ i, 0 ≤ i → i < N → Y i = Y' i) : ∀ n : Nat, n ≤ N → own_conv N k X Y n = own_conv N k X' Y' n := by
  intro n
  induction n with
  | zero => intro _; rfl
  | succ n ih =>
    intro h
    show own_conv N k X Y n + X n * Y ((k - n) % N) = own_conv N k X' Y' n + X' n * Y' ((k - n) % N)
    rw [ih (by omega), hX n (by omega) (by omega), hY _ (Int.emod_nonneg _ (by omega)) (Int.emod_lt_of_pos _ hN)]
def own_cv (σ : St) (x y : Int32) (k : Int) : Int32 := own_conv (gI σ 121).toInt k (own_v σ x) (own_v σ y) (gI σ 121).toInt.toNat
theorem own_convAt {NF : Nat} (hF : 1100 < NF) (σ : St) (hn : own_N σ) (x y k : Int32) (k0 : 0 ≤ k.toInt) (k1 : k.toInt < (gI σ 121).toInt) : M_convAt NF σ x y k = some (own_cv σ x y k.toInt, σ) := by
  have e0 : (0 : Int32).toInt = 0 := rfl
  obtain ⟨n1, n2⟩ := id hn
  unfold M_convAt
  refine loop_up (A := Int32 × St) (l := fun n i z => M_convAt_l6 NF n x y k z.1 i z.2) (w := fun kk i z => M_convAt_w6 NF (fun _ _ _ s i τ => kk i (s, τ)) x y k z.1 i z.2) (fun _ _ _ => rfl) (gI σ 121).toInt (by omega) (fun i z => z.2 = σ ∧ z.1 = own_conv (gI σ 121).toInt k.toInt (own_v σ x) (own_v σ y) i.toNat) (fun o => o = some (own_cv σ x y k.toInt, σ)) ?_ ?_ NF 0 (0, σ) (by decide) (by omega) ⟨rfl, rfl⟩ (by omega)
  · rintro kk i ⟨s, τ⟩ h0 h1 ⟨hp, hs⟩ ih
    dsimp only at hp hs
    subst hp
    obtain ⟨j, j1, j2⟩ := own_cyc τ hn k i k0 k1 h0 h1
    have j3 := Int.emod_nonneg (k.toInt - i.toInt) (show (gI τ 121).toInt ≠ 0 by omega)
    have j4 := Int.emod_lt_of_pos (k.toInt - i.toInt) (show 0 < (gI τ 121).toInt by omega)
    dsimp only
    unfold M_convAt_w6
    rw [if_pos (lt_i.mpr h1), j1]
    simp only [Option.bind_some]
    rw [own_load τ x i h0 (by omega)]
    simp only [Option.bind_some]
    rw [own_load τ y j (by omega) (by omega)]
    simp only [Option.bind_some]
    refine ih _ ⟨rfl, ?_⟩
    rw [show (i.toInt + 1).toNat = i.toInt.toNat + 1 by omega, hs, j2]
    show _ = own_conv _ _ _ _ _ + own_v τ x (i.toInt.toNat : Int) * own_v τ y ((k.toInt - (i.toInt.toNat : Int)) % _)
    rw [Int.toNat_of_nonneg h0]
  · rintro kk i ⟨s, τ⟩ hi ⟨hp, hs⟩
    dsimp only at hp hs
    subst hp
    dsimp only
    unfold M_convAt_w6
    rw [if_neg (by rw [lt_i]; omega), hs]
    rfl
/-! the polynomials -/
theorem own_zero {NF : Nat} (hF : 1100 < NF) (σ : St) (hn : own_N σ) (w : Int32) : M_zeroPoly NF σ w = some (own_fill σ w (gI σ 121).toInt fun _ => 0) := by
  obtain ⟨n1, n2⟩ := id hn
  unfold M_zeroPoly
  refine own_fl (l := fun n i x => M_zeroPoly_l2 NF n w i x) (wf := fun kk i x => M_zeroPoly_w2 NF (fun _ i τ => kk i τ) w i x) (fun _ _ _ => rfl) (gI σ 121).toInt (by omega) (by omega) σ w (fun _ => 0) some ?_ ?_ NF (by omega)
  · intro kk i x h0 h1 hx
    unfold M_zeroPoly_w2
    rw [if_pos (by rw [hx, gI_own]; exact lt_i.mpr h1), own_store x w i 0 h0 (by omega)]
    rfl
  · intro kk i x hi hx
    unfold M_zeroPoly_w2
    rw [if_neg (by rw [hx, gI_own, lt_i]; omega)]
theorem own_copy {NF : Nat} (hF : 1100 < NF) (σ : St) (hn : own_N σ) (a b : Int32) (hab : own_k a ≠ own_k b) : M_copyPoly NF σ a b = some (own_fill σ b (gI σ 121).toInt (own_v σ a)) := by
  obtain ⟨n1, n2⟩ := id hn
  unfold M_copyPoly
  refine own_fl (l := fun n i x => M_copyPoly_l2 NF n a b i x) (wf := fun kk i x => M_copyPoly_w2 NF (fun _ _ i τ => kk i τ) a b i x) (fun _ _ _ => rfl) (gI σ 121).toInt (by omega) (by omega) σ b (own_v σ a) some ?_ ?_ NF (by omega)
  · intro kk i x h0 h1 hx
    unfold M_copyPoly_w2
    rw [if_pos (by rw [hx, gI_own]; exact lt_i.mpr h1), own_load x a i h0 (by omega)]
    simp only [Option.bind_some]
    rw [own_store x b i _ h0 (by omega), show own_v x a i.toInt = own_v σ a i.toInt by rw [hx, own_vF _ _ _ _ _ _ hab]]
    rfl
  · intro kk i x hi hx
    unfold M_copyPoly_w2
    rw [if_neg (by rw [hx, gI_own, lt_i]; omega)]
theorem own_NF {σ : St} (hn : own_N σ) {w : Int32} {N : Int} {g : Int → Int32} : own_N (own_fill σ w N g) := by
  unfold own_N; rw [gI_own]; exact hn
theorem own_cvF (σ : St) (w x y : Int32) (N : Int) (g : Int → Int32) (k : Int) (hx : own_k x ≠ own_k w) (hy : own_k y ≠ own_k w) : own_cv (own_fill σ w N g) x y k = own_cv σ x y k := by
  unfold own_cv
  rw [gI_own, show own_v (own_fill σ w N g) x = own_v σ x from funext fun j => own_vF _ _ _ _ _ _ hx, show own_v (own_fill σ w N g) y = own_v σ y from funext fun j => own_vF _ _ _ _ _ _ hy]
def own_u (k : Int) : Int32 := if k = 0 then 1 else 0
theorem own_unit (σ : St) (k : Int32) : M_unitCoeff σ k = some (own_u k.toInt, σ) := by
  have e0 : (0 : Int32).toInt = 0 := rfl
  unfold M_unitCoeff own_u
  by_cases h : k = 0
  · rw [if_pos h, if_pos (by rw [h]; rfl)]
  · rw [if_neg h, if_neg (fun q => h (eq_i32.mpr (by omega)))]
theorem own_pub {NF : Nat} (hF : 1100 < NF) (σ : St) (hn : own_N σ) (hq : 0 < (gI σ 122).toInt) : M_computePublicKey NF σ = some (own_fill σ 8 (gI σ 121).toInt fun k => own_md (own_cv σ 7 1 k) (gI σ 122)) := by
  obtain ⟨n1, n2⟩ := id hn
  unfold M_computePublicKey
  refine own_fl (l := fun n i x => M_computePublicKey_l2 NF n i x) (wf := fun kk i x => M_computePublicKey_w2 NF kk i x) (fun _ _ _ => rfl) (gI σ 121).toInt (by omega) (by omega) σ 8 (fun k => own_md (own_cv σ 7 1 k) (gI σ 122)) some ?_ ?_ NF (by omega)
  · intro kk i x h0 h1 hx
    unfold M_computePublicKey_w2
    have hg : gI x 121 = gI σ 121 := by rw [hx, gI_own]
    have hg2 : gI x 122 = gI σ 122 := by rw [hx, gI_own]
    rw [if_pos (by rw [hg]; exact lt_i.mpr h1), own_convAt hF x (by rw [hx]; exact own_NF hn) 7 1 i h0 (by rw [hg]; exact h1)]
    simp only [Option.bind_some]
    rw [own_mod x _ _ (by rw [hg2]; exact hq)]
    simp only [Option.bind_some]
    rw [own_store x 8 i _ h0 (by omega), hg2, show own_cv x 7 1 i.toInt = own_cv σ 7 1 i.toInt by rw [hx, own_cvF _ _ _ _ _ _ _ (by decide) (by decide)]]
    rfl
  · intro kk i x hi hx
    unfold M_computePublicKey_w2
    rw [if_neg (by rw [hx, gI_own, lt_i]; omega)]
theorem own_ciph {NF : Nat} (hF : 1100 < NF) (σ : St) (hn : own_N σ) (hq : 0 < (gI σ 122).toInt) : M_writeCiphertext NF σ = some (own_fill σ 4 (gI σ 121).toInt fun k => own_md (3 * own_cv σ 3 8 k + own_v σ 2 k) (gI σ 122)) := by
  obtain ⟨n1, n2⟩ := id hn
  unfold M_writeCiphertext
  refine own_fl (l := fun n i x => M_writeCiphertext_l2 NF n i x) (wf := fun kk i x => M_writeCiphertext_w2 NF kk i x) (fun _ _ _ => rfl) (gI σ 121).toInt (by omega) (by omega) σ 4 (fun k => own_md (3 * own_cv σ 3 8 k + own_v σ 2 k) (gI σ 122)) some ?_ ?_ NF (by omega)
  · intro kk i x h0 h1 hx
    unfold M_writeCiphertext_w2 M_cipherCoeff
    have hg : gI x 121 = gI σ 121 := by rw [hx, gI_own]
    have hg2 : gI x 122 = gI σ 122 := by rw [hx, gI_own]
    rw [if_pos (by rw [hg]; exact lt_i.mpr h1), own_convAt hF x (by rw [hx]; exact own_NF hn) 3 8 i h0 (by rw [hg]; exact h1)]
    simp only [Option.bind_some]
    rw [own_load x 2 i h0 (by omega)]
    simp only [Option.bind_some]
    rw [own_mod x _ _ (by rw [hg2]; exact hq)]
    simp only [Option.bind_some]
    rw [own_store x 4 i _ h0 (by omega), hg2, show own_cv x 3 8 i.toInt = own_cv σ 3 8 i.toInt by rw [hx, own_cvF _ _ _ _ _ _ _ (by decide) (by decide)], show own_v x 2 i.toInt = own_v σ 2 i.toInt by rw [hx, own_vF _ _ _ _ _ _ (by decide)]]
    rfl
  · intro kk i x hi hx
    unfold M_writeCiphertext_w2
    rw [if_neg (by rw [hx, gI_own, lt_i]; omega)]
def own_ce (q t : Int32) : Int32 := if q / 2 < t then t - q else t
theorem own_centre (σ : St) (t : Int32) : M_centre σ t = some (own_ce (gI σ 122) t, σ) := by
  unfold M_centre own_ce; split <;> rfl
def own_te (t : Int32) : Int32 := if 1 < t then -1 else t
theorem own_tern (σ : St) (t : Int32) : M_ternaryOf σ t = some (own_te t, σ) := by
  unfold M_ternaryOf own_te; split <;> rfl
theorem own_cent {NF : Nat} (hF : 1100 < NF) (σ : St) (hn : own_N σ) (hq : 0 < (gI σ 122).toInt) : M_writeCentred NF σ = some (own_fill σ 9 (gI σ 121).toInt fun k => own_ce (gI σ 122) (own_md (own_cv σ 5 4 k) (gI σ 122))) := by
  obtain ⟨n1, n2⟩ := id hn
  unfold M_writeCentred
  refine own_fl (l := fun n i x => M_writeCentred_l2 NF n i x) (wf := fun kk i x => M_writeCentred_w2 NF kk i x) (fun _ _ _ => rfl) (gI σ 121).toInt (by omega) (by omega) σ 9 (fun k => own_ce (gI σ 122) (own_md (own_cv σ 5 4 k) (gI σ 122))) some ?_ ?_ NF (by omega)
  · intro kk i x h0 h1 hx
    unfold M_writeCentred_w2
    have hg : gI x 121 = gI σ 121 := by rw [hx, gI_own]
    have hg2 : gI x 122 = gI σ 122 := by rw [hx, gI_own]
    rw [if_pos (by rw [hg]; exact lt_i.mpr h1), own_convAt hF x (by rw [hx]; exact own_NF hn) 5 4 i h0 (by rw [hg]; exact h1)]
    simp only [Option.bind_some]
    rw [own_mod x _ _ (by rw [hg2]; exact hq)]
    simp only [Option.bind_some, own_centre]
    rw [own_store x 9 i _ h0 (by omega), hg2, show own_cv x 5 4 i.toInt = own_cv σ 5 4 i.toInt by rw [hx, own_cvF _ _ _ _ _ _ _ (by decide) (by decide)]]
    rfl
  · intro kk i x hi hx
    unfold M_writeCentred_w2
    rw [if_neg (by rw [hx, gI_own, lt_i]; omega)]
theorem own_mess {NF : Nat} (hF : 1100 < NF) (σ : St) (hn : own_N σ) : M_writeMessage NF σ = some (own_fill σ 10 (gI σ 121).toInt fun k => own_te (own_md (own_cv σ 6 9 k) 3)) := by
  obtain ⟨n1, n2⟩ := id hn
  unfold M_writeMessage
  refine own_fl (l := fun n i x => M_writeMessage_l2 NF n i x) (wf := fun kk i x => M_writeMessage_w2 NF kk i x) (fun _ _ _ => rfl) (gI σ 121).toInt (by omega) (by omega) σ 10 (fun k => own_te (own_md (own_cv σ 6 9 k) 3)) some ?_ ?_ NF (by omega)
  · intro kk i x h0 h1 hx
    unfold M_writeMessage_w2
    have hg : gI x 121 = gI σ 121 := by rw [hx, gI_own]
    rw [if_pos (by rw [hg]; exact lt_i.mpr h1), own_convAt hF x (by rw [hx]; exact own_NF hn) 6 9 i h0 (by rw [hg]; exact h1)]
    simp only [Option.bind_some]
    rw [own_mod x _ _ (by decide)]
    simp only [Option.bind_some, own_tern]
    rw [own_store x 10 i _ h0 (by omega), show own_cv x 6 9 i.toInt = own_cv σ 6 9 i.toInt by rw [hx, own_cvF _ _ _ _ _ _ _ (by decide) (by decide)]]
    rfl
  · intro kk i x hi hx
    unfold M_writeMessage_w2
    rw [if_neg (by rw [hx, gI_own, lt_i]; omega)]
def own_sel (σ : St) : Prop := gI σ 142 = 11 ∧ gI σ 143 = 12 ∧ gI σ 144 = 13 ∧ gI σ 145 = 14
theorem own_corr1 {NF : Nat} (hF : 1100 < NF) (σ : St) (hn : own_N σ) (hq : 0 < (gI σ 122).toInt) (hs : own_sel σ) : M_computeCorrection NF σ = some (own_fill σ 13 (gI σ 121).toInt fun k => own_md (2 * own_u k - own_cv σ 0 12 k) (gI σ 122)) := by
  obtain ⟨n1, n2⟩ := id hn
  obtain ⟨s1, s2, s3, s4⟩ := hs
  unfold M_computeCorrection
  refine own_fl (l := fun n i x => M_computeCorrection_l2 NF n i x) (wf := fun kk i x => M_computeCorrection_w2 NF kk i x) (fun _ _ _ => rfl) (gI σ 121).toInt (by omega) (by omega) σ 13 (fun k => own_md (2 * own_u k - own_cv σ 0 12 k) (gI σ 122)) some ?_ ?_ NF (by omega)
  · intro kk i x h0 h1 hx
    unfold M_computeCorrection_w2
    have hg : gI x 121 = gI σ 121 := by rw [hx, gI_own]
    have hg2 : gI x 122 = gI σ 122 := by rw [hx, gI_own]
    rw [if_pos (by rw [hg]; exact lt_i.mpr h1), show gI x 143 = 12 by rw [hx, gI_own, s2], own_convAt hF x (by rw [hx]; exact own_NF hn) 0 12 i h0 (by rw [hg]; exact h1)]
    simp only [Option.bind_some, own_unit]
    rw [own_mod x _ _ (by rw [hg2]; exact hq)]
    simp only [Option.bind_some]
    rw [show gI x 144 = 13 by rw [hx, gI_own, s3], own_store x 13 i _ h0 (by omega), hg2, show own_cv x 0 12 i.toInt = own_cv σ 0 12 i.toInt by rw [hx, own_cvF _ _ _ _ _ _ _ (by decide) (by decide)]]
    rfl
  · intro kk i x hi hx
    unfold M_computeCorrection_w2
    rw [if_neg (by rw [hx, gI_own, lt_i]; omega)]
theorem own_corr2 {NF : Nat} (hF : 1100 < NF) (σ : St) (hn : own_N σ) (hq : 0 < (gI σ 122).toInt) (hs : own_sel σ) : M_applyCorrection NF σ = some (own_fill σ 14 (gI σ 121).toInt fun k => own_md (own_cv σ 12 13 k) (gI σ 122)) := by
  obtain ⟨n1, n2⟩ := id hn
  obtain ⟨s1, s2, s3, s4⟩ := hs
  unfold M_applyCorrection
  refine own_fl (l := fun n i x => M_applyCorrection_l2 NF n i x) (wf := fun kk i x => M_applyCorrection_w2 NF kk i x) (fun _ _ _ => rfl) (gI σ 121).toInt (by omega) (by omega) σ 14 (fun k => own_md (own_cv σ 12 13 k) (gI σ 122)) some ?_ ?_ NF (by omega)
  · intro kk i x h0 h1 hx
    unfold M_applyCorrection_w2
    have hg : gI x 121 = gI σ 121 := by rw [hx, gI_own]
    have hg2 : gI x 122 = gI σ 122 := by rw [hx, gI_own]
    rw [if_pos (by rw [hg]; exact lt_i.mpr h1), show gI x 143 = 12 by rw [hx, gI_own, s2], show gI x 144 = 13 by rw [hx, gI_own, s3], own_convAt hF x (by rw [hx]; exact own_NF hn) 12 13 i h0 (by rw [hg]; exact h1)]
    simp only [Option.bind_some]
    rw [own_mod x _ _ (by rw [hg2]; exact hq)]
    simp only [Option.bind_some]
    rw [show gI x 145 = 14 by rw [hx, gI_own, s4], own_store x 14 i _ h0 (by omega), hg2, show own_cv x 12 13 i.toInt = own_cv σ 12 13 i.toInt by rw [hx, own_cvF _ _ _ _ _ _ _ (by decide) (by decide)]]
    rfl
  · intro kk i x hi hx
    unfold M_applyCorrection_w2
    rw [if_neg (by rw [hx, gI_own, lt_i]; omega)]
/-! the matrix -/
def own_ma (σ : St) (r c : Int32) : Int32 := if r < 0 then 0 else if r < 17 then (if c < 0 then 0 else if c < 18 then gA σ 12 (r * 18 + c).toInt else 0) else 0
def own_mp (σ : St) (r c v : Int32) : St := if r < 0 then σ else if r < 17 then (if c < 0 then σ else if c < 18 then sA σ 12 (r * 18 + c).toInt v else σ) else σ
theorem own_ix {r c : Int32} (r0 : ¬ r < 0) (r1 : r < 17) (c0 : ¬ c < 0) (c1 : c < 18) : 0 ≤ (r * 18 + c).toInt ∧ (r * 18 + c).toInt < 306 := by
  have e0 : (0 : Int32).toInt = 0 := rfl
  have e17 : (17 : Int32).toInt = 17 := rfl
  have e18 : (18 : Int32).toInt = 18 := rfl
  rw [lt_i] at r0 r1 c0 c1
  have m : (r * 18).toInt = r.toInt * 18 := by
    have q := c_imul r 18; have s := rng32 (r * 18); rw [e18] at q
    omega
  rw [i_add (by omega) (by omega)]
  omega
theorem own_matAt (σ : St) (r c : Int32) : M_matAt σ r c = some (own_ma σ r c, σ) := by
  unfold M_matAt own_ma
  by_cases r0 : r < 0
  · rw [if_pos r0, if_pos r0]
  · rw [if_neg r0, if_neg r0]
    by_cases r1 : r < 17
    · rw [if_pos r1, if_pos r1]
      by_cases c0 : c < 0
      · rw [if_pos c0, if_pos c0]
      · rw [if_neg c0, if_neg c0]
        by_cases c1 : c < 18
        · rw [if_pos c1, if_pos c1, if_pos (own_ix r0 r1 c0 c1)]
        · rw [if_neg c1, if_neg c1]
    · rw [if_neg r1, if_neg r1]
theorem own_matPut (σ : St) (r c v : Int32) : M_matPut σ r c v = some (own_mp σ r c v) := by
  unfold M_matPut own_mp
  by_cases r0 : r < 0
  · rw [if_pos r0, if_pos r0]
  · rw [if_neg r0, if_neg r0]
    by_cases r1 : r < 17
    · rw [if_pos r1, if_pos r1]
      by_cases c0 : c < 0
      · rw [if_pos c0, if_pos c0]
      · rw [if_neg c0, if_neg c0]
        by_cases c1 : c < 18
        · rw [if_pos c1, if_pos c1, if_pos (own_ix r0 r1 c0 c1)]
        · rw [if_neg c1, if_neg c1]
    · rw [if_neg r1, if_neg r1]
/-- all but the matrix stays -/
def own_mB (t : Int32) (σ : St) : Prop := ∀ i, 0 ≤ i → i < 306 → 0 ≤ (gA σ 12 i).toInt ∧ (gA σ 12 i).toInt < t.toInt
def own_M (t : Int32) (σ σ' : St) : Prop := σ'.1 = σ.1 ∧ σ'.2.1 = σ.2.1 ∧ (∀ k i, (k ≠ 12 ∨ ¬ (0 ≤ i ∧ i < 306)) → gA σ' k i = gA σ k i) ∧ (own_mB t σ → own_mB t σ')
theorem own_M.i {t : Int32} {σ σ' : St} (h : own_M t σ σ') (q : Nat) : gI σ' q = gI σ q := congrFun h.1 q
theorem own_M.n {t : Int32} {σ σ' : St} (h : own_M t σ σ') (hn : own_N σ) : own_N σ' := by unfold own_N; rw [h.i]; exact hn
theorem own_Mr (t : Int32) (σ : St) : own_M t σ σ := ⟨rfl, rfl, fun _ _ _ => rfl, id⟩
theorem own_M.trans {t : Int32} {a b c : St} (h : own_M t a b) (g : own_M t b c) : own_M t a c := ⟨g.1.trans h.1, g.2.1.trans h.2.1, fun k i hk => (g.2.2.1 k i hk).trans (h.2.2.1 k i hk), fun q => g.2.2.2 (h.2.2.2 q)⟩
theorem own_M.put {t : Int32} {a b : St} (h : own_M t a b) (r c v : Int32) (hv : own_mB t a → 0 ≤ v.toInt ∧ v.toInt < t.toInt) : own_M t a (own_mp b r c v) := by
  have key : ∀ i, 0 ≤ i ∧ i < 306 → own_M t a (sA b 12 i v) := fun i hi => ⟨h.1, h.2.1, fun k j hk => by rw [gA_sA, if_neg (fun q => hk.elim (fun h => h q.1) (fun h => h (by rw [q.2]; exact hi)))]; exact h.2.2.1 k j hk, fun q j j0 j1 => by
    rw [gA_sA]
    split
    · exact hv q
    · exact h.2.2.2 q j j0 j1⟩
  unfold own_mp
  split
  · exact h
  · rename_i r0
    split
    · rename_i r1
      split
      · exact h
      · rename_i c0
        split
        · rename_i c1
          exact key _ (own_ix r0 r1 c0 c1)
        · exact h
    · exact h
theorem own_maB {t : Int32} {σ : St} (ht : 0 < t.toInt) (h : own_mB t σ) (r c : Int32) : 0 ≤ (own_ma σ r c).toInt ∧ (own_ma σ r c).toInt < t.toInt := by
  have e0 : (0 : Int32).toInt = 0 := rfl
  unfold own_ma
  split
  · exact ⟨by omega, by omega⟩
  · rename_i r0
    split
    · rename_i r1
      split
      · exact ⟨by omega, by omega⟩
      · rename_i c0
        split
        · rename_i c1
          exact h _ (own_ix r0 r1 c0 c1).1 (own_ix r0 r1 c0 c1).2
        · exact ⟨by omega, by omega⟩
    · exact ⟨by omega, by omega⟩
theorem own_mdB (v t : Int32) (h : 0 < t.toInt) : 0 ≤ (own_md v t).toInt ∧ (own_md v t).toInt < t.toInt := by
  rw [own_mdI v t h]
  exact ⟨Int.emod_nonneg _ (by omega), Int.emod_lt_of_pos _ h⟩
/-- some new state, all but the matrix kept -/
def own_QM (t : Int32) (σ : St) (o : Option St) : Prop := ∃ σ', o = some σ' ∧ own_M t σ σ'
def own_QR (t : Int32) (σ : St) (P : Int32 → Prop) (o : Option (Int32 × St)) : Prop := ∃ r σ', o = some (r, σ') ∧ P r ∧ own_M t σ σ'
theorem own_clearM {NF : Nat} (hF : 1100 < NF) (σ : St) : M_clearMatrix NF σ = some (fillS σ 12 306 fun _ => 0) := by
  unfold M_clearMatrix
  refine fill_loop (l := M_clearMatrix_l2 NF) (w := M_clearMatrix_w2 NF) (fun _ _ _ => rfl) 306 (by decide) 12 (fun _ => 0) some ?_ ?_ NF (by omega) σ
  · intro k i σ h0 h1
    unfold M_clearMatrix_w2
    rw [if_pos (lt_i.mpr h1), if_pos ⟨h0, h1⟩]
  · intro k i σ h
    unfold M_clearMatrix_w2
    rw [if_neg (by rw [lt_i]; show ¬ _ < (306 : Int); omega)]
theorem own_uB (k : Int) (t : Int32) (h : 1 < t.toInt) : 0 ≤ (own_u k).toInt ∧ (own_u k).toInt < t.toInt := by
  have e0 : (0 : Int32).toInt = 0 := rfl
  have e1 : (1 : Int32).toInt = 1 := rfl
  unfold own_u
  split <;> constructor <;> omega
theorem own_build6 {NF : Nat} (hF : 1100 < NF) (σ : St) (hn : own_N σ) (t : Int32) (t1 : 1 < t.toInt) : own_QM t σ (M_buildSystem_l6 NF NF t 0 σ) := by
  have ht : 0 < t.toInt := by omega
  have e0 : (0 : Int32).toInt = 0 := rfl
  obtain ⟨n1, n2⟩ := id hn
  refine loop_up (l := fun n i x => M_buildSystem_l6 NF n t i x) (w := fun kk i x => M_buildSystem_w6 NF (fun _ i τ => kk i τ) t i x) (fun n i x => ?_) (gI σ 121).toInt (by omega) (fun _ x => own_M t σ x) (own_QM t σ) ?_ ?_ NF 0 σ (by decide) (by omega) (own_Mr t σ) (by omega)
  · show M_buildSystem_w6 NF (M_buildSystem_l6 NF n) t i x = M_buildSystem_w6 NF (fun _ i τ => M_buildSystem_l6 NF n t i τ) t i x
    have inner : ∀ (m : Nat) (j : Int32) (τ : St), M_buildSystem_l16 NF (M_buildSystem_l6 NF n) m t i j τ = M_buildSystem_l16 NF (fun _ i τ => M_buildSystem_l6 NF n t i τ) m t i j τ := by
      intro m
      induction m with
      | zero => intro j τ; rfl
      | succ m ih =>
        intro j τ
        show M_buildSystem_w16 NF _ _ _ _ _ _ = M_buildSystem_w16 NF _ _ _ _ _ _
        unfold M_buildSystem_w16
        simp only [ih]
    unfold M_buildSystem_w6
    rw [inner]
  · intro kk i x h0 h1 hx ih
    unfold M_buildSystem_w6
    rw [if_pos (by rw [hx.i]; exact lt_i.mpr h1)]
    refine loop_up (l := fun n j y => M_buildSystem_l16 NF (fun _ i τ => kk i τ) n t i j y) (w := fun kj j y => M_buildSystem_w16 NF (fun _ i τ => kk i τ) (fun _ _ j τ => kj j τ) t i j y) (fun _ _ _ => rfl) (gI σ 121).toInt (by omega) (fun _ y => own_M t σ y) (own_QM t σ) ?_ ?_ NF 0 x (by decide) (by omega) hx (by omega)
    · intro kj j y j0 j1 hy ihj
      unfold M_buildSystem_w16
      obtain ⟨c, c1, c2⟩ := own_cyc y (hy.n hn) i j h0 (by rw [hy.i]; exact h1) j0 (by rw [hy.i]; exact j1)
      rw [hy.i] at c2
      have c3 := Int.emod_nonneg (i.toInt - j.toInt) (show (gI σ 121).toInt ≠ 0 by omega)
      have c4 := Int.emod_lt_of_pos (i.toInt - j.toInt) (show 0 < (gI σ 121).toInt by omega)
      rw [if_pos (by rw [hy.i]; exact lt_i.mpr j1), c1]
      simp only [Option.bind_some]
      rw [own_load y 0 c (by omega) (by omega)]
      simp only [Option.bind_some]
      rw [own_mod y _ t ht]
      simp only [Option.bind_some, own_matPut]
      exact ihj _ (hy.put _ _ _ fun _ => own_mdB _ _ ht)
    · intro kj j y hj hy
      unfold M_buildSystem_w16
      rw [if_neg (by rw [hy.i, lt_i]; omega)]
      simp only [own_unit, Option.bind_some, own_matPut]
      exact ih _ (hy.put _ _ _ fun _ => own_uB _ _ t1)
  · intro kk i x hi hx
    unfold M_buildSystem_w6
    rw [if_neg (by rw [hx.i, lt_i]; omega)]
    exact ⟨x, rfl, hx⟩
theorem own_build {NF : Nat} (hF : 1100 < NF) (σ : St) (hn : own_N σ) (t : Int32) (t1 : 1 < t.toInt) : ∃ σ', M_buildSystem NF σ t = some σ' ∧ own_M t σ σ' ∧ own_mB t σ' := by
  unfold M_buildSystem
  rw [own_clearM hF]
  simp only [Option.bind_some]
  have hB : own_mB t (fillS σ 12 306 fun _ => 0) := fun i i0 i1 => by
    rw [gA_fill, if_pos ⟨rfl, i0, i1⟩]
    exact ⟨by decide, by show (0 : Int) < _; omega⟩
  have h : own_M t σ (fillS σ 12 306 fun _ => 0) := ⟨rfl, rfl, fun k i hk => by rw [gA_fill, if_neg (fun q => hk.elim (fun h => h q.1) (fun h => h q.2))], fun _ => hB⟩
  obtain ⟨σ', a, b⟩ := own_build6 hF _ (h.n hn) t t1
  exact ⟨σ', a, h.trans b, b.2.2.2 hB⟩
theorem own_inv {NF : Nat} (hF : 1100 < NF) (σ : St) (v t : Int32) (t1 : 1 < t.toInt) (t2 : t.toInt ≤ 3) : ∃ r, M_inverseMod NF σ v t = some (r, σ) := by
  have e1 : (1 : Int32).toInt = 1 := rfl
  unfold M_inverseMod
  rw [if_pos (by rw [lt_i]; omega), own_mod σ _ _ (by omega)]
  simp only [Option.bind_some]
  refine loop_up (l := fun n i x => M_inverseMod_l17 NF n t (own_md v t) i x) (w := fun kk i x => M_inverseMod_w17 NF (fun _ _ i τ => kk i τ) t (own_md v t) i x) (fun _ _ _ => rfl) t.toInt (by omega) (fun _ x => x = σ) (fun o => ∃ r, o = some (r, σ)) ?_ ?_ NF 1 σ (by decide) (by omega) rfl (by omega)
  · intro kk i x h0 h1 hx ih
    unfold M_inverseMod_w17
    subst hx
    rw [if_pos (lt_i.mpr h1), if_pos (by rw [lt_i]; show _ < (1024 : Int); omega), own_mod x _ _ (by omega)]
    simp only [Option.bind_some]
    split
    · exact ⟨_, rfl⟩
    · exact ih x rfl
  · intro kk i x hi hx
    unfold M_inverseMod_w17
    subst hx
    rw [if_neg (by rw [lt_i]; omega)]
    exact ⟨_, rfl⟩
theorem own_pivot {NF : Nat} (hF : 1100 < NF) (σ : St) (hn : own_N σ) (c t : Int32) (c0 : 0 ≤ c.toInt) (c1 : c.toInt < (gI σ 121).toInt) (t1 : 1 < t.toInt) (t2 : t.toInt ≤ 3) : ∃ r, M_findPivot NF σ c t = some (r, σ) := by
  obtain ⟨n1, n2⟩ := id hn
  unfold M_findPivot
  refine loop_up (l := fun n i x => M_findPivot_l2 NF n c t i x) (w := fun kk i x => M_findPivot_w2 NF (fun _ _ i τ => kk i τ) c t i x) (fun _ _ _ => rfl) (gI σ 121).toInt (by omega) (fun _ x => x = σ) (fun o => ∃ r, o = some (r, σ)) ?_ ?_ NF c σ c0 (by omega) rfl (by omega)
  · intro kk i x h0 h1 hx ih
    unfold M_findPivot_w2
    subst hx
    obtain ⟨r, hr⟩ := own_inv hF x (own_ma x i c) t t1 t2
    rw [if_pos (lt_i.mpr h1), own_matAt]
    simp only [Option.bind_some, hr]
    split
    · exact ih x rfl
    · exact ⟨_, rfl⟩
  · intro kk i x hi hx
    unfold M_findPivot_w2
    subst hx
    rw [if_neg (by rw [lt_i]; omega)]
    exact ⟨_, rfl⟩
theorem own_swap {NF : Nat} (hF : 1100 < NF) (σ : St) (hn : own_N σ) (a b t : Int32) (ht : 0 < t.toInt) : own_QM t σ (M_swapRows NF σ a b) := by
  have e0 : (0 : Int32).toInt = 0 := rfl
  obtain ⟨n1, n2⟩ := id hn
  unfold M_swapRows
  split
  · exact ⟨σ, rfl, own_Mr t σ⟩
  refine loop_up (l := fun n i x => M_swapRows_l8 NF n a b i x) (w := fun kk i x => M_swapRows_w8 NF (fun _ _ i τ => kk i τ) a b i x) (fun _ _ _ => rfl) ((gI σ 121).toInt + 1) (by omega) (fun _ x => own_M t σ x) (own_QM t σ) ?_ ?_ NF 0 σ (by decide) (by omega) (own_Mr t σ) (by omega)
  · intro kk i x h0 h1 hx ih
    unfold M_swapRows_w8
    rw [if_neg (by rw [hx.i, lt_i]; omega)]
    simp only [own_matAt, own_matPut, Option.bind_some]
    exact ih _ ((hx.put _ _ _ fun q => own_maB ht (hx.2.2.2 q) _ _).put _ _ _ fun q => own_maB ht (hx.2.2.2 q) _ _)
  · intro kk i x hi hx
    unfold M_swapRows_w8
    rw [if_pos (by rw [hx.i, lt_i]; omega)]
    exact ⟨x, rfl, hx⟩
theorem own_scale {NF : Nat} (hF : 1100 < NF) (σ : St) (hn : own_N σ) (a f t : Int32) (ht : 0 < t.toInt) : own_QM t σ (M_scaleRow NF σ a f t) := by
  have e0 : (0 : Int32).toInt = 0 := rfl
  obtain ⟨n1, n2⟩ := id hn
  unfold M_scaleRow
  refine loop_up (l := fun n i x => M_scaleRow_l3 NF n a f t i x) (w := fun kk i x => M_scaleRow_w3 NF (fun _ _ _ i τ => kk i τ) a f t i x) (fun _ _ _ => rfl) ((gI σ 121).toInt + 1) (by omega) (fun _ x => own_M t σ x) (own_QM t σ) ?_ ?_ NF 0 σ (by decide) (by omega) (own_Mr t σ) (by omega)
  · intro kk i x h0 h1 hx ih
    unfold M_scaleRow_w3
    rw [if_neg (by rw [hx.i, lt_i]; omega)]
    simp only [own_matAt, own_matPut, own_mod _ _ t ht, Option.bind_some]
    exact ih _ (hx.put _ _ _ fun _ => own_mdB _ _ ht)
  · intro kk i x hi hx
    unfold M_scaleRow_w3
    rw [if_pos (by rw [hx.i, lt_i]; omega)]
    exact ⟨x, rfl, hx⟩
theorem own_subr {NF : Nat} (hF : 1100 < NF) (σ : St) (hn : own_N σ) (a b f t : Int32) (ht : 0 < t.toInt) : own_QM t σ (M_subtractRow NF σ a b f t) := by
  have e0 : (0 : Int32).toInt = 0 := rfl
  obtain ⟨n1, n2⟩ := id hn
  unfold M_subtractRow
  refine loop_up (l := fun n i x => M_subtractRow_l3 NF n a b f t i x) (w := fun kk i x => M_subtractRow_w3 NF (fun _ _ _ _ i τ => kk i τ) a b f t i x) (fun _ _ _ => rfl) ((gI σ 121).toInt + 1) (by omega) (fun _ x => own_M t σ x) (own_QM t σ) ?_ ?_ NF 0 σ (by decide) (by omega) (own_Mr t σ) (by omega)
  · intro kk i x h0 h1 hx ih
    unfold M_subtractRow_w3
    rw [if_neg (by rw [hx.i, lt_i]; omega)]
    simp only [own_matAt, own_matPut, own_mod _ _ t ht, Option.bind_some]
    exact ih _ (hx.put _ _ _ fun _ => own_mdB _ _ ht)
  · intro kk i x hi hx
    unfold M_subtractRow_w3
    rw [if_pos (by rw [hx.i, lt_i]; omega)]
    exact ⟨x, rfl, hx⟩
theorem own_ccol {NF : Nat} (hF : 1100 < NF) (σ : St) (hn : own_N σ) (c t : Int32) (ht : 0 < t.toInt) : own_QM t σ (M_clearColumn NF σ c t) := by
  have e0 : (0 : Int32).toInt = 0 := rfl
  obtain ⟨n1, n2⟩ := id hn
  unfold M_clearColumn
  refine loop_up (l := fun n i x => M_clearColumn_l2 NF n c t i x) (w := fun kk i x => M_clearColumn_w2 NF (fun _ _ i τ => kk i τ) c t i x) (fun _ _ _ => rfl) (gI σ 121).toInt (by omega) (fun _ x => own_M t σ x) (own_QM t σ) ?_ ?_ NF 0 σ (by decide) (by omega) (own_Mr t σ) (by omega)
  · intro kk i x h0 h1 hx ih
    unfold M_clearColumn_w2 M_clearColumn_b43
    rw [if_pos (by rw [hx.i]; exact lt_i.mpr h1)]
    split
    · exact ih x hx
    · simp only [own_matAt, Option.bind_some]
      split
      · exact ih x hx
      · obtain ⟨y, y1, y2⟩ := own_subr hF x (hx.n hn) i c (own_ma x i c) t ht
        rw [y1]
        exact ih y (hx.trans y2)
  · intro kk i x hi hx
    unfold M_clearColumn_w2
    rw [if_neg (by rw [hx.i, lt_i]; omega)]
    exact ⟨x, rfl, hx⟩
theorem own_elim {NF : Nat} (hF : 1100 < NF) (σ : St) (hn : own_N σ) (t : Int32) (t1 : 1 < t.toInt) (t2 : t.toInt ≤ 3) : own_QR t σ (fun r => r = 0 ∨ r = 1) (M_eliminate NF σ t) := by
  have e0 : (0 : Int32).toInt = 0 := rfl
  obtain ⟨n1, n2⟩ := id hn
  unfold M_eliminate
  refine loop_up (l := fun n i x => M_eliminate_l2 NF n t i x) (w := fun kk i x => M_eliminate_w2 NF (fun _ i τ => kk i τ) t i x) (fun _ _ _ => rfl) (gI σ 121).toInt (by omega) (fun _ x => own_M t σ x) (own_QR t σ (fun r => r = 0 ∨ r = 1)) ?_ ?_ NF 0 σ (by decide) (by omega) (own_Mr t σ) (by omega)
  · intro kk i x h0 h1 hx ih
    unfold M_eliminate_w2
    obtain ⟨p, hp⟩ := own_pivot hF x (hx.n hn) i t h0 (by rw [hx.i]; exact h1) t1 t2
    rw [if_pos (by rw [hx.i]; exact lt_i.mpr h1), hp]
    simp only [Option.bind_some]
    split
    · exact ⟨0, x, rfl, Or.inl rfl, hx⟩
    · obtain ⟨y, y1, y2⟩ := own_swap hF x (hx.n hn) p i t (by omega)
      have hy := hx.trans y2
      rw [y1]
      simp only [Option.bind_some, own_matAt]
      obtain ⟨v, hv⟩ := own_inv hF y (own_ma y i i) t t1 t2
      rw [hv]
      simp only [Option.bind_some]
      obtain ⟨z, z1, z2⟩ := own_scale hF y (hy.n hn) i v t (by omega)
      have hz := hy.trans z2
      rw [z1]
      simp only [Option.bind_some]
      obtain ⟨u, u1, u2⟩ := own_ccol hF z (hz.n hn) i t (by omega)
      rw [u1]
      exact ih u (hz.trans u2)
  · intro kk i x hi hx
    unfold M_eliminate_w2
    rw [if_neg (by rw [hx.i, lt_i]; omega)]
    exact ⟨1, x, rfl, Or.inr rfl, hx⟩
theorem own_read {NF : Nat} (hF : 1100 < NF) (σ : St) (hn : own_N σ) (w : Int32) (hw : own_k w ≠ 12) : M_readSolution NF σ w = some (own_fill σ w (gI σ 121).toInt fun j => own_ma σ (Int32.ofInt j) (gI σ 121)) := by
  obtain ⟨n1, n2⟩ := id hn
  unfold M_readSolution
  refine own_fl (l := fun n i x => M_readSolution_l2 NF n w i x) (wf := fun kk i x => M_readSolution_w2 NF (fun _ i τ => kk i τ) w i x) (fun _ _ _ => rfl) (gI σ 121).toInt (by omega) (by omega) σ w (fun j => own_ma σ (Int32.ofInt j) (gI σ 121)) some ?_ ?_ NF (by omega)
  · intro kk i x h0 h1 hx
    unfold M_readSolution_w2
    have hg : gI x 121 = gI σ 121 := by rw [hx, gI_own]
    have hm : own_ma x i (gI σ 121) = own_ma σ (Int32.ofInt i.toInt) (gI σ 121) := by
      rw [Int32.ofInt_toInt]
      unfold own_ma
      rw [hx, gA_own _ _ _ _ _ _ (fun q => hw q.symm)]
    rw [hg, if_pos (lt_i.mpr h1), own_matAt]
    simp only [Option.bind_some]
    rw [own_store x w i _ h0 (by omega), hm]
    rfl
  · intro kk i x hi hx
    unfold M_readSolution_w2
    rw [if_neg (by rw [hx, gI_own, lt_i]; omega)]
/-! the inverses -/
/-- the draft times the polynomial behind s is 1 mod t -/
def own_isInv (σ : St) (s t : Int32) : Prop := ∀ k : Int, 0 ≤ k → k < (gI σ 121).toInt → own_md (own_cv σ 0 s k) t = own_u k
theorem own_isI {NF : Nat} (hF : 1100 < NF) (σ : St) (hn : own_N σ) (s t : Int32) (ht : 0 < t.toInt) : ∃ r, M_isInverseOfDraft NF σ s t = some (r, σ) ∧ ((r = 0 ∧ ¬ own_isInv σ s t) ∨ (r = 1 ∧ own_isInv σ s t)) := by
  have e0 : (0 : Int32).toInt = 0 := rfl
  obtain ⟨n1, n2⟩ := id hn
  unfold M_isInverseOfDraft
  refine loop_up (l := fun n i x => M_isInverseOfDraft_l2 NF n s t i x) (w := fun kk i x => M_isInverseOfDraft_w2 NF (fun _ _ i τ => kk i τ) s t i x) (fun _ _ _ => rfl) (gI σ 121).toInt (by omega) (fun i x => x = σ ∧ ∀ k : Int, 0 ≤ k → k < i → own_md (own_cv σ 0 s k) t = own_u k) (fun o => ∃ r, o = some (r, σ) ∧ ((r = 0 ∧ ¬ own_isInv σ s t) ∨ (r = 1 ∧ own_isInv σ s t))) ?_ ?_ NF 0 σ (by decide) (by omega) ⟨rfl, fun k a b => by omega⟩ (by omega)
  · rintro kk i x h0 h1 ⟨hx, hp⟩ ih
    unfold M_isInverseOfDraft_w2
    subst hx
    rw [if_pos (lt_i.mpr h1), own_convAt hF x hn 0 s i h0 h1]
    simp only [Option.bind_some]
    rw [own_mod x _ t ht]
    simp only [Option.bind_some, own_unit]
    split
    · rename_i c
      refine ih x ⟨rfl, fun k k0 k1 => ?_⟩
      by_cases hk : k < i.toInt
      · exact hp k k0 hk
      · rw [show k = i.toInt by omega]; exact c
    · rename_i c
      exact ⟨0, rfl, Or.inl ⟨rfl, fun q => c (q i.toInt h0 h1)⟩⟩
  · rintro kk i x hi ⟨hx, hp⟩
    unfold M_isInverseOfDraft_w2
    subst hx
    rw [if_neg (by rw [lt_i]; omega)]
    exact ⟨1, rfl, Or.inr ⟨rfl, hp⟩⟩
/-- all but the arrays from 12 on stays -/
def own_S (σ σ' : St) : Prop := σ'.1 = σ.1 ∧ σ'.2.1 = σ.2.1 ∧ ∀ k i, (k < 12 ∨ (k = 12 ∧ ¬ (0 ≤ i ∧ i < 306))) → gA σ' k i = gA σ k i
theorem own_S.i {σ σ' : St} (h : own_S σ σ') (q : Nat) : gI σ' q = gI σ q := congrFun h.1 q
theorem own_S.n {σ σ' : St} (h : own_S σ σ') (hn : own_N σ) : own_N σ' := by unfold own_N; rw [h.i]; exact hn
theorem own_S.s {σ σ' : St} (h : own_S σ σ') (hn : own_sel σ) : own_sel σ' := by unfold own_sel; rw [h.i, h.i, h.i, h.i]; exact hn
theorem own_Sr (σ : St) : own_S σ σ := ⟨rfl, rfl, fun _ _ _ => rfl⟩
theorem own_S.trans {a b c : St} (h : own_S a b) (g : own_S b c) : own_S a c := ⟨g.1.trans h.1, g.2.1.trans h.2.1, fun k i hk => (g.2.2 k i hk).trans (h.2.2 k i hk)⟩
theorem own_M.S {t : Int32} {a b : St} (h : own_M t a b) : own_S a b := ⟨h.1, h.2.1, fun k i hk => h.2.2.1 k i (hk.elim (fun q => Or.inl (by omega)) fun q => Or.inr q.2)⟩
theorem own_fI (σ : St) (w : Int32) (N : Int) (g : Int → Int32) : (own_fill σ w N g).1 = σ.1 ∧ (own_fill σ w N g).2.1 = σ.2.1 := by
  unfold own_fill; split
  · exact ⟨rfl, rfl⟩
  · exact ⟨rfl, rfl⟩
theorem own_SF (σ : St) (w : Int32) (N : Int) (g : Int → Int32) (hw : 12 < own_k w) : own_S σ (own_fill σ w N g) := ⟨(own_fI σ w N g).1, (own_fI σ w N g).2, fun k i hk => gA_own _ _ _ _ _ _ (by omega)⟩
theorem own_byE {NF : Nat} (hF : 1100 < NF) (σ : St) (hn : own_N σ) (t s : Int32) (t1 : 1 < t.toInt) (t2 : t.toInt ≤ 3) (hs : 12 < own_k s) : ∃ r σ', M_invertByElimination NF σ t s = some (r, σ') ∧ own_S σ σ' ∧ (∀ k i, k ≠ 12 → k ≠ own_k s → gA σ' k i = gA σ k i) ∧ (r = 0 ∨ (r = 1 ∧ own_isInv σ' s t ∧ ∀ i, 0 ≤ i → i < (gI σ 121).toInt → 0 ≤ (gA σ' (own_k s) i).toInt ∧ (gA σ' (own_k s) i).toInt < t.toInt)) := by
  unfold M_invertByElimination
  obtain ⟨a, a1, a2, a3⟩ := own_build hF σ hn t t1
  rw [a1]
  simp only [Option.bind_some]
  obtain ⟨r, b, b1, b2, b3⟩ := own_elim hF a (a2.n hn) t t1 t2
  have hb := a2.trans b3
  rw [b1]
  simp only [Option.bind_some]
  rcases b2 with rfl | rfl
  · exact ⟨0, b, rfl, hb.S, fun k i h1 _ => hb.2.2.1 k i (Or.inl h1), Or.inl rfl⟩
  · rw [if_neg (by decide), own_read hF b (hb.n hn) s (by omega)]
    simp only [Option.bind_some]
    obtain ⟨v, v1, v2⟩ := own_isI hF (own_fill b s (gI b 121).toInt fun j => own_ma b (Int32.ofInt j) (gI b 121)) (own_NF (hb.n hn)) s t (by omega)
    rw [v1]
    simp only [Option.bind_some]
    refine ⟨_, _, rfl, hb.S.trans (own_SF _ _ _ _ (by omega)), fun k i h1 h2 => (gA_own _ _ _ _ _ _ h2).trans (hb.2.2.1 k i (Or.inl h1)), ?_⟩
    rcases v2 with ⟨rfl, _⟩ | ⟨rfl, v2⟩
    · exact Or.inl nar0
    · refine Or.inr ⟨nar1, v2, fun i i0 i1 => ?_⟩
      rw [gA_ownF _ _ _ _ _ (by omega), if_pos ⟨i0, by rw [hb.i]; exact i1⟩]
      exact own_maB (by omega) (b3.2.2.2 a3) _ _
theorem own_inv3 {NF : Nat} (hF : 1100 < NF) (σ : St) (hn : own_N σ) (hs : own_sel σ) : ∃ r σ', M_invertModThree NF σ = some (r, σ') ∧ own_S σ σ' ∧ (r = 0 ∨ (r = 1 ∧ own_isInv σ' 11 3 ∧ ∀ i, 0 ≤ i → i < (gI σ 121).toInt → 0 ≤ (gA σ' 13 i).toInt ∧ (gA σ' 13 i).toInt < 3)) := by
  unfold M_invertModThree
  rw [hs.1]
  obtain ⟨r, σ', a1, a2, _, a3⟩ := own_byE hF σ hn 3 11 (by decide) (by decide) (by decide)
  rw [a1]
  simp only [Option.bind_some]
  refine ⟨_, σ', rfl, a2, ?_⟩
  rcases a3 with rfl | ⟨rfl, a3⟩
  · exact Or.inl nar0
  · exact Or.inr ⟨nar1, a3⟩
def own_QS (σ : St) (o : Option St) : Prop := ∃ σ', o = some σ' ∧ own_S σ σ' ∧ (∀ i, gA σ' 13 i = gA σ 13 i) ∧ ∀ i, 0 ≤ i → i < (gI σ 121).toInt → 0 ≤ (gA σ' 14 i).toInt ∧ (gA σ' 14 i).toInt < (gI σ 122).toInt
theorem own_newton {NF : Nat} (hF : 1100 < NF) (σ : St) (hn : own_N σ) (hq : 0 < (gI σ 122).toInt) (hs : own_sel σ) : own_QS σ (M_newtonStep NF σ) := by
  unfold M_newtonStep
  rw [own_corr1 hF σ hn hq hs]
  simp only [Option.bind_some]
  generalize ha : own_fill σ 13 _ _ = a
  have sa : own_S σ a := by subst ha; exact own_SF _ _ _ _ (by decide)
  have ta : ∀ i, gA a 13 i = gA σ 13 i := fun i => by subst ha; exact gA_own _ _ _ _ _ _ (by decide)
  rw [own_corr2 hF a (sa.n hn) (by rw [sa.i]; exact hq) (sa.s hs)]
  simp only [Option.bind_some]
  generalize hb : own_fill a 14 _ _ = b
  have sb : own_S a b := by subst hb; exact own_SF _ _ _ _ (by decide)
  have tb : ∀ i, gA b 13 i = gA a 13 i := fun i => by subst hb; exact gA_own _ _ _ _ _ _ (by decide)
  have rb : ∀ i, 0 ≤ i → i < (gI σ 121).toInt → 0 ≤ (gA b 16 i).toInt ∧ (gA b 16 i).toInt < (gI σ 122).toInt := fun i i0 i1 => by
    subst hb
    have := gA_ownF a 14 (gI a 121).toInt (fun k => own_md (own_cv a 12 13 k) (gI a 122)) i (by decide)
    rw [show own_k 14 = 16 from by decide] at this
    rw [this, if_pos ⟨i0, by rw [sa.i]; exact i1⟩, sa.i]
    exact own_mdB _ _ hq
  have hh := (sa.trans sb).s hs
  rw [hh.2.2.2, hh.2.1, own_copy hF b ((sa.trans sb).n hn) 14 12 (by decide)]
  simp only [Option.bind_some]
  refine ⟨_, rfl, (sa.trans sb).trans (own_SF _ _ _ _ (by decide)), fun i => ((gA_own _ _ _ _ _ _ (by decide)).trans (tb i)).trans (ta i), fun i i0 i1 => ?_⟩
  have := gA_ownF b 12 (gI b 121).toInt (own_v b 14) i (by decide)
  rw [show own_k 12 = 14 from by decide] at this
  rw [this, if_pos ⟨i0, by rw [(sa.trans sb).i]; exact i1⟩]
  exact rb i i0 i1
theorem own_invQ {NF : Nat} (hF : 1100 < NF) (σ : St) (hn : own_N σ) (hq : 0 < (gI σ 122).toInt) (hs : own_sel σ) : ∃ r σ', M_invertModQ NF σ = some (r, σ') ∧ own_S σ σ' ∧ (∀ i, gA σ' 13 i = gA σ 13 i) ∧ (r = 0 ∨ (r = 1 ∧ own_isInv σ' 12 (gI σ 122) ∧ ∀ i, 0 ≤ i → i < (gI σ 121).toInt → 0 ≤ (gA σ' 14 i).toInt ∧ (gA σ' 14 i).toInt < (gI σ 122).toInt)) := by
  have e0 : (0 : Int32).toInt = 0 := rfl
  unfold M_invertModQ
  rw [hs.2.1]
  obtain ⟨r, τ, a1, a2, a4, a3⟩ := own_byE hF σ hn 2 12 (by decide) (by decide) (by decide)
  rw [a1]
  simp only [Option.bind_some]
  have t13 : ∀ i, gA τ 13 i = gA σ 13 i := fun i => a4 13 i (by decide) (by decide)
  rcases a3 with rfl | ⟨rfl, _⟩
  · exact ⟨0, τ, rfl, a2, t13, Or.inl rfl⟩
  · rw [if_neg (by decide)]
    refine loop_up (l := fun n i x => M_invertModQ_l18 NF n i x) (w := fun kk i x => M_invertModQ_w18 NF kk i x) (fun _ _ _ => rfl) 3 (by decide) (fun j x => own_S σ x ∧ (∀ i, gA x 13 i = gA σ 13 i) ∧ (0 < j → ∀ i, 0 ≤ i → i < (gI σ 121).toInt → 0 ≤ (gA x 14 i).toInt ∧ (gA x 14 i).toInt < (gI σ 122).toInt)) (fun o => ∃ r σ', o = some (r, σ') ∧ own_S σ σ' ∧ (∀ i, gA σ' 13 i = gA σ 13 i) ∧ (r = 0 ∨ (r = 1 ∧ own_isInv σ' 12 (gI σ 122) ∧ ∀ i, 0 ≤ i → i < (gI σ 121).toInt → 0 ≤ (gA σ' 14 i).toInt ∧ (gA σ' 14 i).toInt < (gI σ 122).toInt))) ?_ ?_ NF 0 τ (by decide) (by decide) ⟨a2, t13, fun q => absurd q (by decide)⟩ (by omega)
    · rintro kk i x h0 h1 ⟨hx, h13, _⟩ ih
      unfold M_invertModQ_w18
      obtain ⟨y, y1, y2, y3, y4⟩ := own_newton hF x (hx.n hn) (by rw [hx.i]; exact hq) (hx.s hs)
      rw [if_pos (by rw [lt_i]; exact h1), y1]
      exact ih y ⟨hx.trans y2, fun i => (y3 i).trans (h13 i), fun _ => by rw [hx.i, hx.i] at y4; exact y4⟩
    · rintro kk i x hi ⟨hx, h13, h14⟩
      unfold M_invertModQ_w18
      rw [if_neg (by rw [lt_i]; show ¬ _ < (3 : Int); omega), (hx.s hs).2.1, hx.i]
      obtain ⟨v, v1, v2⟩ := own_isI hF x (hx.n hn) 12 (gI σ 122) hq
      rw [v1]
      simp only [Option.bind_some]
      refine ⟨_, x, rfl, hx, h13, ?_⟩
      rcases v2 with ⟨rfl, _⟩ | ⟨rfl, v2⟩
      · exact Or.inl nar0
      · exact Or.inr ⟨nar1, v2, h14 (by decide)⟩
/-- the key's property -/
def own_key (σ : St) : Prop := ∀ k : Int, 0 ≤ k → k < (gI σ 121).toInt → own_md (own_cv σ 5 6 k) 3 = own_u k ∧ own_md (own_cv σ 5 7 k) (gI σ 122) = own_u k
theorem own_keygen {NF : Nat} (hF : 1100 < NF) (σ : St) (hn : own_N σ) (hq : 0 < (gI σ 122).toInt) (hs : own_sel σ) :
    (∃ r σ', M_keygen NF σ = some (r, σ') ∧ (r = 1 ∨ r = 2) ∧ own_S σ σ') ∨
    (∃ σ', M_keygen NF σ = some (0, σ') ∧ (∀ q, q ≠ 124 → q ≠ 125 → gI σ' q = gI σ q) ∧ gI σ' 124 = 1 ∧ gI σ' 125 = gI σ 125 + 1 ∧ (∀ k i, k < 12 → k ≠ 6 → k ≠ 7 → k ≠ 8 → k ≠ 9 → gA σ' k i = gA σ k i) ∧ (∀ i, gA σ' 6 i = if 0 ≤ i ∧ i < (gI σ 121).toInt then gA σ 1 i else gA σ 6 i) ∧ own_key σ' ∧ (∀ i, 0 ≤ i → i < (gI σ 121).toInt → (0 ≤ (gA σ' 7 i).toInt ∧ (gA σ' 7 i).toInt < 3) ∧ (0 ≤ (gA σ' 8 i).toInt ∧ (gA σ' 8 i).toInt < (gI σ 122).toInt) ∧ gA σ' 9 i = own_md (own_cv σ' 7 1 i) (gI σ 122))) := by
  unfold M_keygen
  obtain ⟨r, a, a1, a2, a3⟩ := own_inv3 hF σ hn hs
  rw [a1]
  simp only [Option.bind_some]
  rcases a3 with rfl | ⟨rfl, a3, a5⟩
  · exact Or.inl ⟨1, a, rfl, Or.inl rfl, a2⟩
  rw [if_neg (by decide)]
  obtain ⟨r, b, b1, b2, b4, b3⟩ := own_invQ hF a (a2.n hn) (by rw [a2.i]; exact hq) (a2.s hs)
  have hb := a2.trans b2
  rw [b1]
  simp only [Option.bind_some]
  rcases b3 with rfl | ⟨rfl, b3, b5⟩
  · exact Or.inl ⟨2, b, rfl, Or.inr rfl, hb⟩
  rw [if_neg (by decide)]
  right
  have n1 := hb.n hn
  have hsb := hb.s hs
  unfold M_installKey
  rw [own_copy hF b n1 0 5 (by decide)]
  simp only [Option.bind_some]
  generalize hc : own_fill b 5 _ _ = c
  have ic : ∀ q, gI c q = gI b q := fun q => by subst hc; exact gI_own _ _ _ _ _
  have nc : own_N c := by subst hc; exact own_NF n1
  rw [ic 142, hsb.1, own_copy hF c nc 11 6 (by decide)]
  simp only [Option.bind_some]
  generalize hd : own_fill c 6 _ _ = d
  have id' : ∀ q, gI d q = gI b q := fun q => by subst hd; rw [gI_own]; exact ic q
  have nd : own_N d := by subst hd; exact own_NF nc
  rw [id' 143, hsb.2.1, own_copy hF d nd 12 7 (by decide)]
  simp only [Option.bind_some]
  generalize he : own_fill d 7 _ _ = e
  have ie : ∀ q, gI e q = gI b q := fun q => by subst he; rw [gI_own]; exact id' q
  have ne : own_N e := by subst he; exact own_NF nd
  rw [own_pub hF e ne (by rw [ie, hb.i]; exact hq)]
  simp only [Option.bind_some]
  generalize hf : own_fill e 8 _ _ = f
  have if' : ∀ q, gI f q = gI σ q := fun q => by subst hf; rw [gI_own, ie]; exact hb.i q
  -- the arrays
  have k5 : own_k 5 = 6 := by decide
  have k6 : own_k 6 = 7 := by decide
  have k7 : own_k 7 = 8 := by decide
  have k8 : own_k 8 = 9 := by decide
  have A : ∀ k i, k < 12 → k ≠ 6 → k ≠ 7 → k ≠ 8 → k ≠ 9 → gA f k i = gA σ k i := by
    intro k i h1 h2 h3 h4 h5
    subst hf; rw [gA_own _ _ _ _ _ _ (by rw [k8]; exact h5)]
    subst he; rw [gA_own _ _ _ _ _ _ (by rw [k7]; exact h4)]
    subst hd; rw [gA_own _ _ _ _ _ _ (by rw [k6]; exact h3)]
    subst hc; rw [gA_own _ _ _ _ _ _ (by rw [k5]; exact h2)]
    exact hb.2.2 k i (Or.inl h1)
  have cN : (gI b 121).toInt = (gI σ 121).toInt := by rw [hb.i]
  have A6 : ∀ i, gA f 6 i = if 0 ≤ i ∧ i < (gI σ 121).toInt then gA σ 1 i else gA σ 6 i := by
    intro i
    subst hf; rw [gA_own _ _ _ _ _ _ (by decide)]
    subst he; rw [gA_own _ _ _ _ _ _ (by decide)]
    subst hd; rw [gA_own _ _ _ _ _ _ (by decide)]
    subst hc
    have := gA_ownF b 5 (gI b 121).toInt (own_v b 0) i (by decide)
    rw [k5] at this
    rw [this, cN, hb.2.2 6 i (Or.inl (by decide))]
    show (if _ then gA b 1 i else _) = _
    rw [hb.2.2 1 i (Or.inl (by decide))]
  have A7 : ∀ i, 0 ≤ i → i < (gI σ 121).toInt → gA f 7 i = gA b 13 i := by
    intro i i0 i1
    subst hf; rw [gA_own _ _ _ _ _ _ (by decide)]
    subst he; rw [gA_own _ _ _ _ _ _ (by decide)]
    subst hd
    have := gA_ownF c 6 (gI c 121).toInt (own_v c 11) i (by decide)
    rw [k6] at this
    rw [this, if_pos ⟨i0, by rw [ic, cN]; exact i1⟩]
    show gA c 13 i = _
    subst hc; rw [gA_own _ _ _ _ _ _ (by decide)]
  have A8 : ∀ i, 0 ≤ i → i < (gI σ 121).toInt → gA f 8 i = gA b 14 i := by
    intro i i0 i1
    subst hf; rw [gA_own _ _ _ _ _ _ (by decide)]
    subst he
    have := gA_ownF d 7 (gI d 121).toInt (own_v d 12) i (by decide)
    rw [k7] at this
    rw [this, if_pos ⟨i0, by rw [id', cN]; exact i1⟩]
    show gA d 14 i = _
    subst hd; rw [gA_own _ _ _ _ _ _ (by decide)]
    subst hc; rw [gA_own _ _ _ _ _ _ (by decide)]
  have A9 : ∀ i, 0 ≤ i → i < (gI σ 121).toInt → gA f 9 i = own_md (own_cv e 7 1 i) (gI σ 122) := by
    intro i i0 i1
    subst hf
    have := gA_ownF e 8 (gI e 121).toInt (fun k => own_md (own_cv e 7 1 k) (gI e 122)) i (by decide)
    rw [k8] at this
    rw [this, if_pos ⟨i0, by rw [ie, cN]; exact i1⟩, ie, hb.i]
  refine ⟨_, rfl, ?_, ?_, ?_, A, A6, ?_, fun i i0 i1 => ⟨?_, ?_, ?_⟩⟩
  · intro q q1 q2
    rw [gI_sI, if_neg q2, gI_sI, if_neg q1]; exact if' q
  · rw [gI_sI, if_neg (by decide), gI_sI, if_pos rfl]
  · rw [gI_sI, if_pos rfl, gI_sI, if_neg (by decide), if']
  · have g1 : ∀ x : St, gI (sI (sI f 124 1) 125 (gI (sI f 124 1) 125 + 1)) 121 = gI σ 121 := fun _ => by rw [gI_sI, if_neg (by decide), gI_sI, if_neg (by decide), if']
    have g2 : gI (sI (sI f 124 1) 125 (gI (sI f 124 1) 125 + 1)) 122 = gI σ 122 := by rw [gI_sI, if_neg (by decide), gI_sI, if_neg (by decide), if']
    obtain ⟨m1, m2⟩ := id hn
    intro k h0 h1
    rw [g1 f] at h1
    rw [g2]
    have v5 : ∀ i, 0 ≤ i → i < (gI σ 121).toInt → own_v (sI (sI f 124 1) 125 (gI (sI f 124 1) 125 + 1)) 5 i = gA σ 1 i := by
      intro i i0 i1
      show gA f 6 i = _
      rw [A6, if_pos ⟨i0, i1⟩]
    have w3 := a3 k h0 (by rw [a2.i]; exact h1)
    have wq := b3 k h0 (by rw [hb.i]; exact h1)
    rw [a2.i] at wq
    unfold own_cv at w3 wq ⊢
    rw [g1 f]
    rw [a2.i] at w3
    rw [hb.i] at wq
    constructor
    · rw [← w3]
      congr 1
      refine own_convC _ _ (by omega) (fun i i0 i1 => ?_) (fun i i0 i1 => ?_) _ (by omega)
      · rw [v5 i i0 i1]
        show _ = gA a 1 i
        rw [a2.2.2 1 i (Or.inl (by decide))]
      · show gA f 7 i = gA a 13 i
        rw [A7 i i0 i1, b4]
    · rw [← wq]
      congr 1
      refine own_convC _ _ (by omega) (fun i i0 i1 => ?_) (fun i i0 i1 => ?_) _ (by omega)
      · rw [v5 i i0 i1]
        show _ = gA b 1 i
        rw [hb.2.2 1 i (Or.inl (by decide))]
      · show gA f 8 i = gA b 14 i
        rw [A8 i i0 i1]
  · show 0 ≤ (gA f 7 i).toInt ∧ (gA f 7 i).toInt < 3
    rw [A7 i i0 i1, b4]
    exact a5 i i0 i1
  · show 0 ≤ (gA f 8 i).toInt ∧ (gA f 8 i).toInt < _
    rw [A8 i i0 i1, ← a2.i 122]
    exact b5 i i0 (by rw [a2.i]; exact i1)
  · show gA f 9 i = _
    rw [A9 i i0 i1]
    congr 1
    have h7 : own_v f 7 = own_v e 7 := by subst hf; exact funext fun j => own_vF _ _ _ _ _ _ (by decide)
    have h1 : own_v f 1 = own_v e 1 := by subst hf; exact funext fun j => own_vF _ _ _ _ _ _ (by decide)
    have g0 : gI f 121 = gI e 121 := by subst hf; exact gI_own _ _ _ _ _
    show own_conv (gI e 121).toInt i (own_v e 7) (own_v e 1) (gI e 121).toInt.toNat = own_conv (gI f 121).toInt i (own_v f 7) (own_v f 1) (gI f 121).toInt.toNat
    rw [h7, h1, g0]
/-! weights, packed drafts -/
def own_wt (X : Int → Int32) : Nat → Int32
  | 0 => 0
  | i + 1 => if X i = 0 then own_wt X i else own_wt X i + 1
theorem own_weight {NF : Nat} (hF : 1100 < NF) (σ : St) (hn : own_N σ) (w : Int32) : M_weightOf NF σ w = some (own_wt (own_v σ w) (gI σ 121).toInt.toNat, σ) := by
  have e0 : (0 : Int32).toInt = 0 := rfl
  obtain ⟨n1, n2⟩ := id hn
  unfold M_weightOf
  refine loop_up (A := Int32 × St) (l := fun n i z => M_weightOf_l4 NF n w z.1 i z.2) (w := fun kk i z => M_weightOf_w4 NF (fun _ s i τ => kk i (s, τ)) w z.1 i z.2) (fun _ _ _ => rfl) (gI σ 121).toInt (by omega) (fun i z => z.2 = σ ∧ z.1 = own_wt (own_v σ w) i.toNat) (fun o => o = some (own_wt (own_v σ w) (gI σ 121).toInt.toNat, σ)) ?_ ?_ NF 0 (0, σ) (by decide) (by omega) ⟨rfl, rfl⟩ (by omega)
  · rintro kk i ⟨s, τ⟩ h0 h1 ⟨hp, hs⟩ ih
    dsimp only at hp hs
    subst hp
    dsimp only
    unfold M_weightOf_w4 M_weightOf_b24
    rw [if_pos (lt_i.mpr h1), own_load τ w i h0 (by omega)]
    simp only [Option.bind_some]
    have step : own_wt (own_v τ w) (i.toInt + 1).toNat = if own_v τ w i.toInt = 0 then own_wt (own_v τ w) i.toInt.toNat else own_wt (own_v τ w) i.toInt.toNat + 1 := by
      rw [show (i.toInt + 1).toNat = i.toInt.toNat + 1 by omega]
      show (if own_v τ w (i.toInt.toNat : Int) = 0 then _ else _) = _
      rw [Int.toNat_of_nonneg h0]
    split
    · rename_i c
      exact ih _ ⟨rfl, by rw [step, if_pos c, hs]⟩
    · rename_i c
      exact ih _ ⟨rfl, by rw [step, if_neg c, hs]⟩
  · rintro kk i ⟨s, τ⟩ hi ⟨hp, hs⟩
    dsimp only at hp hs
    subst hp
    dsimp only
    unfold M_weightOf_w4
    rw [if_neg (by rw [lt_i]; omega), hs]
theorem own_wt0 {X : Int → Int32} : ∀ n : Nat, (∀ i : Int, 0 ≤ i → i < n → X i = 0) → own_wt X n = 0 := by
  intro n
  induction n with
  | zero => intro _; rfl
  | succ n ih =>
    intro h
    show (if X n = 0 then _ else _) = _
    rw [if_pos (h n (by omega) (by omega)), ih fun i a b => h i a (by omega)]
def own_fo (p : Int64) (i : Int32) : Int32 := (XT.ushrL p (2 * i) &&& 3).toInt32
theorem own_two {i : Int32} (h0 : 0 ≤ i.toInt) (h1 : i.toInt < 100) : (2 * i).toInt = 2 * i.toInt := by
  have e2 : (2 : Int32).toInt = 2 := rfl
  have q := c_imul 2 i; have r := rng32 (2 * i)
  rw [e2] at q
  omega
theorem own_field (σ : St) (p : Int64) (i : Int32) (h0 : 0 ≤ i.toInt) (h1 : i.toInt < 17) : M_fieldOf σ p i = some (own_fo p i, σ) := by
  have t := own_two h0 (show i.toInt < 100 by omega)
  unfold M_fieldOf
  rw [if_neg (by rw [lt_i, t]; show ¬ _ < (0 : Int); omega), if_neg (by rw [lt_i, t]; show ¬ (62 : Int) < _; omega)]
  rfl
def own_de (c : Int32) : Int32 := if c = 1 then 1 else if c = 2 then -1 else 0
theorem own_dec (σ : St) (c : Int32) : M_decodeField σ c = some (own_de c, σ) := by
  unfold M_decodeField own_de
  split
  · rfl
  · split <;> rfl
theorem own_unpack {NF : Nat} (hF : 1100 < NF) (σ : St) (hn : own_N σ) (w : Int32) (p : Int64) : M_unpackInto NF σ w p = some (own_fill σ w (gI σ 121).toInt fun i => own_de (own_fo p (Int32.ofInt i))) := by
  obtain ⟨n1, n2⟩ := id hn
  unfold M_unpackInto
  refine own_fl (l := fun n i x => M_unpackInto_l3 NF n w p i x) (wf := fun kk i x => M_unpackInto_w3 NF (fun _ _ i τ => kk i τ) w p i x) (fun _ _ _ => rfl) (gI σ 121).toInt (by omega) (by omega) σ w (fun i => own_de (own_fo p (Int32.ofInt i))) some ?_ ?_ NF (by omega)
  · intro kk i x h0 h1 hx
    unfold M_unpackInto_w3
    rw [if_pos (by rw [hx, gI_own]; exact lt_i.mpr h1), own_field x p i h0 (by omega)]
    simp only [Option.bind_some, own_dec]
    rw [own_store x w i _ h0 (by omega), Int32.ofInt_toInt]
    rfl
  · intro kk i x hi hx
    unfold M_unpackInto_w3
    rw [if_neg (by rw [hx, gI_own, lt_i]; omega)]
/-- all fields valid -/
def own_fvp (p : Int64) (N : Int) : Prop := ∀ i : Int, 0 ≤ i → i < N → ¬ own_fo p (Int32.ofInt i) = 3
theorem own_fv {NF : Nat} (hF : 1100 < NF) (σ : St) (hn : own_N σ) (p : Int64) : ∃ r, M_fieldsValid NF σ p = some (r, σ) ∧ ((r = 0 ∧ ¬ own_fvp p (gI σ 121).toInt) ∨ (r = 1 ∧ own_fvp p (gI σ 121).toInt)) := by
  have e0 : (0 : Int32).toInt = 0 := rfl
  obtain ⟨n1, n2⟩ := id hn
  unfold M_fieldsValid
  refine loop_up (l := fun n i x => M_fieldsValid_l2 NF n p i x) (w := fun kk i x => M_fieldsValid_w2 NF (fun _ i τ => kk i τ) p i x) (fun _ _ _ => rfl) (gI σ 121).toInt (by omega) (fun i x => x = σ ∧ own_fvp p i) (fun o => ∃ r, o = some (r, σ) ∧ ((r = 0 ∧ ¬ own_fvp p (gI σ 121).toInt) ∨ (r = 1 ∧ own_fvp p (gI σ 121).toInt))) ?_ ?_ NF 0 σ (by decide) (by omega) ⟨rfl, fun k a b => by omega⟩ (by omega)
  · rintro kk i x h0 h1 ⟨hx, hp⟩ ih
    unfold M_fieldsValid_w2
    subst hx
    rw [if_pos (lt_i.mpr h1), own_field x p i h0 (by omega)]
    simp only [Option.bind_some]
    split
    · rename_i c
      refine ⟨0, rfl, Or.inl ⟨rfl, fun q => q i.toInt h0 h1 ?_⟩⟩
      rw [Int32.ofInt_toInt]; exact c
    · rename_i c
      refine ih x ⟨rfl, fun k k0 k1 => ?_⟩
      by_cases hk : k < i.toInt
      · exact hp k k0 hk
      · rw [show k = i.toInt by omega, Int32.ofInt_toInt]; exact c
  · rintro kk i x hi ⟨hx, hp⟩
    unfold M_fieldsValid_w2
    subst hx
    rw [if_neg (by rw [lt_i]; omega)]
    exact ⟨1, rfl, Or.inr ⟨rfl, hp⟩⟩
theorem own_hbc (σ : St) (p : Int64) : ∃ r, M_highBitsClear σ p = some (r, σ) := by
  unfold M_highBitsClear
  split
  · split
    · exact ⟨_, rfl⟩
    · exact ⟨_, rfl⟩
  · exact ⟨_, rfl⟩
theorem own_idx (σ : St) (i : Int32) : M_isIndex σ i = some (if 0 ≤ i.toInt ∧ i.toInt < (gI σ 121).toInt then 1 else 0, σ) := by
  have e0 : (0 : Int32).toInt = 0 := rfl
  unfold M_isIndex
  by_cases h : i < 0
  · rw [if_pos h, if_neg (by rw [lt_i] at h; omega)]
  · rw [if_neg h]
    by_cases g : i < gI σ 121
    · rw [if_pos g, if_pos (by rw [lt_i] at h g; omega)]
    · rw [if_neg g, if_neg (by rw [lt_i] at h g; omega)]
/-! a new object -/
theorem own_clamp (σ : St) (v lo hi : Int32) : M_clampInt σ v lo hi = some (if v < lo then lo else if hi < v then hi else v, σ) := by
  unfold M_clampInt; split
  · rfl
  · split <;> rfl
theorem own_four {k : Int32} (h1 : 5 ≤ k.toInt) (h2 : k.toInt ≤ 8) : k = 5 ∨ k = 6 ∨ k = 7 ∨ k = 8 := by
  have : k.toInt = 5 ∨ k.toInt = 6 ∨ k.toInt = 7 ∨ k.toInt = 8 := by omega
  rcases this with h | h | h | h
  · exact Or.inl (Int32.toInt_inj.mp h)
  · exact Or.inr (Or.inl (Int32.toInt_inj.mp h))
  · exact Or.inr (Or.inr (Or.inl (Int32.toInt_inj.mp h)))
  · exact Or.inr (Or.inr (Or.inr (Int32.toInt_inj.mp h)))
theorem own_pow {NF : Nat} (hF : 1100 < NF) {k : Int32} (h1 : 5 ≤ k.toInt) (h2 : k.toInt ≤ 8) (σ : St) : M_powerOfTwo NF σ k = some ((1 : Int32) <<< (k &&& 31), σ) := by
  obtain ⟨N, rfl⟩ : ∃ N, NF = N + 10 := ⟨NF - 10, by omega⟩
  rcases own_four h1 h2 with rfl | rfl | rfl | rfl <;> rfl
def own_new (n q : Int32) : St := sI (sI (sI (sI (sI (sI (sI (sI (sI z0 142 11) 143 12) 144 13) 145 14) 121 n) 122 q) 123 (q / 8 - 1)) 124 0) 125 0
theorem own_init {NF : Nat} (hF : 1100 < NF) (a b n k : Int32) (hn : (if a < 5 then 5 else if 17 < a then 17 else a) = n) (hk : (if b < 5 then 5 else if 8 < b then 8 else b) = k) (h1 : 5 ≤ k.toInt) (h2 : k.toInt ≤ 8) : M_init NF a b = some (own_new n ((1 : Int32) <<< (k &&& 31))) := by
  unfold M_init
  simp only [own_clamp, hn, hk, Option.bind_some, own_pow hF h1 h2]
  rfl
/-! the visible arrays of a key are kept -/
def own_Z (σ σ' : St) : Prop := (∀ q, gI σ' q = gI σ q) ∧ ∀ k i, 6 ≤ k → k ≤ 9 → gA σ' k i = gA σ k i
theorem own_S.Z {σ σ' : St} (h : own_S σ σ') : own_Z σ σ' := ⟨h.i, fun k i _ h2 => h.2.2 k i (Or.inl (by omega))⟩
theorem own_ZF (σ : St) (w : Int32) (N : Int) (g : Int → Int32) (hw : own_k w < 6 ∨ 9 < own_k w) : own_Z σ (own_fill σ w N g) := ⟨fun q => gI_own _ _ _ _ _, fun k i h1 h2 => gA_own _ _ _ _ _ _ (by omega)⟩
theorem own_Zr (σ : St) : own_Z σ σ := ⟨fun _ => rfl, fun _ _ _ _ => rfl⟩
theorem own_Z.trans {a b c : St} (h : own_Z a b) (g : own_Z b c) : own_Z a c := ⟨fun q => (g.1 q).trans (h.1 q), fun k i h1 h2 => (g.2 k i h1 h2).trans (h.2 k i h1 h2)⟩
theorem own_ZP (σ : St) (w : Int32) (i : Int) (v : Int32) (hw : own_k w < 6) : own_Z σ (own_put σ w i v) := by
  unfold own_put
  split
  · exact own_Zr σ
  · exact ⟨fun _ => rfl, fun k j h1 h2 => by rw [gA_sA, if_neg (by omega)]⟩
theorem own_k5 {w : Int32} (h0 : ¬ w < 0) (h4 : ¬ 4 < w) : own_k w < 6 := by
  have e0 : (0 : Int32).toInt = 0 := rfl
  have e4 : (4 : Int32).toInt = 4 := rfl
  rw [lt_i] at h0 h4
  have hw : w = 0 ∨ w = 1 ∨ w = 2 ∨ w = 3 ∨ w = 4 := by
    simp only [eq_i32]
    have : (1 : Int32).toInt = 1 ∧ (2 : Int32).toInt = 2 ∧ (3 : Int32).toInt = 3 := by decide
    omega
  rcases hw with rfl | rfl | rfl | rfl | rfl <;> decide
theorem own_acc (σ : St) (w v : Int32) : ∃ r, M_acceptsValue σ w v = some (r, σ) := by
  unfold M_acceptsValue M_isCipherValue M_isTernary
  split
  · split
    · exact ⟨_, rfl⟩
    · split <;> exact ⟨_, rfl⟩
  · split
    · exact ⟨_, rfl⟩
    · split <;> exact ⟨_, rfl⟩
theorem own_set (σ : St) (hn : own_N σ) (w i v : Int32) : ∃ r σ', M_setCoeff σ w i v = some (r, σ') ∧ own_Z σ σ' := by
  obtain ⟨n1, n2⟩ := id hn
  unfold M_setCoeff M_isWritable
  by_cases w0 : w < 0
  · rw [if_pos w0]; exact ⟨_, _, rfl, own_Zr σ⟩
  rw [if_neg w0]
  by_cases w4 : 4 < w
  · rw [if_pos w4]; exact ⟨_, _, rfl, own_Zr σ⟩
  rw [if_neg w4]
  simp only [Option.bind_some, own_idx]
  rw [if_neg (by decide)]
  by_cases hi : 0 ≤ i.toInt ∧ i.toInt < (gI σ 121).toInt
  · rw [if_pos hi, if_neg (by decide)]
    obtain ⟨r, hr⟩ := own_acc σ w v
    rw [hr]
    simp only [Option.bind_some]
    split
    · exact ⟨_, _, rfl, own_Zr σ⟩
    · rw [own_store σ w i v hi.1 (by omega)]
      exact ⟨_, _, rfl, own_ZP _ _ _ _ (own_k5 w0 w4)⟩
  · rw [if_neg hi, if_pos rfl]; exact ⟨_, _, rfl, own_Zr σ⟩
theorem own_pack {NF : Nat} (hF : 1100 < NF) (σ : St) (hn : own_N σ) (w : Int32) (p : Int64) : ∃ r σ', M_setPacked NF σ w p = some (r, σ') ∧ own_Z σ σ' := by
  unfold M_setPacked M_isDraft
  by_cases w0 : w < 0
  · rw [if_pos w0]; exact ⟨_, _, rfl, own_Zr σ⟩
  rw [if_neg w0]
  by_cases w3 : 3 < w
  · rw [if_pos w3]; exact ⟨_, _, rfl, own_Zr σ⟩
  rw [if_neg w3]
  simp only [Option.bind_some]
  rw [if_neg (by decide)]
  obtain ⟨r, hr⟩ := own_hbc σ p
  rw [hr]
  simp only [Option.bind_some]
  split
  · exact ⟨_, _, rfl, own_Zr σ⟩
  · obtain ⟨s, hs, _⟩ := own_fv hF σ hn p
    rw [hs]
    simp only [Option.bind_some]
    split
    · exact ⟨_, _, rfl, own_Zr σ⟩
    · rw [own_unpack hF σ hn]
      refine ⟨_, _, rfl, own_ZF _ _ _ _ (Or.inl (own_k5 w0 fun q => w3 ?_))⟩
      have e3 : (3 : Int32).toInt = 3 := rfl
      have e4 : (4 : Int32).toInt = 4 := rfl
      rw [lt_i] at q ⊢
      omega
theorem own_clr {NF : Nat} (hF : 1100 < NF) (σ : St) (hn : own_N σ) (w : Int32) : ∃ r σ', M_clear NF σ w = some (r, σ') ∧ own_Z σ σ' := by
  unfold M_clear M_isWritable
  by_cases w0 : w < 0
  · rw [if_pos w0]; exact ⟨_, _, rfl, own_Zr σ⟩
  rw [if_neg w0]
  by_cases w4 : 4 < w
  · rw [if_pos w4]; exact ⟨_, _, rfl, own_Zr σ⟩
  rw [if_neg w4]
  simp only [Option.bind_some]
  rw [if_neg (by decide), own_zero hF σ hn]
  exact ⟨_, _, rfl, own_ZF _ _ _ _ (Or.inl (own_k5 w0 w4))⟩
theorem own_enc {NF : Nat} (hF : 1100 < NF) (σ : St) (hn : own_N σ) (hq : 0 < (gI σ 122).toInt) : ∃ r σ', M_encrypt NF σ = some (r, σ') ∧ own_Z σ σ' := by
  unfold M_encrypt
  split
  · exact ⟨_, _, rfl, own_Zr σ⟩
  · rw [own_weight hF σ hn]
    simp only [Option.bind_some]
    split
    · exact ⟨_, _, rfl, own_Zr σ⟩
    · rw [own_weight hF σ hn]
      simp only [Option.bind_some]
      split
      · exact ⟨_, _, rfl, own_Zr σ⟩
      · rw [own_ciph hF σ hn hq]
        exact ⟨_, _, rfl, own_ZF _ _ _ _ (Or.inl (by decide))⟩
theorem own_decr {NF : Nat} (hF : 1100 < NF) (σ : St) (hn : own_N σ) (hq : 0 < (gI σ 122).toInt) : ∃ r σ', M_decrypt NF σ = some (r, σ') ∧ own_Z σ σ' := by
  unfold M_decrypt
  split
  · exact ⟨_, _, rfl, own_Zr σ⟩
  · rw [own_cent hF σ hn hq]
    simp only [Option.bind_some]
    rw [own_mess hF _ (own_NF hn)]
    exact ⟨_, _, rfl, (own_ZF _ _ _ _ (Or.inr (by decide))).trans (own_ZF _ _ _ _ (Or.inr (by decide)))⟩
theorem own_Z.key {σ σ' : St} (h : own_Z σ σ') (hk : own_key σ) : own_key σ' := by
  intro k k0 k1
  rw [h.1] at k1
  have e : ∀ (w : Int32), 6 ≤ own_k w → own_k w ≤ 9 → own_v σ' w = own_v σ w := by
    intro w h1 h2
    funext j
    unfold own_v
    split
    · rfl
    · exact h.2 _ _ h1 h2
  have := hk k k0 k1
  unfold own_cv at this ⊢
  rw [h.1, h.1, e 5 (by decide) (by decide), e 6 (by decide) (by decide), e 7 (by decide) (by decide)]
  exact this
/-! what runs on the matrix does not see the scratch polynomials -/
def own_g (τ s : St) : St := (s.1, s.2.1, fun k i => if k ≤ 12 then s.2.2 k i else τ.2.2 k i)
def own_gp (τ : St) (p : Int32 × St) : Int32 × St := (p.1, own_g τ p.2)
theorem g_gI (τ s : St) (q : Nat) : gI (own_g τ s) q = gI s q := rfl
theorem g_12 (τ s : St) (i : Int) : gA (own_g τ s) 12 i = gA s 12 i := rfl
theorem g_sA (τ s : St) (i : Int) (v : Int32) : sA (own_g τ s) 12 i v = own_g τ (sA s 12 i v) := by
  unfold sA own_g
  congr 2
  funext q j
  show (if q = 12 ∧ j = i then v else if q ≤ 12 then s.2.2 q j else τ.2.2 q j) = (if q ≤ 12 then (if q = 12 ∧ j = i then v else s.2.2 q j) else τ.2.2 q j)
  by_cases h : q = 12 ∧ j = i
  · rw [if_pos h, if_pos (by omega), if_pos h]
  · rw [if_neg h, if_neg h]
theorem g_ma (τ s : St) (r c : Int32) : own_ma (own_g τ s) r c = own_ma s r c := rfl
theorem g_mp (τ s : St) (r c v : Int32) : own_mp (own_g τ s) r c v = own_g τ (own_mp s r c v) := by
  unfold own_mp
  simp only [g_sA, apply_ite (own_g τ)]
theorem g_matAt (τ s : St) (r c : Int32) : M_matAt (own_g τ s) r c = (M_matAt s r c).map (own_gp τ) := by
  rw [own_matAt, own_matAt, g_ma]; rfl
theorem g_matPut (τ s : St) (r c v : Int32) : M_matPut (own_g τ s) r c v = (M_matPut s r c v).map (own_g τ) := by
  rw [own_matPut, own_matPut, g_mp]; rfl
theorem g_mod (τ s : St) (v t : Int32) : M_mod (own_g τ s) v t = (M_mod s v t).map (own_gp τ) := by
  unfold M_mod
  simp only [apply_ite (Option.map (own_gp τ)), Option.map_some, Option.map_none]
  rfl
theorem g_cyc (τ s : St) (v : Int32) : M_cyclicIndex (own_g τ s) v = (M_cyclicIndex s v).map (own_gp τ) := by
  unfold M_cyclicIndex
  rw [g_mod, g_gI, Option.map_bind]
  simp only [Option.bind_map]
  rfl
theorem g_unit (τ s : St) (v : Int32) : M_unitCoeff (own_g τ s) v = (M_unitCoeff s v).map (own_gp τ) := by
  unfold M_unitCoeff
  simp only [apply_ite (Option.map (own_gp τ)), Option.map_some]
  rfl
theorem g_load0 (τ s : St) (i : Int32) : M_load (own_g τ s) 0 i = (M_load s 0 i).map (own_gp τ) := by
  unfold M_load M_loadHeld
  simp +decide only [if_true]
  simp only [apply_ite (Option.map (own_gp τ)), Option.map_some, Option.map_none, apply_ite (fun o : Option (Int32 × St) => o.bind fun q => some (q.1, q.2)), Option.bind_some, Option.bind_none]
  rfl
theorem g_bindP {A : Type} (τ : St) (g : A → A) {x : Option (Int32 × St)} {f : Int32 × St → Option A} {F : Int32 × St → Option A} (h : ∀ r s, F (r, own_g τ s) = (f (r, s)).map g) : (x.map (own_gp τ)).bind F = (x.bind f).map g := by
  cases x with
  | none => rfl
  | some p => exact h p.1 p.2
theorem g_bindS {A : Type} (τ : St) (g : A → A) {x : Option St} {f : St → Option A} {F : St → Option A} (h : ∀ s, F (own_g τ s) = (f s).map g) : (x.map (own_g τ)).bind F = (x.bind f).map g := by
  cases x with
  | none => rfl
  | some p => exact h p
theorem g_ite {A : Type} {p : Prop} [Decidable p] (g : A → A) {a b c d : Option A} (h1 : a = c.map g) (h2 : b = d.map g) : (if p then a else b) = (if p then c else d).map g := by
  split
  · exact h1
  · exact h2
theorem g_inv (τ s : St) (NF : Nat) (v t : Int32) : M_inverseMod NF (own_g τ s) v t = (M_inverseMod NF s v t).map (own_gp τ) := by
  have hl : ∀ (n : Nat) (a b i : Int32) (s : St), M_inverseMod_l17 NF n a b i (own_g τ s) = (M_inverseMod_l17 NF n a b i s).map (own_gp τ) := by
    intro n
    induction n with
    | zero => intro a b i s; rfl
    | succ n ih =>
      intro a b i s
      show M_inverseMod_w17 NF (M_inverseMod_l17 NF n) a b i (own_g τ s) = (M_inverseMod_w17 NF (M_inverseMod_l17 NF n) a b i s).map (own_gp τ)
      unfold M_inverseMod_w17
      rw [g_mod]
      exact g_ite _ (g_ite _ (g_bindP τ _ fun r s => g_ite _ rfl (ih _ _ _ _)) rfl) rfl
  unfold M_inverseMod
  rw [g_mod]
  exact g_ite _ (g_bindP τ _ fun r s => hl _ _ _ _ _) rfl
theorem g_pivot (τ s : St) (NF : Nat) (v t : Int32) : M_findPivot NF (own_g τ s) v t = (M_findPivot NF s v t).map (own_gp τ) := by
  have hl : ∀ (n : Nat) (a b i : Int32) (s : St), M_findPivot_l2 NF n a b i (own_g τ s) = (M_findPivot_l2 NF n a b i s).map (own_gp τ) := by
    intro n
    induction n with
    | zero => intro a b i s; rfl
    | succ n ih =>
      intro a b i s
      show M_findPivot_w2 NF (M_findPivot_l2 NF n) a b i (own_g τ s) = (M_findPivot_w2 NF (M_findPivot_l2 NF n) a b i s).map (own_gp τ)
      unfold M_findPivot_w2
      rw [g_matAt, g_gI]
      exact g_ite _ (g_bindP τ _ fun r s => by rw [g_inv]; exact g_bindP τ _ fun r s => g_ite _ (ih _ _ _ _) rfl) rfl
  exact hl _ _ _ _ _
theorem g_swap (τ s : St) (NF : Nat) (v t : Int32) : M_swapRows NF (own_g τ s) v t = (M_swapRows NF s v t).map (own_g τ) := by
  have hl : ∀ (n : Nat) (a b i : Int32) (s : St), M_swapRows_l8 NF n a b i (own_g τ s) = (M_swapRows_l8 NF n a b i s).map (own_g τ) := by
    intro n
    induction n with
    | zero => intro a b i s; rfl
    | succ n ih =>
      intro a b i s
      show M_swapRows_w8 NF (M_swapRows_l8 NF n) a b i (own_g τ s) = (M_swapRows_w8 NF (M_swapRows_l8 NF n) a b i s).map (own_g τ)
      unfold M_swapRows_w8
      rw [g_matAt, g_gI]
      refine g_ite _ rfl (g_bindP τ _ fun r s => ?_)
      dsimp only
      rw [g_matAt]
      refine g_bindP τ _ fun r2 s => ?_
      dsimp only
      rw [g_matPut]
      refine g_bindS τ _ fun s => ?_
      rw [g_matPut]
      exact g_bindS τ _ fun s => ih _ _ _ _
  unfold M_swapRows
  exact g_ite _ rfl (hl _ _ _ _ _)
theorem g_scale (τ s : St) (NF : Nat) (a b c : Int32) : M_scaleRow NF (own_g τ s) a b c = (M_scaleRow NF s a b c).map (own_g τ) := by
  have hl : ∀ (n : Nat) (a b c i : Int32) (s : St), M_scaleRow_l3 NF n a b c i (own_g τ s) = (M_scaleRow_l3 NF n a b c i s).map (own_g τ) := by
    intro n
    induction n with
    | zero => intro a b c i s; rfl
    | succ n ih =>
      intro a b c i s
      show M_scaleRow_w3 NF (M_scaleRow_l3 NF n) a b c i (own_g τ s) = (M_scaleRow_w3 NF (M_scaleRow_l3 NF n) a b c i s).map (own_g τ)
      unfold M_scaleRow_w3
      rw [g_matAt, g_gI]
      refine g_ite _ rfl (g_bindP τ _ fun r s => ?_)
      dsimp only
      rw [g_mod]
      refine g_bindP τ _ fun r2 s => ?_
      dsimp only
      rw [g_matPut]
      exact g_bindS τ _ fun s => ih _ _ _ _ _
  exact hl _ _ _ _ _ _
theorem g_subr (τ s : St) (NF : Nat) (a b c d : Int32) : M_subtractRow NF (own_g τ s) a b c d = (M_subtractRow NF s a b c d).map (own_g τ) := by
  have hl : ∀ (n : Nat) (a b c d i : Int32) (s : St), M_subtractRow_l3 NF n a b c d i (own_g τ s) = (M_subtractRow_l3 NF n a b c d i s).map (own_g τ) := by
    intro n
    induction n with
    | zero => intro a b c d i s; rfl
    | succ n ih =>
      intro a b c d i s
      show M_subtractRow_w3 NF (M_subtractRow_l3 NF n) a b c d i (own_g τ s) = (M_subtractRow_w3 NF (M_subtractRow_l3 NF n) a b c d i s).map (own_g τ)
      unfold M_subtractRow_w3
      rw [g_matAt, g_gI]
      refine g_ite _ rfl (g_bindP τ _ fun r s => ?_)
      dsimp only
      rw [g_matAt]
      refine g_bindP τ _ fun r2 s => ?_
      dsimp only
      rw [g_mod]
      refine g_bindP τ _ fun r3 s => ?_
      dsimp only
      rw [g_matPut]
      exact g_bindS τ _ fun s => ih _ _ _ _ _ _
  exact hl _ _ _ _ _ _ _
theorem g_ccol (τ s : St) (NF : Nat) (a b : Int32) : M_clearColumn NF (own_g τ s) a b = (M_clearColumn NF s a b).map (own_g τ) := by
  have hl : ∀ (n : Nat) (a b i : Int32) (s : St), M_clearColumn_l2 NF n a b i (own_g τ s) = (M_clearColumn_l2 NF n a b i s).map (own_g τ) := by
    intro n
    induction n with
    | zero => intro a b i s; rfl
    | succ n ih =>
      intro a b i s
      show M_clearColumn_w2 NF (M_clearColumn_l2 NF n) a b i (own_g τ s) = (M_clearColumn_w2 NF (M_clearColumn_l2 NF n) a b i s).map (own_g τ)
      unfold M_clearColumn_w2 M_clearColumn_b43
      rw [g_matAt, g_gI]
      refine g_ite _ (g_ite _ (ih _ _ _ _) (g_bindP τ _ fun r s => ?_)) rfl
      dsimp only
      rw [g_subr]
      exact g_ite _ (ih _ _ _ _) (g_bindS τ _ fun s => ih _ _ _ _)
  exact hl _ _ _ _ _
theorem g_elim (τ s : St) (NF : Nat) (a : Int32) : M_eliminate NF (own_g τ s) a = (M_eliminate NF s a).map (own_gp τ) := by
  have hl : ∀ (n : Nat) (a i : Int32) (s : St), M_eliminate_l2 NF n a i (own_g τ s) = (M_eliminate_l2 NF n a i s).map (own_gp τ) := by
    intro n
    induction n with
    | zero => intro a i s; rfl
    | succ n ih =>
      intro a i s
      show M_eliminate_w2 NF (M_eliminate_l2 NF n) a i (own_g τ s) = (M_eliminate_w2 NF (M_eliminate_l2 NF n) a i s).map (own_gp τ)
      unfold M_eliminate_w2
      rw [g_pivot, g_gI]
      refine g_ite _ (g_bindP τ _ fun r s => ?_) rfl
      dsimp only
      rw [g_swap]
      refine g_ite _ rfl (g_bindS τ _ fun s => ?_)
      rw [g_matAt]
      refine g_bindP τ _ fun r2 s => ?_
      dsimp only
      rw [g_inv]
      refine g_bindP τ _ fun r3 s => ?_
      dsimp only
      rw [g_scale]
      refine g_bindS τ _ fun s => ?_
      rw [g_ccol]
      exact g_bindS τ _ fun s => ih _ _ _
  exact hl _ _ _ _
theorem g_build6 (τ s : St) (NF : Nat) (a : Int32) : M_buildSystem_l6 NF NF a 0 (own_g τ s) = (M_buildSystem_l6 NF NF a 0 s).map (own_g τ) := by
  have inner : ∀ (k6 : Int32 → Int32 → St → Option St), (∀ a b s, k6 a b (own_g τ s) = (k6 a b s).map (own_g τ)) → ∀ (n : Nat) (a i j : Int32) (s : St), M_buildSystem_l16 NF k6 n a i j (own_g τ s) = (M_buildSystem_l16 NF k6 n a i j s).map (own_g τ) := by
    intro k6 hk n
    induction n with
    | zero => intro a i j s; rfl
    | succ n ih =>
      intro a i j s
      show M_buildSystem_w16 NF k6 (M_buildSystem_l16 NF k6 n) a i j (own_g τ s) = (M_buildSystem_w16 NF k6 (M_buildSystem_l16 NF k6 n) a i j s).map (own_g τ)
      unfold M_buildSystem_w16
      rw [g_cyc, g_gI, g_unit]
      refine g_ite _ (g_bindP τ _ fun r s => ?_) (g_bindP τ _ fun r s => ?_)
      · dsimp only
        rw [g_load0]
        refine g_bindP τ _ fun r2 s => ?_
        dsimp only
        rw [g_mod]
        refine g_bindP τ _ fun r3 s => ?_
        dsimp only
        rw [g_matPut]
        exact g_bindS τ _ fun s => ih _ _ _ _
      · dsimp only
        rw [g_matPut, g_gI]
        exact g_bindS τ _ fun s => hk _ _ _
  have outer : ∀ (n : Nat) (a i : Int32) (s : St), M_buildSystem_l6 NF n a i (own_g τ s) = (M_buildSystem_l6 NF n a i s).map (own_g τ) := by
    intro n
    induction n with
    | zero => intro a i s; rfl
    | succ n ih =>
      intro a i s
      show M_buildSystem_w6 NF (M_buildSystem_l6 NF n) a i (own_g τ s) = (M_buildSystem_w6 NF (M_buildSystem_l6 NF n) a i s).map (own_g τ)
      unfold M_buildSystem_w6
      rw [g_gI]
      exact g_ite _ (inner _ ih _ _ _ _ _) rfl
  exact outer _ _ _ _
/-! two objects that show the same -/
def own_R (σ τ : St) : Prop := τ.1 = σ.1 ∧ τ.2.1 = σ.2.1 ∧ ∀ k i, (k < 12 ∨ (k = 12 ∧ ¬ (0 ≤ i ∧ i < 306))) → gA τ k i = gA σ k i
theorem own_R.i {σ τ : St} (h : own_R σ τ) (q : Nat) : gI τ q = gI σ q := congrFun h.1 q
theorem own_R.n {σ τ : St} (h : own_R σ τ) (hn : own_N σ) : own_N τ := by unfold own_N; rw [h.i]; exact hn
theorem own_R.s {σ τ : St} (h : own_R σ τ) (hn : own_sel σ) : own_sel τ := by unfold own_sel; rw [h.i, h.i, h.i, h.i]; exact hn
theorem own_R.left {σ σ' τ : St} (h : own_R σ τ) (g : own_S σ σ') : own_R σ' τ := ⟨h.1.trans g.1.symm, h.2.1.trans g.2.1.symm, fun k i hk => (h.2.2 k i hk).trans (g.2.2 k i hk).symm⟩
theorem own_R.both {σ σ' τ τ' : St} (h : own_R σ τ) (g : own_S σ σ') (g' : own_S τ τ') : own_R σ' τ' := ⟨g'.1.trans (h.1.trans g.1.symm), g'.2.1.trans (h.2.1.trans g.2.1.symm), fun k i hk => ((g'.2.2 k i hk).trans (h.2.2 k i hk)).trans (g.2.2 k i hk).symm⟩
/-- the array k agrees below N -/
def own_A (k : Nat) (N : Int) (σ τ : St) : Prop := ∀ i, 0 ≤ i → i < N → gA τ k i = gA σ k i
theorem own_R.fill {σ τ : St} (h : own_R σ τ) (w : Int32) (N : Int) {g g' : Int → Int32} (hg : ∀ i, 0 ≤ i → i < N → g' i = g i) : own_R (own_fill σ w N g) (own_fill τ w N g') := by
  refine ⟨(own_fI τ w N g').1.trans (h.1.trans (own_fI σ w N g).1.symm), (own_fI τ w N g').2.trans (h.2.1.trans (own_fI σ w N g).2.symm), fun k i hk => ?_⟩
  by_cases hw : k = own_k w
  · by_cases h0 : own_k w = 0
    · unfold own_fill; rw [if_pos h0, if_pos h0]; exact h.2.2 k i hk
    · subst hw
      rw [gA_ownF _ _ _ _ _ h0, gA_ownF _ _ _ _ _ h0]
      by_cases q : 0 ≤ i ∧ i < N
      · rw [if_pos q, if_pos q]; exact hg i q.1 q.2
      · rw [if_neg q, if_neg q]; exact h.2.2 _ i hk
  · rw [gA_own _ _ _ _ _ _ hw, gA_own _ _ _ _ _ _ hw]; exact h.2.2 k i hk
theorem own_A.fill {σ τ : St} {k : Nat} {M : Int} (w : Int32) (N : Int) {g g' : Int → Int32} (hg : ∀ i, 0 ≤ i → i < N → g' i = g i) (h : own_A k M σ τ) : own_A k M (own_fill σ w N g) (own_fill τ w N g') := by
  intro i i0 i1
  by_cases hw : k = own_k w
  · by_cases h0 : own_k w = 0
    · unfold own_fill; rw [if_pos h0, if_pos h0]; exact h i i0 i1
    · subst hw
      rw [gA_ownF _ _ _ _ _ h0, gA_ownF _ _ _ _ _ h0]
      by_cases q : 0 ≤ i ∧ i < N
      · rw [if_pos q, if_pos q]; exact hg i q.1 q.2
      · rw [if_neg q, if_neg q]; exact h i i0 i1
  · rw [gA_own _ _ _ _ _ _ hw, gA_own _ _ _ _ _ _ hw]; exact h i i0 i1
theorem own_Af {σ τ : St} (w : Int32) (N : Int) {g g' : Int → Int32} (hg : ∀ i, 0 ≤ i → i < N → g' i = g i) (hw : own_k w ≠ 0) : own_A (own_k w) N (own_fill σ w N g) (own_fill τ w N g') := by
  intro i i0 i1
  rw [gA_ownF _ _ _ _ _ hw, gA_ownF _ _ _ _ _ hw, if_pos ⟨i0, i1⟩, if_pos ⟨i0, i1⟩]; exact hg i i0 i1
theorem own_R.a {σ τ : St} (h : own_R σ τ) {k : Nat} (hk : k < 12) (N : Int) : own_A k N σ τ := fun i _ _ => h.2.2 k i (Or.inl hk)
theorem own_A.v {σ τ : St} {w : Int32} {N : Int} (h : own_A (own_k w) N σ τ) : ∀ i, 0 ≤ i → i < N → own_v τ w i = own_v σ w i := by
  intro i i0 i1
  unfold own_v
  split
  · rfl
  · exact h i i0 i1
theorem own_R.cv {σ τ : St} (h : own_R σ τ) (hn : own_N σ) {x y : Int32} (hx : own_A (own_k x) (gI σ 121).toInt σ τ) (hy : own_A (own_k y) (gI σ 121).toInt σ τ) (k : Int) : own_cv τ x y k = own_cv σ x y k := by
  obtain ⟨n1, n2⟩ := hn
  unfold own_cv
  rw [h.i]
  exact own_convC _ _ (by omega) hx.v hy.v _ (by omega)
theorem own_R.isInv {σ τ : St} (h : own_R σ τ) (hn : own_N σ) {s : Int32} (hs : own_A (own_k s) (gI σ 121).toInt σ τ) (t : Int32) : own_isInv τ s t ↔ own_isInv σ s t := by
  unfold own_isInv
  rw [h.i]
  constructor
  · intro q k k0 k1
    rw [← h.cv hn (h.a (by decide) _) hs]; exact q k k0 k1
  · intro q k k0 k1
    rw [h.cv hn (h.a (by decide) _) hs]; exact q k k0 k1
theorem own_R.clear {σ τ : St} (h : own_R σ τ) : fillS τ 12 306 (fun _ => 0) = own_g τ (fillS σ 12 306 fun _ => 0) := by
  obtain ⟨h1, h2, h3⟩ := h
  unfold own_g
  refine Prod.ext h1 (Prod.ext h2 ?_)
  funext k i
  show gA (fillS τ 12 306 fun _ => 0) k i = if k ≤ 12 then gA (fillS σ 12 306 fun _ => 0) k i else gA τ k i
  rw [gA_fill, gA_fill]
  by_cases q : k = 12 ∧ 0 ≤ i ∧ i < 306
  · rw [if_pos q, if_pos (by omega), if_pos q]
  · rw [if_neg q, if_neg q]
    split
    · exact h3 k i (by by_cases k12 : k = 12
                       · exact Or.inr ⟨k12, fun c => q ⟨k12, c⟩⟩
                       · exact Or.inl (by omega))
    · rfl
theorem own_gR {σ τ : St} (h : τ.1 = σ.1 → True) (s : St) : True := trivial
theorem own_Rg (τ s : St) : own_R s (own_g τ s) := ⟨rfl, rfl, fun k i hk => by
  show (if k ≤ 12 then s.2.2 k i else τ.2.2 k i) = s.2.2 k i
  rw [if_pos (by omega)]⟩
theorem own_byE2 {NF : Nat} (hF : 1100 < NF) {σ τ : St} (h : own_R σ τ) (hn : own_N σ) (t s : Int32) (t1 : 1 < t.toInt) (t2 : t.toInt ≤ 3) (hs : 12 < own_k s) : ∃ r σ' τ', M_invertByElimination NF σ t s = some (r, σ') ∧ M_invertByElimination NF τ t s = some (r, τ') ∧ own_R σ' τ' ∧ (r = 0 ∨ (r = 1 ∧ own_A (own_k s) (gI σ 121).toInt σ' τ')) := by
  unfold M_invertByElimination
  obtain ⟨a, a1, a2, _⟩ := own_build hF σ hn t t1
  have b1 : M_buildSystem NF τ t = some (own_g τ a) := by
    unfold M_buildSystem at a1 ⊢
    rw [own_clearM hF] at a1 ⊢
    simp only [Option.bind_some] at a1 ⊢
    rw [h.clear, g_build6, a1]
    rfl
  rw [a1, b1]
  simp only [Option.bind_some]
  obtain ⟨r, b, c1, c2, c3⟩ := own_elim hF a (a2.n hn) t t1 t2
  have hb := a2.trans c3
  rw [g_elim, c1]
  simp only [Option.map_some, own_gp, Option.bind_some]
  have hR := own_Rg τ b
  rcases c2 with rfl | rfl
  · exact ⟨0, b, own_g τ b, rfl, rfl, hR, Or.inl rfl⟩
  · rw [if_neg (by decide), if_neg (by decide), own_read hF b (hb.n hn) s (by omega), own_read hF (own_g τ b) (hR.n (hb.n hn)) s (by omega)]
    simp only [Option.bind_some, g_gI, g_ma]
    have hR2 : own_R (own_fill b s (gI b 121).toInt fun j => own_ma b (Int32.ofInt j) (gI b 121)) (own_fill (own_g τ b) s (gI b 121).toInt fun j => own_ma b (Int32.ofInt j) (gI b 121)) := hR.fill s _ fun _ _ _ => rfl
    have hA2 : own_A (own_k s) (gI b 121).toInt (own_fill b s (gI b 121).toInt fun j => own_ma b (Int32.ofInt j) (gI b 121)) (own_fill (own_g τ b) s (gI b 121).toInt fun j => own_ma b (Int32.ofInt j) (gI b 121)) := own_Af s _ (fun _ _ _ => rfl) (by omega)
    have nx : own_N (own_fill b s (gI b 121).toInt fun j => own_ma b (Int32.ofInt j) (gI b 121)) := own_NF (hb.n hn)
    have ix : gI (own_fill b s (gI b 121).toInt fun j => own_ma b (Int32.ofInt j) (gI b 121)) 121 = gI b 121 := gI_own _ _ _ _ _
    generalize own_fill b s (gI b 121).toInt _ = x at hR2 hA2 nx ix
    generalize own_fill (own_g τ b) s (gI b 121).toInt _ = y at hR2 hA2
    obtain ⟨v, v1, v2⟩ := own_isI hF x nx s t (by omega)
    obtain ⟨u, u1, u2⟩ := own_isI hF y (hR2.n nx) s t (by omega)
    rw [hR2.isInv nx (by rw [ix]; exact hA2)] at u2
    have huv : u = v := by
      rcases v2 with ⟨rfl, v2⟩ | ⟨rfl, v2⟩
      · rcases u2 with ⟨rfl, u2⟩ | ⟨rfl, u2⟩
        · rfl
        · exact absurd u2 v2
      · rcases u2 with ⟨rfl, u2⟩ | ⟨rfl, u2⟩
        · exact absurd v2 u2
        · rfl
    subst huv
    rw [v1, u1]
    simp only [Option.bind_some]
    refine ⟨_, x, y, rfl, rfl, hR2, ?_⟩
    rcases v2 with ⟨rfl, _⟩ | ⟨rfl, _⟩
    · exact Or.inl nar0
    · exact Or.inr ⟨nar1, by rw [← hb.i]; exact hA2⟩
theorem own_newton2 {NF : Nat} (hF : 1100 < NF) {σ τ : St} (h : own_R σ τ) (hn : own_N σ) (hq : 0 < (gI σ 122).toInt) (hs : own_sel σ) (h14 : own_A 14 (gI σ 121).toInt σ τ) : ∃ σ' τ', M_newtonStep NF σ = some σ' ∧ M_newtonStep NF τ = some τ' ∧ own_R σ' τ' ∧ own_A 14 (gI σ 121).toInt σ' τ' := by
  obtain ⟨n1, n2⟩ := id hn
  unfold M_newtonStep
  rw [own_corr1 hF σ hn hq hs, own_corr1 hF τ (h.n hn) (by rw [h.i]; exact hq) (h.s hs)]
  simp only [Option.bind_some, h.i]
  have g1 : ∀ k, 0 ≤ k → k < (gI σ 121).toInt → own_md (2 * own_u k - own_cv τ 0 12 k) (gI σ 122) = own_md (2 * own_u k - own_cv σ 0 12 k) (gI σ 122) := fun k _ _ => by rw [h.cv hn (x := 0) (y := 12) (h.a (by decide) _) h14]
  have R1 := h.fill 13 (gI σ 121).toInt g1
  have A15 : own_A 15 (gI σ 121).toInt _ _ := own_Af (σ := σ) (τ := τ) 13 (gI σ 121).toInt g1 (by decide)
  have A14 := own_A.fill 13 (gI σ 121).toInt g1 h14
  have sa : own_S σ (own_fill σ 13 (gI σ 121).toInt fun k => own_md (2 * own_u k - own_cv σ 0 12 k) (gI σ 122)) := own_SF _ _ _ _ (by decide)
  generalize own_fill σ 13 (gI σ 121).toInt _ = a at R1 A15 A14 sa
  generalize own_fill τ 13 (gI σ 121).toInt _ = b at R1 A15 A14
  have na := sa.n hn
  rw [← sa.i] at A14 A15
  rw [own_corr2 hF a na (by rw [sa.i]; exact hq) (sa.s hs), own_corr2 hF b (R1.n na) (by rw [R1.i, sa.i]; exact hq) (R1.s (sa.s hs))]
  simp only [Option.bind_some, R1.i]
  have g2 : ∀ k, 0 ≤ k → k < (gI a 121).toInt → own_md (own_cv b 12 13 k) (gI a 122) = own_md (own_cv a 12 13 k) (gI a 122) := fun k _ _ => by rw [R1.cv na (x := 12) (y := 13) A14 A15]
  have R2 := R1.fill 14 (gI a 121).toInt g2
  have A16 : own_A 16 (gI a 121).toInt _ _ := own_Af (σ := a) (τ := b) 14 (gI a 121).toInt g2 (by decide)
  have sb : own_S a (own_fill a 14 (gI a 121).toInt fun k => own_md (own_cv a 12 13 k) (gI a 122)) := own_SF _ _ _ _ (by decide)
  generalize own_fill a 14 (gI a 121).toInt _ = c at R2 A16 sb
  generalize own_fill b 14 (gI a 121).toInt _ = d at R2 A16
  have hh := (sa.trans sb).s hs
  have nc := (sa.trans sb).n hn
  rw [R2.i, R2.i, hh.2.2.2, hh.2.1, own_copy hF c nc 14 12 (by decide), own_copy hF d (R2.n nc) 14 12 (by decide)]
  simp only [Option.bind_some, R2.i]
  rw [← sb.i] at A16
  have A16' : own_A (own_k 14) (gI c 121).toInt c d := A16
  refine ⟨_, _, rfl, rfl, R2.fill 12 _ A16'.v, ?_⟩
  have := own_Af (σ := c) (τ := d) 12 (gI c 121).toInt A16'.v (by decide)
  rw [sb.i, sa.i] at this ⊢
  exact this
theorem own_l18 {NF n : Nat} {i : Int32} {σ σ' : St} (hi : i < 3) (h : M_newtonStep NF σ = some σ') : M_invertModQ_l18 NF (n + 1) i σ = M_invertModQ_l18 NF n (i + 1) σ' := by
  show M_invertModQ_w18 NF (M_invertModQ_l18 NF n) i σ = _
  unfold M_invertModQ_w18
  rw [if_pos hi, h]
  rfl
theorem own_invQ2 {NF : Nat} (hF : 1100 < NF) {σ τ : St} (h : own_R σ τ) (hn : own_N σ) (hq : 0 < (gI σ 122).toInt) (hs : own_sel σ) : ∃ r σ' τ', M_invertModQ NF σ = some (r, σ') ∧ M_invertModQ NF τ = some (r, τ') ∧ own_R σ' τ' ∧ (r = 0 ∨ (r = 1 ∧ own_A 14 (gI σ 121).toInt σ' τ')) := by
  unfold M_invertModQ
  rw [h.i, hs.2.1]
  obtain ⟨r, a, b, a1, b1, R1, c⟩ := own_byE2 hF h hn 2 12 (by decide) (by decide) (by decide)
  obtain ⟨_, a', e1, e2, _⟩ := own_byE hF σ hn 2 12 (by decide) (by decide) (by decide)
  have : own_S σ a := by rw [a1] at e1; cases e1; exact e2
  clear e1 e2
  rw [a1, b1]
  simp only [Option.bind_some]
  rcases c with rfl | ⟨rfl, A1⟩
  · exact ⟨0, a, b, rfl, rfl, R1, Or.inl rfl⟩
  rw [if_neg (by decide), if_neg (by decide)]
  have sa := this
  obtain ⟨N, rfl⟩ : ∃ N, NF = N + 4 := ⟨NF - 4, by omega⟩
  have i1 : (gI a 121) = gI σ 121 := sa.i 121
  have A1' : own_A 14 (gI a 121).toInt a b := by rw [i1]; exact A1
  obtain ⟨a2, b2, p1, p2, R2, A2⟩ := own_newton2 hF R1 (sa.n hn) (by rw [sa.i]; exact hq) (sa.s hs) A1'
  obtain ⟨y2, z1, s2, _⟩ := own_newton hF a (sa.n hn) (by rw [sa.i]; exact hq) (sa.s hs)
  have s2' : own_S a a2 := by rw [p1] at z1; cases z1; exact s2
  have sa2 := sa.trans s2'
  have A2' : own_A 14 (gI a2 121).toInt a2 b2 := by rw [s2'.i]; exact A2
  obtain ⟨a3, b3, p3, p4, R3, A3⟩ := own_newton2 hF R2 (sa2.n hn) (by rw [sa2.i]; exact hq) (sa2.s hs) A2'
  obtain ⟨y3, z2, s3, _⟩ := own_newton hF a2 (sa2.n hn) (by rw [sa2.i]; exact hq) (sa2.s hs)
  have s3' : own_S a2 a3 := by rw [p3] at z2; cases z2; exact s3
  have sa3 := sa2.trans s3'
  have A3' : own_A 14 (gI a3 121).toInt a3 b3 := by rw [s3'.i]; exact A3
  obtain ⟨a4, b4, p5, p6, R4, A4⟩ := own_newton2 hF R3 (sa3.n hn) (by rw [sa3.i]; exact hq) (sa3.s hs) A3'
  obtain ⟨y4, z3, s4, _⟩ := own_newton hF a3 (sa3.n hn) (by rw [sa3.i]; exact hq) (sa3.s hs)
  have s4' : own_S a3 a4 := by rw [p5] at z3; cases z3; exact s4
  have sa4 := sa3.trans s4'
  have A4' : own_A 14 (gI a4 121).toInt a4 b4 := by rw [s4'.i]; exact A4
  rw [own_l18 (by decide) p1, own_l18 (by decide) p3, own_l18 (by decide) p5, own_l18 (by decide) p2, own_l18 (by decide) p4, own_l18 (by decide) p6]
  show ∃ r σ' τ', M_invertModQ_w18 _ _ _ _ = _ ∧ M_invertModQ_w18 _ _ _ _ = _ ∧ _
  unfold M_invertModQ_w18
  rw [if_neg (by decide), if_neg (by decide), R4.i, R4.i, (sa4.s hs).2.1]
  obtain ⟨v, v1, v2⟩ := own_isI hF a4 (sa4.n hn) 12 (gI a4 122) (by rw [sa4.i]; exact hq)
  obtain ⟨u, u1, u2⟩ := own_isI hF b4 (R4.n (sa4.n hn)) 12 (gI a4 122) (by rw [sa4.i]; exact hq)
  rw [R4.isInv (sa4.n hn) (s := 12) A4'] at u2
  have huv : u = v := by
    rcases v2 with ⟨rfl, v2⟩ | ⟨rfl, v2⟩
    · rcases u2 with ⟨rfl, u2⟩ | ⟨rfl, u2⟩
      · rfl
      · exact absurd u2 v2
    · rcases u2 with ⟨rfl, u2⟩ | ⟨rfl, u2⟩
      · exact absurd v2 u2
      · rfl
  subst huv
  rw [v1, u1]
  simp only [Option.bind_some]
  refine ⟨_, a4, b4, rfl, rfl, R4, ?_⟩
  rcases v2 with ⟨rfl, _⟩ | ⟨rfl, _⟩
  · exact Or.inl nar0
  · exact Or.inr ⟨nar1, by rw [← sa4.i]; exact A4'⟩
theorem own_keygen2 {NF : Nat} (hF : 1100 < NF) {σ τ : St} (h : own_R σ τ) (hn : own_N σ) (hq : 0 < (gI σ 122).toInt) (hs : own_sel σ) : ∃ r σ' τ', M_keygen NF σ = some (r, σ') ∧ M_keygen NF τ = some (r, τ') ∧ own_R σ' τ' := by
  unfold M_keygen M_invertModThree
  rw [h.i, hs.1]
  obtain ⟨r, a, b, a1, b1, R1, c⟩ := own_byE2 hF h hn 3 11 (by decide) (by decide) (by decide)
  obtain ⟨_, a', e1, e2, _⟩ := own_byE hF σ hn 3 11 (by decide) (by decide) (by decide)
  have sa : own_S σ a := by rw [a1] at e1; cases e1; exact e2
  clear e1 e2
  rw [a1, b1]
  simp only [Option.bind_some]
  rcases c with rfl | ⟨rfl, A1⟩
  · rw [nar0]; exact ⟨1, a, b, rfl, rfl, R1⟩
  rw [nar1, if_neg (by decide), if_neg (by decide)]
  obtain ⟨r2, a2, b2, p1, p2, R2, c2⟩ := own_invQ2 hF R1 (sa.n hn) (by rw [sa.i]; exact hq) (sa.s hs)
  obtain ⟨_, y, z1, z2, z3, _⟩ := own_invQ hF a (sa.n hn) (by rw [sa.i]; exact hq) (sa.s hs)
  obtain ⟨_, y', w1, w2, w3, _⟩ := own_invQ hF b (R1.n (sa.n hn)) (by rw [R1.i, sa.i]; exact hq) (R1.s (sa.s hs))
  have s2 : own_S a a2 ∧ ∀ i, gA a2 13 i = gA a 13 i := by rw [p1] at z1; cases z1; exact ⟨z2, z3⟩
  have t2 : own_S b b2 ∧ ∀ i, gA b2 13 i = gA b 13 i := by rw [p2] at w1; cases w1; exact ⟨w2, w3⟩
  have sa2 := sa.trans s2.1
  rw [p1, p2]
  simp only [Option.bind_some]
  rcases c2 with rfl | ⟨rfl, A2⟩
  · exact ⟨2, a2, b2, rfl, rfl, R2⟩
  rw [if_neg (by decide), if_neg (by decide)]
  have A13 : own_A (own_k 11) (gI a2 121).toInt a2 b2 := by
    intro i i0 i1
    show gA b2 13 i = gA a2 13 i
    rw [s2.2, t2.2]
    exact A1 i i0 (by rw [sa2.i] at i1; exact i1)
  have A14 : own_A (own_k 12) (gI a2 121).toInt a2 b2 := by
    intro i i0 i1
    exact A2 i i0 (by rw [s2.1.i] at i1; exact i1)
  have n2 := sa2.n hn
  have sel2 := sa2.s hs
  unfold M_installKey
  rw [own_copy hF a2 n2 0 5 (by decide), own_copy hF b2 (R2.n n2) 0 5 (by decide)]
  simp only [Option.bind_some, R2.i]
  have R3 := R2.fill 5 (gI a2 121).toInt (R2.a (k := own_k 0) (by decide) (gI a2 121).toInt).v
  have B13 : own_A (own_k 11) (gI a2 121).toInt _ _ := own_A.fill 5 (gI a2 121).toInt (R2.a (k := own_k 0) (by decide) (gI a2 121).toInt).v A13
  have B14 : own_A (own_k 12) (gI a2 121).toInt _ _ := own_A.fill 5 (gI a2 121).toInt (R2.a (k := own_k 0) (by decide) (gI a2 121).toInt).v A14
  have i3 : ∀ q, gI (own_fill a2 5 (gI a2 121).toInt (own_v a2 0)) q = gI a2 q := fun q => gI_own _ _ _ _ _
  have n3 : own_N (own_fill a2 5 (gI a2 121).toInt (own_v a2 0)) := own_NF n2
  generalize own_fill a2 5 (gI a2 121).toInt _ = a3 at R3 B13 B14 i3 n3
  generalize own_fill b2 5 (gI a2 121).toInt _ = b3 at R3 B13 B14
  rw [R3.i, i3 142, sel2.1, own_copy hF a3 n3 11 6 (by decide), own_copy hF b3 (R3.n n3) 11 6 (by decide)]
  simp only [Option.bind_some, R3.i]
  rw [← i3] at B13 B14
  have R4 := R3.fill 6 (gI a3 121).toInt B13.v
  have C14 : own_A (own_k 12) (gI a3 121).toInt _ _ := own_A.fill 6 (gI a3 121).toInt B13.v B14
  have i4 : ∀ q, gI (own_fill a3 6 (gI a3 121).toInt (own_v a3 11)) q = gI a3 q := fun q => gI_own _ _ _ _ _
  have n4 : own_N (own_fill a3 6 (gI a3 121).toInt (own_v a3 11)) := own_NF n3
  generalize own_fill a3 6 (gI a3 121).toInt _ = a4 at R4 C14 i4 n4
  generalize own_fill b3 6 (gI a3 121).toInt _ = b4 at R4 C14
  rw [R4.i, i4 143, i3 143, sel2.2.1, own_copy hF a4 n4 12 7 (by decide), own_copy hF b4 (R4.n n4) 12 7 (by decide)]
  simp only [Option.bind_some, R4.i]
  rw [← i4] at C14
  have R5 := R4.fill 7 (gI a4 121).toInt C14.v
  have i5 : ∀ q, gI (own_fill a4 7 (gI a4 121).toInt (own_v a4 12)) q = gI a4 q := fun q => gI_own _ _ _ _ _
  have n5 : own_N (own_fill a4 7 (gI a4 121).toInt (own_v a4 12)) := own_NF n4
  generalize own_fill a4 7 (gI a4 121).toInt _ = a5 at R5 i5 n5
  generalize own_fill b4 7 (gI a4 121).toInt _ = b5 at R5
  have q5 : 0 < (gI a5 122).toInt := by rw [i5, i4, i3, sa2.i]; exact hq
  rw [own_pub hF a5 n5 q5, own_pub hF b5 (R5.n n5) (by rw [R5.i]; exact q5)]
  simp only [Option.bind_some, R5.i]
  have R6 := R5.fill 8 (gI a5 121).toInt (g := fun k => own_md (own_cv a5 7 1 k) (gI a5 122)) (g' := fun k => own_md (own_cv b5 7 1 k) (gI a5 122)) (fun k _ _ => by
    show own_md (own_cv b5 7 1 k) _ = own_md (own_cv a5 7 1 k) _
    rw [R5.cv n5 (R5.a (by decide) _) (R5.a (by decide) _)])
  generalize own_fill a5 8 (gI a5 121).toInt _ = a6 at R6
  generalize own_fill b5 8 (gI a5 121).toInt _ = b6 at R6
  refine ⟨0, _, _, rfl, rfl, ?_, R6.2.1, fun k i hk => R6.2.2 k i hk⟩
  have e1 : b6.1 = a6.1 := R6.1
  show (fun q => if q = 125 then gI (sI b6 124 1) 125 + 1 else if q = 124 then (1 : Int32) else b6.1 q) = (fun q => if q = 125 then gI (sI a6 124 1) 125 + 1 else if q = 124 then (1 : Int32) else a6.1 q)
  have e2 : gI (sI b6 124 1) 125 = gI (sI a6 124 1) 125 := by
    rw [gI_sI, gI_sI, if_neg (by decide), if_neg (by decide)]; exact R6.i 125
  rw [e1, e2]
/-! the other commands, in step -/
theorem own_R.put {σ τ : St} (h : own_R σ τ) (w : Int32) (i : Int) (v : Int32) (hw : own_k w < 12) : own_R (own_put σ w i v) (own_put τ w i v) := by
  unfold own_put
  split
  · exact h
  · refine ⟨h.1, h.2.1, fun k j hk => ?_⟩
    rw [gA_sA, gA_sA]
    split
    · rfl
    · exact h.2.2 k j hk
theorem own_acc2 {σ τ : St} (h : own_R σ τ) (w v : Int32) : ∃ r, M_acceptsValue σ w v = some (r, σ) ∧ M_acceptsValue τ w v = some (r, τ) := by
  unfold M_acceptsValue M_isCipherValue M_isTernary
  rw [h.i]
  split
  · split
    · exact ⟨_, rfl, rfl⟩
    · split <;> exact ⟨_, rfl, rfl⟩
  · split
    · exact ⟨_, rfl, rfl⟩
    · split <;> exact ⟨_, rfl, rfl⟩
/-- a command in step: the same answer; refused, nothing is changed -/
def own_st (σ τ : St) (a b : Option (Int32 × St)) (no : Int32 → Prop) : Prop := ∃ r σ' τ', a = some (r, σ') ∧ b = some (r, τ') ∧ own_R σ' τ' ∧ (no r → own_R σ' τ)
theorem own_st0 {σ τ : St} (h : own_R σ τ) (r : Int32) {no : Int32 → Prop} : own_st σ τ (some (r, σ)) (some (r, τ)) no := ⟨r, σ, τ, rfl, rfl, h, fun _ => h⟩
theorem own_set2 {σ τ : St} (h : own_R σ τ) (hn : own_N σ) (w i v : Int32) : own_st σ τ (M_setCoeff σ w i v) (M_setCoeff τ w i v) (fun r => r = 0) := by
  obtain ⟨n1, n2⟩ := id hn
  unfold M_setCoeff M_isWritable
  by_cases w0 : w < 0
  · rw [if_pos w0, if_pos w0]; exact own_st0 h _
  rw [if_neg w0, if_neg w0]
  by_cases w4 : 4 < w
  · rw [if_pos w4, if_pos w4]; exact own_st0 h _
  rw [if_neg w4, if_neg w4]
  simp only [Option.bind_some, own_idx, h.i]
  rw [if_neg (show ¬ (1 : Int32) = 0 by decide), if_neg (show ¬ (1 : Int32) = 0 by decide)]
  by_cases hi : 0 ≤ i.toInt ∧ i.toInt < (gI σ 121).toInt
  · rw [if_pos hi, if_neg (show ¬ (1 : Int32) = 0 by decide), if_neg (show ¬ (1 : Int32) = 0 by decide)]
    obtain ⟨r, hr, hr2⟩ := own_acc2 h w v
    rw [hr, hr2]
    simp only [Option.bind_some]
    split
    · exact own_st0 h _
    · rw [own_store σ w i v hi.1 (by omega), own_store τ w i v hi.1 (by omega)]
      exact ⟨1, _, _, rfl, rfl, h.put w _ v (by have := own_k5 w0 w4; omega), fun q => absurd q (by decide)⟩
  · rw [if_neg hi, if_pos (show (0 : Int32) = 0 from rfl), if_pos (show (0 : Int32) = 0 from rfl)]; exact own_st0 h _
theorem own_pack2 {NF : Nat} (hF : 1100 < NF) {σ τ : St} (h : own_R σ τ) (hn : own_N σ) (w : Int32) (p : Int64) : own_st σ τ (M_setPacked NF σ w p) (M_setPacked NF τ w p) (fun r => r = 0) := by
  unfold M_setPacked M_isDraft
  by_cases w0 : w < 0
  · rw [if_pos w0, if_pos w0]; exact own_st0 h _
  rw [if_neg w0, if_neg w0]
  by_cases w3 : 3 < w
  · rw [if_pos w3, if_pos w3]; exact own_st0 h _
  rw [if_neg w3, if_neg w3]
  simp only [Option.bind_some]
  rw [if_neg (by decide), if_neg (by decide)]
  have hb : ∃ r, M_highBitsClear σ p = some (r, σ) ∧ M_highBitsClear τ p = some (r, τ) := by
    unfold M_highBitsClear
    rw [h.i]
    split
    · split
      · exact ⟨_, rfl, rfl⟩
      · exact ⟨_, rfl, rfl⟩
    · exact ⟨_, rfl, rfl⟩
  obtain ⟨r, hr, hr2⟩ := hb
  rw [hr, hr2]
  simp only [Option.bind_some]
  split
  · exact own_st0 h _
  · obtain ⟨s, hs, v1⟩ := own_fv hF σ hn p
    obtain ⟨u, hu, v2⟩ := own_fv hF τ (h.n hn) p
    rw [h.i] at v2
    have e : u = s := by
      rcases v1 with ⟨rfl, a⟩ | ⟨rfl, a⟩
      · rcases v2 with ⟨rfl, b⟩ | ⟨rfl, b⟩
        · rfl
        · exact absurd b a
      · rcases v2 with ⟨rfl, b⟩ | ⟨rfl, b⟩
        · exact absurd a b
        · rfl
    subst e
    rw [hs, hu]
    simp only [Option.bind_some]
    split
    · exact own_st0 h _
    · rw [own_unpack hF σ hn, own_unpack hF τ (h.n hn), h.i]
      exact ⟨1, _, _, rfl, rfl, h.fill w _ (fun _ _ _ => rfl), fun q => absurd q (by decide)⟩
theorem own_clr2 {NF : Nat} (hF : 1100 < NF) {σ τ : St} (h : own_R σ τ) (hn : own_N σ) (w : Int32) : own_st σ τ (M_clear NF σ w) (M_clear NF τ w) (fun r => r = 0) := by
  unfold M_clear M_isWritable
  by_cases w0 : w < 0
  · rw [if_pos w0, if_pos w0]; exact own_st0 h _
  rw [if_neg w0, if_neg w0]
  by_cases w4 : 4 < w
  · rw [if_pos w4, if_pos w4]; exact own_st0 h _
  rw [if_neg w4, if_neg w4]
  simp only [Option.bind_some]
  rw [if_neg (by decide), if_neg (by decide), own_zero hF σ hn, own_zero hF τ (h.n hn), h.i]
  exact ⟨1, _, _, rfl, rfl, h.fill w _ (fun _ _ _ => rfl), fun q => absurd q (by decide)⟩
theorem own_R.wt {σ τ : St} (h : own_R σ τ) {w : Int32} (hw : own_k w < 12) : own_v τ w = own_v σ w := by
  funext i
  unfold own_v
  split
  · rfl
  · exact h.2.2 _ i (Or.inl hw)
theorem own_enc2 {NF : Nat} (hF : 1100 < NF) {σ τ : St} (h : own_R σ τ) (hn : own_N σ) (hq : 0 < (gI σ 122).toInt) : own_st σ τ (M_encrypt NF σ) (M_encrypt NF τ) (fun r => ¬ r = 0) := by
  unfold M_encrypt
  rw [h.i]
  split
  · exact own_st0 h _
  · rw [own_weight hF σ hn, own_weight hF τ (h.n hn), h.i, h.wt (by decide)]
    simp only [Option.bind_some, h.i]
    split
    · exact own_st0 h _
    · rw [own_weight hF σ hn, own_weight hF τ (h.n hn), h.i, h.wt (by decide)]
      simp only [Option.bind_some, h.i]
      split
      · exact own_st0 h _
      · rw [own_ciph hF σ hn hq, own_ciph hF τ (h.n hn) (by rw [h.i]; exact hq), h.i, h.i]
        refine ⟨0, _, _, rfl, rfl, h.fill 4 _ (fun k _ _ => ?_), fun q => absurd rfl q⟩
        rw [h.cv hn (x := 3) (y := 8) (h.a (by decide) _) (h.a (by decide) _), h.wt (by decide)]
theorem own_decr2 {NF : Nat} (hF : 1100 < NF) {σ τ : St} (h : own_R σ τ) (hn : own_N σ) (hq : 0 < (gI σ 122).toInt) : own_st σ τ (M_decrypt NF σ) (M_decrypt NF τ) (fun r => ¬ r = 0) := by
  unfold M_decrypt
  rw [h.i]
  split
  · exact own_st0 h _
  · rw [own_cent hF σ hn hq, own_cent hF τ (h.n hn) (by rw [h.i]; exact hq), h.i, h.i]
    simp only [Option.bind_some]
    have R1 := h.fill 9 (gI σ 121).toInt (g := fun k => own_ce (gI σ 122) (own_md (own_cv σ 5 4 k) (gI σ 122))) (g' := fun k => own_ce (gI σ 122) (own_md (own_cv τ 5 4 k) (gI σ 122))) (fun k _ _ => by
      show own_ce _ (own_md (own_cv τ 5 4 k) _) = own_ce _ (own_md (own_cv σ 5 4 k) _)
      rw [h.cv hn (h.a (by decide) _) (h.a (by decide) _)])
    have n1 : own_N (own_fill σ 9 (gI σ 121).toInt fun k => own_ce (gI σ 122) (own_md (own_cv σ 5 4 k) (gI σ 122))) := own_NF hn
    generalize own_fill σ 9 (gI σ 121).toInt _ = a at R1 n1
    generalize own_fill τ 9 (gI σ 121).toInt _ = b at R1
    rw [own_mess hF a n1, own_mess hF b (R1.n n1), R1.i]
    refine ⟨0, _, _, rfl, rfl, R1.fill 10 _ (fun k _ _ => ?_), fun q => absurd rfl q⟩
    rw [R1.cv n1 (x := 6) (y := 9) (R1.a (by decide) _) (R1.a (by decide) _)]
theorem own_same {NF : Nat} (hF : 1100 < NF) (z : Int32) (f : Int → Int32) {σ τ : St} (h : own_R σ τ) (h5 : gI σ 121 = 5) : H_same NF z f σ τ = some (1, σ, τ) := by
  have e0 : (0 : Int32).toInt = 0 := rfl
  have cf : ∀ (x : St), gI x 121 = 5 → ∀ w i : Int32, 0 ≤ w.toInt → w.toInt < 11 → 0 ≤ i.toInt → i.toInt < 5 → M_coeff x w i = some (own_v x w i.toInt, x) := by
    intro x hx w i w0 w1 i0 i1
    unfold M_coeff M_isSelector
    rw [if_neg (by rw [lt_i]; omega), if_neg (by rw [lt_i]; show ¬ (10 : Int) < _; omega)]
    simp only [Option.bind_some, own_idx]
    rw [if_neg (show ¬ (1 : Int32) = 0 by decide), hx, if_pos (show 0 ≤ i.toInt ∧ i.toInt < (5 : Int32).toInt from ⟨i0, i1⟩), if_neg (show ¬ (1 : Int32) = 0 by decide), own_load x w i i0 (by omega)]
    rfl
  unfold H_same M_hasKey M_keyCount
  simp only [Option.bind_some, h.i, if_true]
  refine loop_up (A := St × St) (l := fun n i x => H_same_l28 NF z f n i x.1 x.2) (w := fun kk i x => H_same_w28 NF z f (fun i a b => kk i (a, b)) i x.1 x.2) (fun _ _ _ => rfl) 11 (by decide) (fun _ x => x = (σ, τ)) (fun o => o = some (1, σ, τ)) ?_ ?_ NF 0 (σ, τ) (by decide) (by decide) rfl (by omega)
  · intro kk i x h0 h1 hx ih
    subst hx
    dsimp only
    unfold H_same_w28
    rw [if_pos (by rw [lt_i]; exact h1)]
    refine loop_up (A := St × St) (l := fun n j y => H_same_l36 NF z f (fun i a b => kk i (a, b)) n i j y.1 y.2) (w := fun kj j y => H_same_w36 NF z f (fun i a b => kk i (a, b)) (fun _ j a b => kj j (a, b)) i j y.1 y.2) (fun _ _ _ => rfl) 5 (by decide) (fun _ x => x = (σ, τ)) (fun o => o = some (1, σ, τ)) ?_ ?_ NF 0 (σ, τ) (by decide) (by decide) rfl (by omega)
    · intro kj j y j0 j1 hy ihj
      subst hy
      dsimp only
      unfold H_same_w36
      rw [if_pos (by rw [lt_i]; exact j1), cf σ h5 i j h0 h1 j0 j1, cf τ (by rw [h.i]; exact h5) i j h0 h1 j0 j1]
      simp only [Option.bind_some]
      have hk : own_k i < 12 := by
        have hw : i = 0 ∨ i = 1 ∨ i = 2 ∨ i = 3 ∨ i = 4 ∨ i = 5 ∨ i = 6 ∨ i = 7 ∨ i = 8 ∨ i = 9 ∨ i = 10 := by
          simp only [eq_i32]
          have : (0 : Int32).toInt = 0 ∧ (1 : Int32).toInt = 1 ∧ (2 : Int32).toInt = 2 ∧ (3 : Int32).toInt = 3 ∧ (4 : Int32).toInt = 4 ∧ (5 : Int32).toInt = 5 ∧ (6 : Int32).toInt = 6 ∧ (7 : Int32).toInt = 7 ∧ (8 : Int32).toInt = 8 ∧ (9 : Int32).toInt = 9 ∧ (10 : Int32).toInt = 10 := by decide
          omega
        rcases hw with rfl | rfl | rfl | rfl | rfl | rfl | rfl | rfl | rfl | rfl | rfl <;> decide
      rw [h.wt hk, if_pos rfl]
      exact ihj _ rfl
    · intro kj j y hj hy
      subst hy
      dsimp only
      unfold H_same_w36
      rw [if_neg (by rw [lt_i]; show ¬ _ < (5 : Int); omega)]
      exact ih _ rfl
  · intro kk i x hi hx
    subst hx
    dsimp only
    unfold H_same_w28
    rw [if_neg (by rw [lt_i]; show ¬ _ < (11 : Int); omega)]
def own_I (σ τ : St) : Prop := own_R σ τ ∧ gI σ 121 = 5 ∧ gI σ 122 = 32 ∧ own_sel σ
theorem own_loop {NF : Nat} (hF : 1100 < NF) (z : Int32) (f : Int → Int32) (z2 : z.toInt ≤ 260) : ∀ (n : Nat) (i : Int32) (x y : St), 0 ≤ i.toInt → i.toInt ≤ z.toInt → own_I x y → z.toInt - i.toInt < n → ∃ W, LAW_l22 NF z f n i x y = some (1, W) := by
  have e1 : (1 : Int32).toInt = 1 := rfl
  have e2 : (2 : Int32).toInt = 2 := rfl
  have e3 : (3 : Int32).toInt = 3 := rfl
  have e4 : (4 : Int32).toInt = 4 := rfl
  intro n
  induction n with
  | zero => intro i x y h0 h1 _ h; omega
  | succ n ih =>
    intro i x y h0 h1 hI hn
    show ∃ W, LAW_w22 NF z f (LAW_l22 NF z f n) i x y = some (1, W)
    unfold LAW_w22
    have a1 : (i + 1).toInt = i.toInt + 1 := by rw [i_add (by omega) (by omega), e1]
    have a2 : (i + 2).toInt = i.toInt + 2 := by rw [i_add (by omega) (by omega), e2]
    have a3 : (i + 3).toInt = i.toInt + 3 := by rw [i_add (by omega) (by omega), e3]
    have a4 : (i + 4).toInt = i.toInt + 4 := by rw [i_add (by omega) (by omega), e4]
    by_cases hz : z < i + 4
    · rw [if_pos hz]; exact ⟨_, rfl⟩
    rw [if_neg hz]
    rw [lt_i, a4] at hz
    rw [if_pos ⟨h0, by omega⟩, a1, a2, a3, if_pos ⟨by omega, by omega⟩, if_pos ⟨by omega, by omega⟩, if_pos ⟨by omega, by omega⟩]
    obtain ⟨hR, i5, i32, hs⟩ := hI
    have hN : own_N x := by unfold own_N; rw [i5]; decide
    have hq : 0 < (gI x 122).toInt := by rw [i32]; decide
    have next : ∀ x' y' : St, own_I x' y' → ∃ W, LAW_b261 NF z f (LAW_l22 NF z f n) i x' y' = some (1, W) := by
      intro x' y' hy
      unfold LAW_b261
      rw [own_same hF z f hy.1 hy.2.1]
      simp only [Option.bind_some]
      rw [if_neg (by decide)]
      exact ih (i + 4) x' y' (by omega) (by omega) hy (by omega)
    have keep : ∀ x' : St, own_Z x x' → gI x' 121 = 5 ∧ gI x' 122 = 32 ∧ own_sel x' := by
      intro x' h
      refine ⟨by rw [h.1]; exact i5, by rw [h.1]; exact i32, ?_⟩
      unfold own_sel; rw [h.1, h.1, h.1, h.1]; exact hs
    split
    · obtain ⟨r, s, t, y1, y2, y3, y4⟩ := own_set2 hR hN (f (i.toInt + 1)) (f (i.toInt + 2)) (f (i.toInt + 3))
      obtain ⟨_, s', u1, u2⟩ := own_set x hN (f (i.toInt + 1)) (f (i.toInt + 2)) (f (i.toInt + 3))
      have k : own_Z x s := by rw [y1] at u1; cases u1; exact u2
      rw [y1]
      simp only [Option.bind_some]
      by_cases c : r = 0
      · rw [if_pos c]; exact next s y ⟨y4 c, keep s k⟩
      · rw [if_neg c, y2]
        simp only [Option.bind_some]
        rw [if_neg c]; exact next s t ⟨y3, keep s k⟩
    split
    · obtain ⟨r, s, t, y1, y2, y3, y4⟩ := own_pack2 hF hR hN (f (i.toInt + 1)) (f (i.toInt + 2)).toInt64
      obtain ⟨_, s', u1, u2⟩ := own_pack hF x hN (f (i.toInt + 1)) (f (i.toInt + 2)).toInt64
      have k : own_Z x s := by rw [y1] at u1; cases u1; exact u2
      rw [y1]
      simp only [Option.bind_some]
      by_cases c : r = 0
      · rw [if_pos c]; exact next s y ⟨y4 c, keep s k⟩
      · rw [if_neg c, y2]
        simp only [Option.bind_some]
        rw [if_neg c]; exact next s t ⟨y3, keep s k⟩
    split
    · obtain ⟨r, s, t, y1, y2, y3, y4⟩ := own_clr2 hF hR hN (f (i.toInt + 1))
      obtain ⟨_, s', u1, u2⟩ := own_clr hF x hN (f (i.toInt + 1))
      have k : own_Z x s := by rw [y1] at u1; cases u1; exact u2
      rw [y1]
      simp only [Option.bind_some]
      by_cases c : r = 0
      · rw [if_pos c]; exact next s y ⟨y4 c, keep s k⟩
      · rw [if_neg c, y2]
        simp only [Option.bind_some]
        rw [if_neg c]; exact next s t ⟨y3, keep s k⟩
    split
    · obtain ⟨r, s, t, y1, y2, y3⟩ := own_keygen2 hF hR hN hq hs
      rw [y1]
      simp only [Option.bind_some]
      rcases own_keygen hF x hN hq hs with ⟨r', s', u1, u2, u3⟩ | ⟨s', u1, u2, _⟩
      · have k : r = r' ∧ own_S x s := by rw [y1] at u1; cases u1; exact ⟨rfl, u3⟩
        have c : ¬ r = 0 := by rw [k.1]; rcases u2 with q | q <;> rw [q] <;> decide
        rw [if_neg c]
        exact next s y ⟨hR.left k.2, keep s k.2.Z⟩
      · have k : r = 0 ∧ ∀ q, q ≠ 124 → q ≠ 125 → gI s q = gI x q := by rw [y1] at u1; cases u1; exact ⟨rfl, u2⟩
        rw [if_pos k.1, y2]
        simp only [Option.bind_some]
        rw [if_pos trivial]
        refine next s t ⟨y3, ?_, ?_, ?_⟩
        · rw [k.2 121 (by decide) (by decide)]; exact i5
        · rw [k.2 122 (by decide) (by decide)]; exact i32
        · unfold own_sel
          rw [k.2 142 (by decide) (by decide), k.2 143 (by decide) (by decide), k.2 144 (by decide) (by decide), k.2 145 (by decide) (by decide)]
          exact hs
    split
    · obtain ⟨r, s, t, y1, y2, y3, y4⟩ := own_enc2 hF hR hN hq
      obtain ⟨_, s', u1, u2⟩ := own_enc hF x hN hq
      have k : own_Z x s := by rw [y1] at u1; cases u1; exact u2
      rw [y1]
      simp only [Option.bind_some]
      by_cases c : r = 0
      · rw [if_pos c, y2]
        simp only [Option.bind_some]
        rw [if_pos trivial]; exact next s t ⟨y3, keep s k⟩
      · rw [if_neg c]; exact next s y ⟨y4 c, keep s k⟩
    split
    · obtain ⟨r, s, t, y1, y2, y3, y4⟩ := own_decr2 hF hR hN hq
      obtain ⟨_, s', u1, u2⟩ := own_decr hF x hN hq
      have k : own_Z x s := by rw [y1] at u1; cases u1; exact u2
      rw [y1]
      simp only [Option.bind_some]
      by_cases c : r = 0
      · rw [if_pos c, y2]
        simp only [Option.bind_some]
        rw [if_pos trivial]; exact next s t ⟨y3, keep s k⟩
      · rw [if_neg c]; exact next s y ⟨y4 c, keep s k⟩
    · exact next x y ⟨hR, i5, i32, hs⟩
theorem law_true (z : Int32) (f : Int → Int32) (z1 : 0 ≤ z.toInt) (z2 : z.toInt ≤ 260) : ∃ NF W, LAW NF z f = some (1, W) := by
  refine ⟨1200, ?_⟩
  unfold LAW
  rw [own_init (by decide) 5 5 5 5 (by decide) (by decide) (by decide) (by decide)]
  simp only [Option.bind_some]
  have h : own_I (own_new 5 ((1 : Int32) <<< (5 &&& 31))) (own_new 5 ((1 : Int32) <<< (5 &&& 31))) := ⟨⟨rfl, rfl, fun _ _ _ => rfl⟩, rfl, by decide, rfl, rfl, rfl, rfl⟩
  exact own_loop (by decide) z f z2 1200 0 _ _ (by decide) (by show (0 : Int) ≤ _; omega) h (by show _ - (0 : Int) < _; omega)
set_option maxRecDepth 65536 in
set_option maxHeartbeats 40000000 in
theorem comes_1 {Post : Tables → Env → Array Value → State → Outcome → State → Prop} (hpost : ∀ tb e args s v u, (limb_1_1.after args s (.returned v) u = true ∧ limb_1_2.after args s (.returned v) u = true ∧ True) → FrameEnd s (.returned v) u (Jvm.fieldLocs frame_1_writes args s ++ Jvm.arrayLocs frame_1_arrays args s ++ Jvm.staticLocs frame_1_statics s) 80 2432 → Post tb e args s (.returned v) u) :
    Jvm.D.ArmFor flags0 classFile x code maxLocals ret World_1 tables_1 room_1 Calls_1 rest_1 Pre_1 Post := by
  intro l hfl _ _ p e ha hc hk s m args below hf hA hF happ hP
  obtain ⟨hcalls, hrest, hpre⟩ := hP
  obtain ⟨-, -, -, hnamed, -, -, -, hat⟩ := (Spec.applies_iff hf).mp happ
  obtain ⟨hg, hn⟩ := and_e (Cond.before_iff.mp (show (Jvm.Cond.and given_1 narrow_1).before args s = true from hpre))
  have hw : HW args s := fun d (hd : d ∈ tables_1) => atoms_spec (ws := Jvm.Cond.code x code maxLocals ret :: tables_1) hat d (List.mem_cons_of_mem _ hd)
  have hfit : Fit s := fun {y c} hc i hi => by
    obtain ⟨ha, rfl⟩ := Array.getElem?_eq_some_iff.mp hc
    have q := List.all_eq_true.mp ((Array.all_eq_true_iff_forall_mem.mp hF) _ (Array.getElem_mem ha)) i (List.mem_range.mpr hi)
    simpa [Array.getElem?_eq_getElem hi] using q
  obtain ⟨g0, h0⟩ := and_e hg
  obtain ⟨v0, rfl⟩ : ∃ v0 : Value, args = #[v0] := by
    have hs : args.size = 1 := by simpa [Cond.value, given_1] using g0
    obtain ⟨L⟩ := args
    match L, hs with
    | [v0], _ => exact ⟨v0, rfl⟩
  obtain ⟨nA, nL⟩ := and_e hn
  obtain ⟨sc, esc⟩ := arr_v nA
  obtain rfl : v0 = .ref sc := Option.some.inj esc
  obtain ⟨z, f, hS, hz⟩ := script_start hfit esc nA nL
  obtain ⟨NF, W, hW⟩ := law_true z f hS.le0 hz
  obtain ⟨n, o, h1, h2, h3, w, L, rfl, ⟨rfl, N, -⟩, hq⟩ := con_LAW l s _ hw tables_1 sc s.heap hS hW p e ha hc hk s m _ below hf ((Spec.applies_iff_loose hf).mp happ).1 ⟨rfl, State.Warmed39.refl s, rfl⟩ trivial
  refine ⟨n, _, h1, h2, h3, hpost _ _ _ _ _ _ ⟨Cond.after_iff.mpr rfl, Cond.after_iff.mpr (eq_i res_at (Term.int_eval (1)) rfl), trivial⟩ ⟨hq.1, hq.2.1, (hq.2.2.sift fun y hy => Or.inr (N y hy)).mono (by decide) (by decide)⟩⟩
theorem main_1_1 : Claimed_1_1 := comes_1 fun _ _ _ _ _ _ h hF => ⟨h.1, hF⟩
theorem main_1_2 : Claimed_1_2 := comes_1 fun _ _ _ _ _ _ h hF => ⟨h.2.1, hF⟩
end Jvm.Pilot.@@N@@
namespace Jvm.Pilot.@@N@@
open Jvm Jvm.ClassFile Sem Op Lib Jvm.Free Jvm.Stand Jvm.Pilot.@@N@@.Jvm.D
/-! MADE BY PROGRAM (witnessworld.py) out of the Statement's table words and the real class files: 9 classes; the members and pool entries that the words name. The judged class is class 1, her method 1. -/
namespace start1
open Jvm.ClassFile
def u (s : String) : CpInfo := .utf8 (stringToUtf16 s)
/-- a pool by its gaps: so many unusable entries, then the entry; so many at the end -/
def gap : Nat → List CpInfo → List CpInfo
  | 0, r => r
  | n + 1, r => .unusable :: gap n r
def poolList (es : List (Nat × CpInfo)) (last : Nat) : List CpInfo := es.foldr (fun e r => gap e.1 (e.2 :: r)) (gap last [])
def pool (es : List (Nat × CpInfo)) (last : Nat) : Array CpInfo := ⟨poolList es last⟩
def fileOf (pool : Array CpInfo) (this : Nat) (attrs : Array Attribute := #[]) (ms : Array MethodInfo := #[]) (fl : Nat := 33) (sup : Nat := 0) (ifs : Array Nat := #[]) (fds : Array FieldInfo := #[]) : ClassFile where
  minorVersion := 0
  majorVersion := 65
  constantPool := pool
  accessFlags := fl
  thisClass := this
  superClass := sup
  interfaces := ifs
  fields := fds
  methods := ms
  attributes := attrs
def plain (name : String) (sup : Option ClassId) : Class where
  name := name
  kind := .ordinary
  loader := none
  accessFlags := 33
  super := sup
  interfaces := #[]
  cf := none
  fields := #[]
  methods := #[]
  instanceTypes := #[]
  staticTypes := #[]
  resolved := #[]
  callSites := []
  init := .initialized
  statics := none
  mirror := none

def pool0 : Array CpInfo := pool [(5, u "<init>"), (0, u "()V"), (1, .class_ 10), (1, u "java/lang/Object")] 113

def k0c0 : Code := { maxStack := 0, maxLocals := 1, code := object_method_1_code, exceptionTable := #[], attributes := #[] }
def k0m0 : Method := { name := "<init>", desc := "()V", sig := { parameters := [], returnType := none }, accessFlags := 1, code := some k0c0 }
/-- java/lang/Object -/
def k0 : Class := { plain "java/lang/Object" none with
  accessFlags := 33
  interfaces := #[]
  cf := some (fileOf pool0 8 #[] #[{ accessFlags := 1, nameIndex := 5, descriptorIndex := 6, attributes := #[] }] 33 0 #[] #[])
  fields := #[]
  methods := #[k0m0]
  instanceTypes := #[]
  staticTypes := #[]
  resolved := Array.replicate 124 none
  statics := none }

def pool1 : Array CpInfo := pool [(2, .class_ 4), (1, u "java/lang/Object"), (0, u "<init>"), (0, u "()V"), (0, .class_ 8), (0, u "NtruToy"), (0, .methodref 7 10), (0, .nameAndType 5 11), (0, u "(II)V"), (0, .methodref 7 13), (0, .nameAndType 14 15), (0, u "setCoeff"), (0, u "(III)Z"), (0, .methodref 7 17), (0, .nameAndType 18 19), (0, u "setPacked"), (0, u "(IJ)Z"), (0, .methodref 7 21), (0, .nameAndType 22 23), (0, u "clear"), (0, u "(I)Z"), (0, .methodref 7 25), (0, .nameAndType 26 27), (0, u "keygen"), (0, u "()I"), (0, .methodref 7 29), (0, .nameAndType 30 27), (0, u "encrypt"), (0, .methodref 7 32), (0, .nameAndType 33 27), (0, u "decrypt"), (0, .methodref 35 36), (0, .class_ 37), (0, .nameAndType 38 39), (0, u "NtruToyL5"), (0, u "same"), (0, u "(LNtruToy;LNtruToy;)Z"), (0, .methodref 7 41), (0, .nameAndType 42 43), (0, u "hasKey"), (0, u "()Z"), (0, .methodref 7 45), (0, .nameAndType 46 27), (0, u "keyCount"), (0, .methodref 7 48), (0, .nameAndType 49 50), (0, u "coeff"), (0, u "(II)I"), (2, u "law"), (0, u "([I)Z")] 5

def k1m0 : Method := { name := "<init>", desc := "()V", sig := { parameters := [], returnType := none }, accessFlags := 1, code := none }
def k1c1 : Code := { maxStack := 4, maxLocals := 9, code := code, exceptionTable := #[], attributes := #[] }
def k1m1 : Method := { name := "law", desc := "([I)Z", sig := { parameters := [(.array .int)], returnType := some .boolean }, accessFlags := 9, code := some k1c1 }
def k1c2 : Code := { maxStack := 4, maxLocals := 4, code := method_3_code, exceptionTable := #[], attributes := #[] }
def k1m2 : Method := { name := "same", desc := "(LNtruToy;LNtruToy;)Z", sig := { parameters := [(.object "NtruToy"), (.object "NtruToy")], returnType := some .boolean }, accessFlags := 10, code := some k1c2 }
/-- NtruToyL5 -/
def k1 : Class := { plain "NtruToyL5" (some 0) with
  accessFlags := 49
  interfaces := #[]
  cf := some (fileOf pool1 35 #[] #[{ accessFlags := 1, nameIndex := 5, descriptorIndex := 6, attributes := #[] }, { accessFlags := 9, nameIndex := 53, descriptorIndex := 54, attributes := #[] }, { accessFlags := 10, nameIndex := 38, descriptorIndex := 39, attributes := #[] }] 49 2 #[] #[])
  fields := #[]
  methods := #[k1m0, k1m1, k1m2]
  instanceTypes := #[]
  staticTypes := #[]
  resolved := Array.replicate 60 none
  statics := none }

def pool2 : Array CpInfo := pool [(1, .methodref 2 3), (0, .class_ 4), (0, .nameAndType 5 6), (0, u "java/lang/Object"), (0, u "<init>"), (0, u "()V"), (0, .fieldref 8 9), (0, .class_ 10), (0, .nameAndType 11 12), (0, u "NtruToy"), (0, u "f"), (0, u "[I"), (0, .fieldref 8 14), (0, .nameAndType 15 12), (0, u "g"), (0, .fieldref 8 17), (0, .nameAndType 18 12), (0, u "m"), (0, .fieldref 8 20), (0, .nameAndType 21 12), (0, u "r"), (0, .fieldref 8 23), (0, .nameAndType 24 12), (0, u "c"), (0, .fieldref 8 26), (0, .nameAndType 27 12), (0, u "kf"), (0, .fieldref 8 29), (0, .nameAndType 30 12), (0, u "fp"), (0, .fieldref 8 32), (0, .nameAndType 33 12), (0, u "fq"), (0, .fieldref 8 35), (0, .nameAndType 36 12), (0, u "h"), (0, .fieldref 8 38), (0, .nameAndType 39 12), (0, u "a"), (0, .fieldref 8 41), (0, .nameAndType 42 12), (0, u "d"), (0, .fieldref 8 44), (0, .nameAndType 45 12), (0, u "mat"), (0, .fieldref 8 47), (0, .nameAndType 48 12), (0, u "invP"), (0, .fieldref 8 50), (0, .nameAndType 51 12), (0, u "invQ"), (0, .fieldref 8 53), (0, .nameAndType 54 12), (0, u "lift"), (0, .fieldref 8 56), (0, .nameAndType 57 12), (0, u "lift2"), (0, .fieldref 8 59), (0, .nameAndType 60 61), (0, u "selInvP"), (0, u "I"), (0, .fieldref 8 63), (0, .nameAndType 64 61), (0, u "selInvQ"), (0, .fieldref 8 66), (0, .nameAndType 67 61), (0, u "selLift"), (0, .fieldref 8 69), (0, .nameAndType 70 61), (0, u "selLift2"), (0, .methodref 8 72), (0, .nameAndType 73 74), (0, u "clampInt"), (0, u "(III)I"), (0, .fieldref 8 76), (0, .nameAndType 77 61), (0, u "n"), (0, .methodref 8 79), (0, .nameAndType 80 81), (0, u "powerOfTwo"), (0, u "(I)I"), (0, .fieldref 8 83), (0, .nameAndType 84 61), (0, u "q"), (0, .fieldref 8 86), (0, .nameAndType 87 61), (0, u "bound"), (0, .fieldref 8 89), (0, .nameAndType 90 91), (0, u "keyed"), (0, u "Z"), (0, .fieldref 8 93), (0, .nameAndType 94 61), (0, u "keys"), (0, .methodref 8 96), (0, .nameAndType 97 98), (0, u "isWritable"), (0, u "(I)Z"), (0, .methodref 8 100), (0, .nameAndType 101 98), (0, u "isIndex"), (0, .methodref 8 103), (0, .nameAndType 104 105), (0, u "acceptsValue"), (0, u "(II)Z"), (0, .methodref 8 107), (0, .nameAndType 108 109), (0, u "store"), (0, u "(III)V"), (0, .methodref 8 111), (0, .nameAndType 112 98), (0, u "isDraft"), (0, .methodref 8 114), (0, .nameAndType 115 116), (0, u "highBitsClear"), (0, u "(J)Z"), (0, .methodref 8 118), (0, .nameAndType 119 116), (0, u "fieldsValid"), (0, .methodref 8 121), (0, .nameAndType 122 123), (0, u "unpackInto"), (0, u "(IJ)V"), (0, .methodref 8 125), (0, .nameAndType 126 127), (0, u "zeroPoly"), (0, u "(I)V"), (0, .methodref 8 129), (0, .nameAndType 130 131), (0, u "invertModThree"), (0, u "()Z"), (0, .methodref 8 133), (0, .nameAndType 134 131), (0, u "invertModQ"), (0, .methodref 8 136), (0, .nameAndType 137 6), (0, u "installKey"), (0, .methodref 8 139), (0, .nameAndType 140 81), (0, u "weightOf"), (0, .methodref 8 142), (0, .nameAndType 143 6), (0, u "writeCiphertext"), (0, .methodref 8 145), (0, .nameAndType 146 6), (0, u "writeCentred"), (0, .methodref 8 148), (0, .nameAndType 149 6), (0, u "writeMessage"), (0, .methodref 8 151), (0, .nameAndType 152 98), (0, u "isSelector"), (0, .methodref 8 154), (0, .nameAndType 155 156), (0, u "load"), (0, u "(II)I"), (0, .methodref 8 158), (0, .nameAndType 159 156), (0, u "mod"), (0, .methodref 8 161), (0, .nameAndType 162 98), (0, u "isCipherValue"), (0, .methodref 8 164), (0, .nameAndType 165 98), (0, u "isTernary"), (0, .methodref 8 167), (0, .nameAndType 168 156), (0, u "loadScratch"), (0, .methodref 8 170), (0, .nameAndType 171 156), (0, u "loadHeld"), (0, .methodref 8 173), (0, .nameAndType 174 109), (0, u "storeScratch"), (0, .methodref 8 176), (0, .nameAndType 177 109), (0, u "storeHeld"), (0, .methodref 8 179), (0, .nameAndType 180 81), (0, u "cyclicIndex"), (0, .long 3), (1, .methodref 8 184), (0, .nameAndType 185 186), (0, u "fieldOf"), (0, u "(JI)I"), (0, .methodref 8 188), (0, .nameAndType 189 81), (0, u "decodeField"), (0, .methodref 8 191), (0, .nameAndType 192 6), (0, u "clearMatrix"), (0, .methodref 8 194), (0, .nameAndType 195 109), (0, u "matPut"), (0, .methodref 8 197), (0, .nameAndType 198 81), (0, u "unitCoeff"), (0, .methodref 8 200), (0, .nameAndType 201 156), (0, u "findPivot"), (0, .methodref 8 203), (0, .nameAndType 204 205), (0, u "swapRows"), (0, u "(II)V"), (0, .methodref 8 207), (0, .nameAndType 208 156), (0, u "matAt"), (0, .methodref 8 210), (0, .nameAndType 211 156), (0, u "inverseMod"), (0, .methodref 8 213), (0, .nameAndType 214 109), (0, u "scaleRow"), (0, .methodref 8 216), (0, .nameAndType 217 205), (0, u "clearColumn"), (0, .methodref 8 219), (0, .nameAndType 220 221), (0, u "subtractRow"), (0, u "(IIII)V"), (0, .methodref 8 223), (0, .nameAndType 224 127), (0, u "buildSystem"), (0, .methodref 8 226), (0, .nameAndType 227 98), (0, u "eliminate"), (0, .methodref 8 229), (0, .nameAndType 230 127), (0, u "readSolution"), (0, .methodref 8 232), (0, .nameAndType 233 105), (0, u "isInverseOfDraft"), (0, .methodref 8 235), (0, .nameAndType 236 105), (0, u "invertByElimination"), (0, .methodref 8 238), (0, .nameAndType 239 6), (0, u "newtonStep"), (0, .methodref 8 241), (0, .nameAndType 242 6), (0, u "computeCorrection"), (0, .methodref 8 244), (0, .nameAndType 245 6), (0, u "applyCorrection"), (0, .methodref 8 247), (0, .nameAndType 248 205), (0, u "copyPoly"), (0, .methodref 8 250), (0, .nameAndType 251 74), (0, u "convAt"), (0, .methodref 8 253), (0, .nameAndType 254 6), (0, u "computePublicKey"), (0, .methodref 8 256), (0, .nameAndType 257 81), (0, u "cipherCoeff"), (0, .methodref 8 259), (0, .nameAndType 260 81), (0, u "centre"), (0, .methodref 8 262), (0, .nameAndType 263 81), (0, u "ternaryOf"), (0, u "POLY_F"), (2, u "POLY_G"), (1, u "POLY_M"), (1, u "POLY_R"), (1, u "POLY_C"), (1, u "POLY_KF"), (1, u "POLY_FP"), (1, u "POLY_FQ"), (1, u "POLY_H"), (1, u "POLY_A"), (1, u "POLY_D"), (1, u "KEY_OK"), (0, u "KEY_NO_INVERSE_P"), (0, u "KEY_NO_INVERSE_Q"), (0, u "ENC_OK"), (0, u "ENC_NO_KEY"), (0, u "ENC_M_TOO_HEAVY"), (0, u "ENC_R_TOO_HEAVY"), (0, u "DEC_OK"), (0, u "DEC_NO_KEY"), (3, u "()I"), (2, u "setCoeff"), (0, u "(III)Z"), (1, u "setPacked"), (0, u "(IJ)Z"), (0, u "clear"), (0, u "keygen"), (0, u "hasKey"), (0, u "keyCount"), (0, u "encrypt"), (0, u "decrypt"), (0, u "coeff")] 3

def k2c0 : Code := { maxStack := 4, maxLocals := 5, code := prog_1_method_1_code, exceptionTable := #[], attributes := #[] }
def k2m0 : Method := { name := "<init>", desc := "(II)V", sig := { parameters := [.int, .int], returnType := none }, accessFlags := 1, code := some k2c0 }
def k2c1 : Code := { maxStack := 4, maxLocals := 4, code := prog_1_method_5_code, exceptionTable := #[], attributes := #[] }
def k2m1 : Method := { name := "setCoeff", desc := "(III)Z", sig := { parameters := [.int, .int, .int], returnType := some .boolean }, accessFlags := 1, code := some k2c1 }
def k2c2 : Code := { maxStack := 4, maxLocals := 4, code := prog_1_method_6_code, exceptionTable := #[], attributes := #[] }
def k2m2 : Method := { name := "setPacked", desc := "(IJ)Z", sig := { parameters := [.int, .long], returnType := some .boolean }, accessFlags := 1, code := some k2c2 }
def k2c3 : Code := { maxStack := 2, maxLocals := 2, code := prog_1_method_7_code, exceptionTable := #[], attributes := #[] }
def k2m3 : Method := { name := "clear", desc := "(I)Z", sig := { parameters := [.int], returnType := some .boolean }, accessFlags := 1, code := some k2c3 }
def k2c4 : Code := { maxStack := 1, maxLocals := 3, code := prog_1_method_8_code, exceptionTable := #[], attributes := #[] }
def k2m4 : Method := { name := "keygen", desc := "()I", sig := { parameters := [], returnType := some .int }, accessFlags := 1, code := some k2c4 }
def k2c5 : Code := { maxStack := 1, maxLocals := 1, code := prog_1_method_9_code, exceptionTable := #[], attributes := #[] }
def k2m5 : Method := { name := "hasKey", desc := "()Z", sig := { parameters := [], returnType := some .boolean }, accessFlags := 1, code := some k2c5 }
def k2c6 : Code := { maxStack := 1, maxLocals := 1, code := prog_1_method_10_code, exceptionTable := #[], attributes := #[] }
def k2m6 : Method := { name := "keyCount", desc := "()I", sig := { parameters := [], returnType := some .int }, accessFlags := 1, code := some k2c6 }
def k2c7 : Code := { maxStack := 2, maxLocals := 3, code := prog_1_method_11_code, exceptionTable := #[], attributes := #[] }
def k2m7 : Method := { name := "encrypt", desc := "()I", sig := { parameters := [], returnType := some .int }, accessFlags := 1, code := some k2c7 }
def k2c8 : Code := { maxStack := 1, maxLocals := 1, code := prog_1_method_12_code, exceptionTable := #[], attributes := #[] }
def k2m8 : Method := { name := "decrypt", desc := "()I", sig := { parameters := [], returnType := some .int }, accessFlags := 1, code := some k2c8 }
def k2c9 : Code := { maxStack := 3, maxLocals := 3, code := prog_1_method_13_code, exceptionTable := #[], attributes := #[] }
def k2m9 : Method := { name := "coeff", desc := "(II)I", sig := { parameters := [.int, .int], returnType := some .int }, accessFlags := 1, code := some k2c9 }
def k2c10 : Code := { maxStack := 2, maxLocals := 4, code := prog_1_method_15_code, exceptionTable := #[], attributes := #[] }
def k2m10 : Method := { name := "clampInt", desc := "(III)I", sig := { parameters := [.int, .int, .int], returnType := some .int }, accessFlags := 2, code := some k2c10 }
def k2c11 : Code := { maxStack := 2, maxLocals := 4, code := prog_1_method_16_code, exceptionTable := #[], attributes := #[] }
def k2m11 : Method := { name := "powerOfTwo", desc := "(I)I", sig := { parameters := [.int], returnType := some .int }, accessFlags := 2, code := some k2c11 }
def k2c12 : Code := { maxStack := 2, maxLocals := 4, code := prog_1_method_17_code, exceptionTable := #[], attributes := #[] }
def k2m12 : Method := { name := "mod", desc := "(II)I", sig := { parameters := [.int, .int], returnType := some .int }, accessFlags := 2, code := some k2c12 }
def k2c13 : Code := { maxStack := 3, maxLocals := 6, code := prog_1_method_18_code, exceptionTable := #[], attributes := #[] }
def k2m13 : Method := { name := "inverseMod", desc := "(II)I", sig := { parameters := [.int, .int], returnType := some .int }, accessFlags := 2, code := some k2c13 }
def k2c14 : Code := { maxStack := 1, maxLocals := 2, code := prog_1_method_19_code, exceptionTable := #[], attributes := #[] }
def k2m14 : Method := { name := "unitCoeff", desc := "(I)I", sig := { parameters := [.int], returnType := some .int }, accessFlags := 2, code := some k2c14 }
def k2c15 : Code := { maxStack := 3, maxLocals := 2, code := prog_1_method_20_code, exceptionTable := #[], attributes := #[] }
def k2m15 : Method := { name := "cyclicIndex", desc := "(I)I", sig := { parameters := [.int], returnType := some .int }, accessFlags := 2, code := some k2c15 }
def k2c16 : Code := { maxStack := 2, maxLocals := 3, code := prog_1_method_21_code, exceptionTable := #[], attributes := #[] }
def k2m16 : Method := { name := "centre", desc := "(I)I", sig := { parameters := [.int], returnType := some .int }, accessFlags := 2, code := some k2c16 }
def k2c17 : Code := { maxStack := 2, maxLocals := 2, code := prog_1_method_22_code, exceptionTable := #[], attributes := #[] }
def k2m17 : Method := { name := "ternaryOf", desc := "(I)I", sig := { parameters := [.int], returnType := some .int }, accessFlags := 2, code := some k2c17 }
def k2c18 : Code := { maxStack := 2, maxLocals := 2, code := prog_1_method_23_code, exceptionTable := #[], attributes := #[] }
def k2m18 : Method := { name := "isSelector", desc := "(I)Z", sig := { parameters := [.int], returnType := some .boolean }, accessFlags := 2, code := some k2c18 }
def k2c19 : Code := { maxStack := 2, maxLocals := 2, code := prog_1_method_24_code, exceptionTable := #[], attributes := #[] }
def k2m19 : Method := { name := "isWritable", desc := "(I)Z", sig := { parameters := [.int], returnType := some .boolean }, accessFlags := 2, code := some k2c19 }
def k2c20 : Code := { maxStack := 2, maxLocals := 2, code := prog_1_method_25_code, exceptionTable := #[], attributes := #[] }
def k2m20 : Method := { name := "isDraft", desc := "(I)Z", sig := { parameters := [.int], returnType := some .boolean }, accessFlags := 2, code := some k2c20 }
def k2c21 : Code := { maxStack := 2, maxLocals := 2, code := prog_1_method_26_code, exceptionTable := #[], attributes := #[] }
def k2m21 : Method := { name := "isIndex", desc := "(I)Z", sig := { parameters := [.int], returnType := some .boolean }, accessFlags := 2, code := some k2c21 }
def k2c22 : Code := { maxStack := 2, maxLocals := 2, code := prog_1_method_27_code, exceptionTable := #[], attributes := #[] }
def k2m22 : Method := { name := "isTernary", desc := "(I)Z", sig := { parameters := [.int], returnType := some .boolean }, accessFlags := 2, code := some k2c22 }
def k2c23 : Code := { maxStack := 2, maxLocals := 2, code := prog_1_method_28_code, exceptionTable := #[], attributes := #[] }
def k2m23 : Method := { name := "isCipherValue", desc := "(I)Z", sig := { parameters := [.int], returnType := some .boolean }, accessFlags := 2, code := some k2c23 }
def k2c24 : Code := { maxStack := 2, maxLocals := 3, code := prog_1_method_29_code, exceptionTable := #[], attributes := #[] }
def k2m24 : Method := { name := "acceptsValue", desc := "(II)Z", sig := { parameters := [.int, .int], returnType := some .boolean }, accessFlags := 2, code := some k2c24 }
def k2c25 : Code := { maxStack := 3, maxLocals := 3, code := prog_1_method_30_code, exceptionTable := #[], attributes := #[] }
def k2m25 : Method := { name := "load", desc := "(II)I", sig := { parameters := [.int, .int], returnType := some .int }, accessFlags := 2, code := some k2c25 }
def k2c26 : Code := { maxStack := 2, maxLocals := 3, code := prog_1_method_31_code, exceptionTable := #[], attributes := #[] }
def k2m26 : Method := { name := "loadHeld", desc := "(II)I", sig := { parameters := [.int, .int], returnType := some .int }, accessFlags := 2, code := some k2c26 }
def k2c27 : Code := { maxStack := 2, maxLocals := 3, code := prog_1_method_32_code, exceptionTable := #[], attributes := #[] }
def k2m27 : Method := { name := "loadScratch", desc := "(II)I", sig := { parameters := [.int, .int], returnType := some .int }, accessFlags := 2, code := some k2c27 }
def k2c28 : Code := { maxStack := 4, maxLocals := 4, code := prog_1_method_33_code, exceptionTable := #[], attributes := #[] }
def k2m28 : Method := { name := "store", desc := "(III)V", sig := { parameters := [.int, .int, .int], returnType := none }, accessFlags := 2, code := some k2c28 }
def k2c29 : Code := { maxStack := 3, maxLocals := 4, code := prog_1_method_34_code, exceptionTable := #[], attributes := #[] }
def k2m29 : Method := { name := "storeHeld", desc := "(III)V", sig := { parameters := [.int, .int, .int], returnType := none }, accessFlags := 2, code := some k2c29 }
def k2c30 : Code := { maxStack := 3, maxLocals := 4, code := prog_1_method_35_code, exceptionTable := #[], attributes := #[] }
def k2m30 : Method := { name := "storeScratch", desc := "(III)V", sig := { parameters := [.int, .int, .int], returnType := none }, accessFlags := 2, code := some k2c30 }
def k2c31 : Code := { maxStack := 4, maxLocals := 3, code := prog_1_method_36_code, exceptionTable := #[], attributes := #[] }
def k2m31 : Method := { name := "zeroPoly", desc := "(I)V", sig := { parameters := [.int], returnType := none }, accessFlags := 2, code := some k2c31 }
def k2c32 : Code := { maxStack := 4, maxLocals := 5, code := prog_1_method_37_code, exceptionTable := #[], attributes := #[] }
def k2m32 : Method := { name := "copyPoly", desc := "(II)V", sig := { parameters := [.int, .int], returnType := none }, accessFlags := 2, code := some k2c32 }
def k2c33 : Code := { maxStack := 3, maxLocals := 4, code := prog_1_method_38_code, exceptionTable := #[], attributes := #[] }
def k2m33 : Method := { name := "weightOf", desc := "(I)I", sig := { parameters := [.int], returnType := some .int }, accessFlags := 2, code := some k2c33 }
def k2c34 : Code := { maxStack := 3, maxLocals := 9, code := prog_1_method_39_code, exceptionTable := #[], attributes := #[] }
def k2m34 : Method := { name := "convAt", desc := "(III)I", sig := { parameters := [.int, .int, .int], returnType := some .int }, accessFlags := 2, code := some k2c34 }
def k2c35 : Code := { maxStack := 4, maxLocals := 4, code := prog_1_method_40_code, exceptionTable := #[], attributes := #[] }
def k2m35 : Method := { name := "highBitsClear", desc := "(J)Z", sig := { parameters := [.long], returnType := some .boolean }, accessFlags := 2, code := some k2c35 }
def k2c36 : Code := { maxStack := 4, maxLocals := 7, code := prog_1_method_41_code, exceptionTable := #[], attributes := #[] }
def k2m36 : Method := { name := "fieldOf", desc := "(JI)I", sig := { parameters := [.long, .int], returnType := some .int }, accessFlags := 2, code := some k2c36 }
def k2c37 : Code := { maxStack := 4, maxLocals := 4, code := prog_1_method_42_code, exceptionTable := #[], attributes := #[] }
def k2m37 : Method := { name := "fieldsValid", desc := "(J)Z", sig := { parameters := [.long], returnType := some .boolean }, accessFlags := 2, code := some k2c37 }
def k2c38 : Code := { maxStack := 2, maxLocals := 2, code := prog_1_method_43_code, exceptionTable := #[], attributes := #[] }
def k2m38 : Method := { name := "decodeField", desc := "(I)I", sig := { parameters := [.int], returnType := some .int }, accessFlags := 2, code := some k2c38 }
def k2c39 : Code := { maxStack := 4, maxLocals := 7, code := prog_1_method_44_code, exceptionTable := #[], attributes := #[] }
def k2m39 : Method := { name := "unpackInto", desc := "(IJ)V", sig := { parameters := [.int, .long], returnType := none }, accessFlags := 2, code := some k2c39 }
def k2c40 : Code := { maxStack := 3, maxLocals := 3, code := prog_1_method_45_code, exceptionTable := #[], attributes := #[] }
def k2m40 : Method := { name := "matAt", desc := "(II)I", sig := { parameters := [.int, .int], returnType := some .int }, accessFlags := 2, code := some k2c40 }
def k2c41 : Code := { maxStack := 3, maxLocals := 4, code := prog_1_method_46_code, exceptionTable := #[], attributes := #[] }
def k2m41 : Method := { name := "matPut", desc := "(III)V", sig := { parameters := [.int, .int, .int], returnType := none }, accessFlags := 2, code := some k2c41 }
def k2c42 : Code := { maxStack := 3, maxLocals := 2, code := prog_1_method_47_code, exceptionTable := #[], attributes := #[] }
def k2m42 : Method := { name := "clearMatrix", desc := "()V", sig := { parameters := [], returnType := none }, accessFlags := 2, code := some k2c42 }
def k2c43 : Code := { maxStack := 4, maxLocals := 7, code := prog_1_method_48_code, exceptionTable := #[], attributes := #[] }
def k2m43 : Method := { name := "buildSystem", desc := "(I)V", sig := { parameters := [.int], returnType := none }, accessFlags := 2, code := some k2c43 }
def k2c44 : Code := { maxStack := 4, maxLocals := 6, code := prog_1_method_49_code, exceptionTable := #[], attributes := #[] }
def k2m44 : Method := { name := "eliminate", desc := "(I)Z", sig := { parameters := [.int], returnType := some .boolean }, accessFlags := 2, code := some k2c44 }
def k2c45 : Code := { maxStack := 3, maxLocals := 5, code := prog_1_method_50_code, exceptionTable := #[], attributes := #[] }
def k2m45 : Method := { name := "findPivot", desc := "(II)I", sig := { parameters := [.int, .int], returnType := some .int }, accessFlags := 2, code := some k2c45 }
def k2c46 : Code := { maxStack := 4, maxLocals := 6, code := prog_1_method_51_code, exceptionTable := #[], attributes := #[] }
def k2m46 : Method := { name := "swapRows", desc := "(II)V", sig := { parameters := [.int, .int], returnType := none }, accessFlags := 2, code := some k2c46 }
def k2c47 : Code := { maxStack := 4, maxLocals := 7, code := prog_1_method_52_code, exceptionTable := #[], attributes := #[] }
def k2m47 : Method := { name := "scaleRow", desc := "(III)V", sig := { parameters := [.int, .int, .int], returnType := none }, accessFlags := 2, code := some k2c47 }
def k2c48 : Code := { maxStack := 5, maxLocals := 5, code := prog_1_method_53_code, exceptionTable := #[], attributes := #[] }
def k2m48 : Method := { name := "clearColumn", desc := "(II)V", sig := { parameters := [.int, .int], returnType := none }, accessFlags := 2, code := some k2c48 }
def k2c49 : Code := { maxStack := 4, maxLocals := 9, code := prog_1_method_54_code, exceptionTable := #[], attributes := #[] }
def k2m49 : Method := { name := "subtractRow", desc := "(IIII)V", sig := { parameters := [.int, .int, .int, .int], returnType := none }, accessFlags := 2, code := some k2c49 }
def k2c50 : Code := { maxStack := 4, maxLocals := 4, code := prog_1_method_55_code, exceptionTable := #[], attributes := #[] }
def k2m50 : Method := { name := "readSolution", desc := "(I)V", sig := { parameters := [.int], returnType := none }, accessFlags := 2, code := some k2c50 }
def k2c51 : Code := { maxStack := 3, maxLocals := 4, code := prog_1_method_56_code, exceptionTable := #[], attributes := #[] }
def k2m51 : Method := { name := "invertByElimination", desc := "(II)Z", sig := { parameters := [.int, .int], returnType := some .boolean }, accessFlags := 2, code := some k2c51 }
def k2c52 : Code := { maxStack := 3, maxLocals := 1, code := prog_1_method_57_code, exceptionTable := #[], attributes := #[] }
def k2m52 : Method := { name := "invertModThree", desc := "()Z", sig := { parameters := [], returnType := some .boolean }, accessFlags := 2, code := some k2c52 }
def k2c53 : Code := { maxStack := 3, maxLocals := 3, code := prog_1_method_58_code, exceptionTable := #[], attributes := #[] }
def k2m53 : Method := { name := "invertModQ", desc := "()Z", sig := { parameters := [], returnType := some .boolean }, accessFlags := 2, code := some k2c53 }
def k2c54 : Code := { maxStack := 3, maxLocals := 1, code := prog_1_method_59_code, exceptionTable := #[], attributes := #[] }
def k2m54 : Method := { name := "newtonStep", desc := "()V", sig := { parameters := [], returnType := none }, accessFlags := 2, code := some k2c54 }
def k2c55 : Code := { maxStack := 4, maxLocals := 5, code := prog_1_method_60_code, exceptionTable := #[], attributes := #[] }
def k2m55 : Method := { name := "computeCorrection", desc := "()V", sig := { parameters := [], returnType := none }, accessFlags := 2, code := some k2c55 }
def k2c56 : Code := { maxStack := 4, maxLocals := 4, code := prog_1_method_61_code, exceptionTable := #[], attributes := #[] }
def k2m56 : Method := { name := "applyCorrection", desc := "()V", sig := { parameters := [], returnType := none }, accessFlags := 2, code := some k2c56 }
def k2c57 : Code := { maxStack := 4, maxLocals := 7, code := prog_1_method_62_code, exceptionTable := #[], attributes := #[] }
def k2m57 : Method := { name := "isInverseOfDraft", desc := "(II)Z", sig := { parameters := [.int, .int], returnType := some .boolean }, accessFlags := 2, code := some k2c57 }
def k2c58 : Code := { maxStack := 3, maxLocals := 1, code := prog_1_method_63_code, exceptionTable := #[], attributes := #[] }
def k2m58 : Method := { name := "installKey", desc := "()V", sig := { parameters := [], returnType := none }, accessFlags := 2, code := some k2c58 }
def k2c59 : Code := { maxStack := 4, maxLocals := 4, code := prog_1_method_64_code, exceptionTable := #[], attributes := #[] }
def k2m59 : Method := { name := "computePublicKey", desc := "()V", sig := { parameters := [], returnType := none }, accessFlags := 2, code := some k2c59 }
def k2c60 : Code := { maxStack := 4, maxLocals := 3, code := prog_1_method_65_code, exceptionTable := #[], attributes := #[] }
def k2m60 : Method := { name := "writeCiphertext", desc := "()V", sig := { parameters := [], returnType := none }, accessFlags := 2, code := some k2c60 }
def k2c61 : Code := { maxStack := 4, maxLocals := 5, code := prog_1_method_66_code, exceptionTable := #[], attributes := #[] }
def k2m61 : Method := { name := "cipherCoeff", desc := "(I)I", sig := { parameters := [.int], returnType := some .int }, accessFlags := 2, code := some k2c61 }
def k2c62 : Code := { maxStack := 4, maxLocals := 5, code := prog_1_method_67_code, exceptionTable := #[], attributes := #[] }
def k2m62 : Method := { name := "writeCentred", desc := "()V", sig := { parameters := [], returnType := none }, accessFlags := 2, code := some k2c62 }
def k2c63 : Code := { maxStack := 4, maxLocals := 5, code := prog_1_method_68_code, exceptionTable := #[], attributes := #[] }
def k2m63 : Method := { name := "writeMessage", desc := "()V", sig := { parameters := [], returnType := none }, accessFlags := 2, code := some k2c63 }
/-- NtruToy -/
def k2 : Class := { plain "NtruToy" (some 0) with
  accessFlags := 49
  interfaces := #[]
  cf := some (fileOf pool2 8 #[] #[{ accessFlags := 1, nameIndex := 5, descriptorIndex := 205, attributes := #[] }, { accessFlags := 1, nameIndex := 302, descriptorIndex := 303, attributes := #[] }, { accessFlags := 1, nameIndex := 305, descriptorIndex := 306, attributes := #[] }, { accessFlags := 1, nameIndex := 307, descriptorIndex := 98, attributes := #[] }, { accessFlags := 1, nameIndex := 308, descriptorIndex := 299, attributes := #[] }, { accessFlags := 1, nameIndex := 309, descriptorIndex := 131, attributes := #[] }, { accessFlags := 1, nameIndex := 310, descriptorIndex := 299, attributes := #[] }, { accessFlags := 1, nameIndex := 311, descriptorIndex := 299, attributes := #[] }, { accessFlags := 1, nameIndex := 312, descriptorIndex := 299, attributes := #[] }, { accessFlags := 1, nameIndex := 313, descriptorIndex := 156, attributes := #[] }, { accessFlags := 2, nameIndex := 73, descriptorIndex := 74, attributes := #[] }, { accessFlags := 2, nameIndex := 80, descriptorIndex := 81, attributes := #[] }, { accessFlags := 2, nameIndex := 159, descriptorIndex := 156, attributes := #[] }, { accessFlags := 2, nameIndex := 211, descriptorIndex := 156, attributes := #[] }, { accessFlags := 2, nameIndex := 198, descriptorIndex := 81, attributes := #[] }, { accessFlags := 2, nameIndex := 180, descriptorIndex := 81, attributes := #[] }, { accessFlags := 2, nameIndex := 260, descriptorIndex := 81, attributes := #[] }, { accessFlags := 2, nameIndex := 263, descriptorIndex := 81, attributes := #[] }, { accessFlags := 2, nameIndex := 152, descriptorIndex := 98, attributes := #[] }, { accessFlags := 2, nameIndex := 97, descriptorIndex := 98, attributes := #[] }, { accessFlags := 2, nameIndex := 112, descriptorIndex := 98, attributes := #[] }, { accessFlags := 2, nameIndex := 101, descriptorIndex := 98, attributes := #[] }, { accessFlags := 2, nameIndex := 165, descriptorIndex := 98, attributes := #[] }, { accessFlags := 2, nameIndex := 162, descriptorIndex := 98, attributes := #[] }, { accessFlags := 2, nameIndex := 104, descriptorIndex := 105, attributes := #[] }, { accessFlags := 2, nameIndex := 155, descriptorIndex := 156, attributes := #[] }, { accessFlags := 2, nameIndex := 171, descriptorIndex := 156, attributes := #[] }, { accessFlags := 2, nameIndex := 168, descriptorIndex := 156, attributes := #[] }, { accessFlags := 2, nameIndex := 108, descriptorIndex := 109, attributes := #[] }, { accessFlags := 2, nameIndex := 177, descriptorIndex := 109, attributes := #[] }, { accessFlags := 2, nameIndex := 174, descriptorIndex := 109, attributes := #[] }, { accessFlags := 2, nameIndex := 126, descriptorIndex := 127, attributes := #[] }, { accessFlags := 2, nameIndex := 248, descriptorIndex := 205, attributes := #[] }, { accessFlags := 2, nameIndex := 140, descriptorIndex := 81, attributes := #[] }, { accessFlags := 2, nameIndex := 251, descriptorIndex := 74, attributes := #[] }, { accessFlags := 2, nameIndex := 115, descriptorIndex := 116, attributes := #[] }, { accessFlags := 2, nameIndex := 185, descriptorIndex := 186, attributes := #[] }, { accessFlags := 2, nameIndex := 119, descriptorIndex := 116, attributes := #[] }, { accessFlags := 2, nameIndex := 189, descriptorIndex := 81, attributes := #[] }, { accessFlags := 2, nameIndex := 122, descriptorIndex := 123, attributes := #[] }, { accessFlags := 2, nameIndex := 208, descriptorIndex := 156, attributes := #[] }, { accessFlags := 2, nameIndex := 195, descriptorIndex := 109, attributes := #[] }, { accessFlags := 2, nameIndex := 192, descriptorIndex := 6, attributes := #[] }, { accessFlags := 2, nameIndex := 224, descriptorIndex := 127, attributes := #[] }, { accessFlags := 2, nameIndex := 227, descriptorIndex := 98, attributes := #[] }, { accessFlags := 2, nameIndex := 201, descriptorIndex := 156, attributes := #[] }, { accessFlags := 2, nameIndex := 204, descriptorIndex := 205, attributes := #[] }, { accessFlags := 2, nameIndex := 214, descriptorIndex := 109, attributes := #[] }, { accessFlags := 2, nameIndex := 217, descriptorIndex := 205, attributes := #[] }, { accessFlags := 2, nameIndex := 220, descriptorIndex := 221, attributes := #[] }, { accessFlags := 2, nameIndex := 230, descriptorIndex := 127, attributes := #[] }, { accessFlags := 2, nameIndex := 236, descriptorIndex := 105, attributes := #[] }, { accessFlags := 2, nameIndex := 130, descriptorIndex := 131, attributes := #[] }, { accessFlags := 2, nameIndex := 134, descriptorIndex := 131, attributes := #[] }, { accessFlags := 2, nameIndex := 239, descriptorIndex := 6, attributes := #[] }, { accessFlags := 2, nameIndex := 242, descriptorIndex := 6, attributes := #[] }, { accessFlags := 2, nameIndex := 245, descriptorIndex := 6, attributes := #[] }, { accessFlags := 2, nameIndex := 233, descriptorIndex := 105, attributes := #[] }, { accessFlags := 2, nameIndex := 137, descriptorIndex := 6, attributes := #[] }, { accessFlags := 2, nameIndex := 254, descriptorIndex := 6, attributes := #[] }, { accessFlags := 2, nameIndex := 143, descriptorIndex := 6, attributes := #[] }, { accessFlags := 2, nameIndex := 257, descriptorIndex := 81, attributes := #[] }, { accessFlags := 2, nameIndex := 146, descriptorIndex := 6, attributes := #[] }, { accessFlags := 2, nameIndex := 149, descriptorIndex := 6, attributes := #[] }] 49 2 #[] #[{ accessFlags := 25, nameIndex := 264, descriptorIndex := 61, attributes := #[] }, { accessFlags := 25, nameIndex := 267, descriptorIndex := 61, attributes := #[] }, { accessFlags := 25, nameIndex := 269, descriptorIndex := 61, attributes := #[] }, { accessFlags := 25, nameIndex := 271, descriptorIndex := 61, attributes := #[] }, { accessFlags := 25, nameIndex := 273, descriptorIndex := 61, attributes := #[] }, { accessFlags := 25, nameIndex := 275, descriptorIndex := 61, attributes := #[] }, { accessFlags := 25, nameIndex := 277, descriptorIndex := 61, attributes := #[] }, { accessFlags := 25, nameIndex := 279, descriptorIndex := 61, attributes := #[] }, { accessFlags := 25, nameIndex := 281, descriptorIndex := 61, attributes := #[] }, { accessFlags := 25, nameIndex := 283, descriptorIndex := 61, attributes := #[] }, { accessFlags := 25, nameIndex := 285, descriptorIndex := 61, attributes := #[] }, { accessFlags := 25, nameIndex := 287, descriptorIndex := 61, attributes := #[] }, { accessFlags := 25, nameIndex := 288, descriptorIndex := 61, attributes := #[] }, { accessFlags := 25, nameIndex := 289, descriptorIndex := 61, attributes := #[] }, { accessFlags := 25, nameIndex := 290, descriptorIndex := 61, attributes := #[] }, { accessFlags := 25, nameIndex := 291, descriptorIndex := 61, attributes := #[] }, { accessFlags := 25, nameIndex := 292, descriptorIndex := 61, attributes := #[] }, { accessFlags := 25, nameIndex := 293, descriptorIndex := 61, attributes := #[] }, { accessFlags := 25, nameIndex := 294, descriptorIndex := 61, attributes := #[] }, { accessFlags := 25, nameIndex := 295, descriptorIndex := 61, attributes := #[] }, { accessFlags := 2, nameIndex := 77, descriptorIndex := 61, attributes := #[] }, { accessFlags := 2, nameIndex := 84, descriptorIndex := 61, attributes := #[] }, { accessFlags := 2, nameIndex := 87, descriptorIndex := 61, attributes := #[] }, { accessFlags := 2, nameIndex := 90, descriptorIndex := 91, attributes := #[] }, { accessFlags := 2, nameIndex := 94, descriptorIndex := 61, attributes := #[] }, { accessFlags := 2, nameIndex := 11, descriptorIndex := 12, attributes := #[] }, { accessFlags := 2, nameIndex := 15, descriptorIndex := 12, attributes := #[] }, { accessFlags := 2, nameIndex := 18, descriptorIndex := 12, attributes := #[] }, { accessFlags := 2, nameIndex := 21, descriptorIndex := 12, attributes := #[] }, { accessFlags := 2, nameIndex := 24, descriptorIndex := 12, attributes := #[] }, { accessFlags := 2, nameIndex := 27, descriptorIndex := 12, attributes := #[] }, { accessFlags := 2, nameIndex := 30, descriptorIndex := 12, attributes := #[] }, { accessFlags := 2, nameIndex := 33, descriptorIndex := 12, attributes := #[] }, { accessFlags := 2, nameIndex := 36, descriptorIndex := 12, attributes := #[] }, { accessFlags := 2, nameIndex := 39, descriptorIndex := 12, attributes := #[] }, { accessFlags := 2, nameIndex := 42, descriptorIndex := 12, attributes := #[] }, { accessFlags := 2, nameIndex := 45, descriptorIndex := 12, attributes := #[] }, { accessFlags := 2, nameIndex := 48, descriptorIndex := 12, attributes := #[] }, { accessFlags := 2, nameIndex := 51, descriptorIndex := 12, attributes := #[] }, { accessFlags := 2, nameIndex := 54, descriptorIndex := 12, attributes := #[] }, { accessFlags := 2, nameIndex := 57, descriptorIndex := 12, attributes := #[] }, { accessFlags := 2, nameIndex := 60, descriptorIndex := 61, attributes := #[] }, { accessFlags := 2, nameIndex := 64, descriptorIndex := 61, attributes := #[] }, { accessFlags := 2, nameIndex := 67, descriptorIndex := 61, attributes := #[] }, { accessFlags := 2, nameIndex := 70, descriptorIndex := 61, attributes := #[] }])
  fields := #[{ name := "POLY_F", type := .int, accessFlags := 25, slot := 0, constantValue := 0 }, { name := "POLY_G", type := .int, accessFlags := 25, slot := 1, constantValue := 0 }, { name := "POLY_M", type := .int, accessFlags := 25, slot := 2, constantValue := 0 }, { name := "POLY_R", type := .int, accessFlags := 25, slot := 3, constantValue := 0 }, { name := "POLY_C", type := .int, accessFlags := 25, slot := 4, constantValue := 0 }, { name := "POLY_KF", type := .int, accessFlags := 25, slot := 5, constantValue := 0 }, { name := "POLY_FP", type := .int, accessFlags := 25, slot := 6, constantValue := 0 }, { name := "POLY_FQ", type := .int, accessFlags := 25, slot := 7, constantValue := 0 }, { name := "POLY_H", type := .int, accessFlags := 25, slot := 8, constantValue := 0 }, { name := "POLY_A", type := .int, accessFlags := 25, slot := 9, constantValue := 0 }, { name := "POLY_D", type := .int, accessFlags := 25, slot := 10, constantValue := 0 }, { name := "KEY_OK", type := .int, accessFlags := 25, slot := 11, constantValue := 0 }, { name := "KEY_NO_INVERSE_P", type := .int, accessFlags := 25, slot := 12, constantValue := 0 }, { name := "KEY_NO_INVERSE_Q", type := .int, accessFlags := 25, slot := 13, constantValue := 0 }, { name := "ENC_OK", type := .int, accessFlags := 25, slot := 14, constantValue := 0 }, { name := "ENC_NO_KEY", type := .int, accessFlags := 25, slot := 15, constantValue := 0 }, { name := "ENC_M_TOO_HEAVY", type := .int, accessFlags := 25, slot := 16, constantValue := 0 }, { name := "ENC_R_TOO_HEAVY", type := .int, accessFlags := 25, slot := 17, constantValue := 0 }, { name := "DEC_OK", type := .int, accessFlags := 25, slot := 18, constantValue := 0 }, { name := "DEC_NO_KEY", type := .int, accessFlags := 25, slot := 19, constantValue := 0 }, { name := "n", type := .int, accessFlags := 2, slot := 0, constantValue := 0 }, { name := "q", type := .int, accessFlags := 2, slot := 1, constantValue := 0 }, { name := "bound", type := .int, accessFlags := 2, slot := 2, constantValue := 0 }, { name := "keyed", type := .boolean, accessFlags := 2, slot := 3, constantValue := 0 }, { name := "keys", type := .int, accessFlags := 2, slot := 4, constantValue := 0 }, { name := "f", type := (.array .int), accessFlags := 2, slot := 5, constantValue := 0 }, { name := "g", type := (.array .int), accessFlags := 2, slot := 6, constantValue := 0 }, { name := "m", type := (.array .int), accessFlags := 2, slot := 7, constantValue := 0 }, { name := "r", type := (.array .int), accessFlags := 2, slot := 8, constantValue := 0 }, { name := "c", type := (.array .int), accessFlags := 2, slot := 9, constantValue := 0 }, { name := "kf", type := (.array .int), accessFlags := 2, slot := 10, constantValue := 0 }, { name := "fp", type := (.array .int), accessFlags := 2, slot := 11, constantValue := 0 }, { name := "fq", type := (.array .int), accessFlags := 2, slot := 12, constantValue := 0 }, { name := "h", type := (.array .int), accessFlags := 2, slot := 13, constantValue := 0 }, { name := "a", type := (.array .int), accessFlags := 2, slot := 14, constantValue := 0 }, { name := "d", type := (.array .int), accessFlags := 2, slot := 15, constantValue := 0 }, { name := "mat", type := (.array .int), accessFlags := 2, slot := 16, constantValue := 0 }, { name := "invP", type := (.array .int), accessFlags := 2, slot := 17, constantValue := 0 }, { name := "invQ", type := (.array .int), accessFlags := 2, slot := 18, constantValue := 0 }, { name := "lift", type := (.array .int), accessFlags := 2, slot := 19, constantValue := 0 }, { name := "lift2", type := (.array .int), accessFlags := 2, slot := 20, constantValue := 0 }, { name := "selInvP", type := .int, accessFlags := 2, slot := 21, constantValue := 0 }, { name := "selInvQ", type := .int, accessFlags := 2, slot := 22, constantValue := 0 }, { name := "selLift", type := .int, accessFlags := 2, slot := 23, constantValue := 0 }, { name := "selLift2", type := .int, accessFlags := 2, slot := 24, constantValue := 0 }]
  methods := #[k2m0, k2m1, k2m2, k2m3, k2m4, k2m5, k2m6, k2m7, k2m8, k2m9, k2m10, k2m11, k2m12, k2m13, k2m14, k2m15, k2m16, k2m17, k2m18, k2m19, k2m20, k2m21, k2m22, k2m23, k2m24, k2m25, k2m26, k2m27, k2m28, k2m29, k2m30, k2m31, k2m32, k2m33, k2m34, k2m35, k2m36, k2m37, k2m38, k2m39, k2m40, k2m41, k2m42, k2m43, k2m44, k2m45, k2m46, k2m47, k2m48, k2m49, k2m50, k2m51, k2m52, k2m53, k2m54, k2m55, k2m56, k2m57, k2m58, k2m59, k2m60, k2m61, k2m62, k2m63]
  instanceTypes := #[.int, .int, .int, .boolean, .int, (.array .int), (.array .int), (.array .int), (.array .int), (.array .int), (.array .int), (.array .int), (.array .int), (.array .int), (.array .int), (.array .int), (.array .int), (.array .int), (.array .int), (.array .int), (.array .int), .int, .int, .int, .int]
  staticTypes := #[.int, .int, .int, .int, .int, .int, .int, .int, .int, .int, .int, .int, .int, .int, .int, .int, .int, .int, .int, .int]
  resolved := Array.replicate 317 none
  statics := none }

def pool3 : Array CpInfo := pool [(1, u "java/lang/Cloneable"), (0, .class_ 1), (0, u "java/lang/Object"), (0, .class_ 3)] 3

/-- java/lang/Cloneable -/
def k3 : Class := { plain "java/lang/Cloneable" (some 0) with
  accessFlags := 1537
  interfaces := #[]
  cf := some (fileOf pool3 2 #[] #[] 1537 4 #[] #[])
  fields := #[]
  methods := #[]
  instanceTypes := #[]
  staticTypes := #[]
  resolved := Array.replicate 8 none
  statics := none }

def pool4 : Array CpInfo := pool [(1, u "java/io/Serializable"), (0, .class_ 1), (0, u "java/lang/Object"), (0, .class_ 3)] 3

/-- java/io/Serializable -/
def k4 : Class := { plain "java/io/Serializable" (some 0) with
  accessFlags := 1537
  interfaces := #[]
  cf := some (fileOf pool4 2 #[] #[] 1537 4 #[] #[])
  fields := #[]
  methods := #[]
  instanceTypes := #[]
  staticTypes := #[]
  resolved := Array.replicate 8 none
  statics := none }

/-- the primitive byte -/
def k5 : Class := { plain "byte" none with kind := .primitive 'B', accessFlags := 0x411 }
/-- [B -/
def k6 : Class := { plain "[B" (some 0) with kind := .array 5 .byte, interfaces := #[3, 4], accessFlags := 1041 }

/-- the primitive int -/
def k7 : Class := { plain "int" none with kind := .primitive 'I', accessFlags := 0x411 }
/-- [I -/
def k8 : Class := { plain "[I" (some 0) with kind := .array 7 .int, interfaces := #[3, 4], accessFlags := 1041 }

def heap : Heap := #[{ cls := 8, slots := #[.int 0, .int 3, .int 5], vm := .none }]
def classes : Array Class := #[k0, k1, k2, k3, k4, k5, k6, k7, k8]
def interned : List (Array UInt16 × Addr) := []
def slotsUsed : Nat := 3
def theMethod : MethodId := ⟨1, 1⟩
def args0 : Array Value := #[.ref 0]
def aboutOver (below : List Frame) : State where
  vm := { classes := classes, interned := interned.toArray }
  heap := heap
  slotsUsed := slotsUsed
  threads := #[{ frames := .invoking theMethod args0 :: below }]
def below0 : List Frame := [.native { method := ⟨0, 0⟩, args := #[] }]
def about1 : State := aboutOver below0
def p0 : Program := .bare "" "" ""
def e0 : Env := launch0.env 0 0 0
theorem w_frames : about1.frames = Frame.invoking theMethod args0 :: below0 := rfl
set_option maxRecDepth 65536 in
theorem w_args : argsFit about1.vm theMethod args0 = true := by decide +kernel
set_option maxRecDepth 65536 in
theorem w_heap : heapFits about1 = true := by decide +kernel
set_option maxRecDepth 65536 in
theorem w_runnable : about1.curStatus? = some .runnable := by decide +kernel
set_option maxRecDepth 65536 in
theorem w_alone : about1.alone = true := by decide +kernel
set_option maxRecDepth 65536 in
theorem w_named : about1.methodNamed? x = some theMethod := by decide +kernel
set_option maxRecDepth 65536 in
theorem w_hears : about1.hears theMethod below0 = true := by decide +kernel
set_option maxRecDepth 65536 in
theorem w_ripe : about1.ripe theMethod args0 below0 = true := by decide +kernel
theorem w_running : about1.status = .running := rfl
set_option maxRecDepth 65536 in
theorem w_room : about1.hasRoom e0.platform room_1 = true :=
  launch0.hasRoom_least _ room_1 (by decide +kernel) (by decide +kernel) (by decide +kernel) (by decide +kernel) (by decide +kernel) (by decide +kernel)
theorem allAtoms_all (ts : List Jvm.Cond) (a : Array Jvm.Value) (st : Jvm.State) : (allAtoms ts).before a st = ts.all (fun c => c.before a st) := by
  induction ts with
  | nil => rfl
  | cons c t ih =>
    show (Jvm.Cond.and c (allAtoms t)).before a st = _
    rw [Jvm.Cond.before_and, ih, List.all_cons]
def words1 : List Jvm.Cond := Jvm.Cond.code x code maxLocals ret :: tables_1
/-- a 'code' word, met by the world's own term for the bytes: nothing is compared byte by byte -/
theorem code_word {y : MethodName} {bytes : ByteArray} {mx : Nat} {rt : Option FieldType} {a : Array Value} {s : State} {m : MethodId} {meth : Method} {c : Code} (h1 : s.methodNamed? y = some m) (h2 : s.vm.method? m = some meth) (h3 : meth.code = some c) (h4 : c.code = bytes)
    (h5 : (c.maxLocals == mx && c.exceptionTable.isEmpty && decide (c.maxStack ≤ mostOperands) && decide (meth.sig.returnType = rt) && !meth.locks && decide (parseMethodDescriptor y.desc = some meth.sig)) = true) : (Jvm.Cond.code y bytes mx rt).before a s = true := by
  simp only [Bool.and_eq_true, beq_iff_eq, Bool.not_eq_true', decide_eq_true_eq] at h5
  obtain ⟨⟨⟨⟨⟨g1, g2⟩, g3⟩, g4⟩, g5⟩, g6⟩ := h5
  simp [Cond.before, Cond.holds, Cond.value, h1, h2, h3, h4, g1, g2, g3, g4, g5, g6]
def isCode : Jvm.Cond → Bool
  | .code _ _ _ _ => true
  | _ => false
theorem all_split {L : List Jvm.Cond} {P : Jvm.Cond → Bool} (h1 : L.all (fun c => isCode c || P c) = true) (h2 : ∀ c ∈ L.filter isCode, P c = true) : L.all P = true := by
  refine List.all_eq_true.mpr fun c hc => ?_
  have h := List.all_eq_true.mp h1 c hc
  rcases Bool.eq_false_or_eq_true (isCode c) with hi | hi
  · exact h2 c (List.mem_filter.mpr ⟨hc, hi⟩)
  · simpa [hi] using h
set_option maxRecDepth 65536 in
theorem w_c0 : (Jvm.Cond.code x code maxLocals ret).before args0 about1 = true := code_word (m := ⟨1, 1⟩) (meth := k1m1) (c := k1c1) (by decide +kernel) rfl rfl rfl (by decide +kernel)
set_option maxRecDepth 65536 in
theorem w_c1 : (Jvm.Cond.code ({ cls := "NtruToy", name := "<init>", desc := "(II)V" } : Jvm.MethodName) prog_1_method_1_code (5 : Nat) (Option.none : Option Jvm.ClassFile.FieldType)).before args0 about1 = true := code_word (m := ⟨2, 0⟩) (meth := k2m0) (c := k2c0) (by decide +kernel) rfl rfl rfl (by decide +kernel)
set_option maxRecDepth 65536 in
theorem w_c2 : (Jvm.Cond.code ({ cls := "java/lang/Object", name := "<init>", desc := "()V" } : Jvm.MethodName) object_method_1_code (1 : Nat) (Option.none : Option Jvm.ClassFile.FieldType)).before args0 about1 = true := code_word (m := ⟨0, 0⟩) (meth := k0m0) (c := k0c0) (by decide +kernel) rfl rfl rfl (by decide +kernel)
set_option maxRecDepth 65536 in
theorem w_c3 : (Jvm.Cond.code ({ cls := "NtruToy", name := "clampInt", desc := "(III)I" } : Jvm.MethodName) prog_1_method_15_code (4 : Nat) (Option.some Jvm.ClassFile.FieldType.int)).before args0 about1 = true := code_word (m := ⟨2, 10⟩) (meth := k2m10) (c := k2c10) (by decide +kernel) rfl rfl rfl (by decide +kernel)
set_option maxRecDepth 65536 in
theorem w_c4 : (Jvm.Cond.code ({ cls := "NtruToy", name := "powerOfTwo", desc := "(I)I" } : Jvm.MethodName) prog_1_method_16_code (4 : Nat) (Option.some Jvm.ClassFile.FieldType.int)).before args0 about1 = true := code_word (m := ⟨2, 11⟩) (meth := k2m11) (c := k2c11) (by decide +kernel) rfl rfl rfl (by decide +kernel)
set_option maxRecDepth 65536 in
theorem w_c5 : (Jvm.Cond.code ({ cls := "NtruToy", name := "keygen", desc := "()I" } : Jvm.MethodName) prog_1_method_8_code (3 : Nat) (Option.some Jvm.ClassFile.FieldType.int)).before args0 about1 = true := code_word (m := ⟨2, 4⟩) (meth := k2m4) (c := k2c4) (by decide +kernel) rfl rfl rfl (by decide +kernel)
set_option maxRecDepth 65536 in
theorem w_c6 : (Jvm.Cond.code ({ cls := "NtruToy", name := "invertModThree", desc := "()Z" } : Jvm.MethodName) prog_1_method_57_code (1 : Nat) (Option.some Jvm.ClassFile.FieldType.boolean)).before args0 about1 = true := code_word (m := ⟨2, 52⟩) (meth := k2m52) (c := k2c52) (by decide +kernel) rfl rfl rfl (by decide +kernel)
set_option maxRecDepth 65536 in
theorem w_c7 : (Jvm.Cond.code ({ cls := "NtruToy", name := "invertByElimination", desc := "(II)Z" } : Jvm.MethodName) prog_1_method_56_code (4 : Nat) (Option.some Jvm.ClassFile.FieldType.boolean)).before args0 about1 = true := code_word (m := ⟨2, 51⟩) (meth := k2m51) (c := k2c51) (by decide +kernel) rfl rfl rfl (by decide +kernel)
set_option maxRecDepth 65536 in
theorem w_c8 : (Jvm.Cond.code ({ cls := "NtruToy", name := "buildSystem", desc := "(I)V" } : Jvm.MethodName) prog_1_method_48_code (7 : Nat) (Option.none : Option Jvm.ClassFile.FieldType)).before args0 about1 = true := code_word (m := ⟨2, 43⟩) (meth := k2m43) (c := k2c43) (by decide +kernel) rfl rfl rfl (by decide +kernel)
set_option maxRecDepth 65536 in
theorem w_c9 : (Jvm.Cond.code ({ cls := "NtruToy", name := "clearMatrix", desc := "()V" } : Jvm.MethodName) prog_1_method_47_code (2 : Nat) (Option.none : Option Jvm.ClassFile.FieldType)).before args0 about1 = true := code_word (m := ⟨2, 42⟩) (meth := k2m42) (c := k2c42) (by decide +kernel) rfl rfl rfl (by decide +kernel)
set_option maxRecDepth 65536 in
theorem w_c10 : (Jvm.Cond.code ({ cls := "NtruToy", name := "cyclicIndex", desc := "(I)I" } : Jvm.MethodName) prog_1_method_20_code (2 : Nat) (Option.some Jvm.ClassFile.FieldType.int)).before args0 about1 = true := code_word (m := ⟨2, 15⟩) (meth := k2m15) (c := k2c15) (by decide +kernel) rfl rfl rfl (by decide +kernel)
set_option maxRecDepth 65536 in
theorem w_c11 : (Jvm.Cond.code ({ cls := "NtruToy", name := "mod", desc := "(II)I" } : Jvm.MethodName) prog_1_method_17_code (4 : Nat) (Option.some Jvm.ClassFile.FieldType.int)).before args0 about1 = true := code_word (m := ⟨2, 12⟩) (meth := k2m12) (c := k2c12) (by decide +kernel) rfl rfl rfl (by decide +kernel)
set_option maxRecDepth 65536 in
theorem w_c12 : (Jvm.Cond.code ({ cls := "NtruToy", name := "load", desc := "(II)I" } : Jvm.MethodName) prog_1_method_30_code (3 : Nat) (Option.some Jvm.ClassFile.FieldType.int)).before args0 about1 = true := code_word (m := ⟨2, 25⟩) (meth := k2m25) (c := k2c25) (by decide +kernel) rfl rfl rfl (by decide +kernel)
set_option maxRecDepth 65536 in
theorem w_c13 : (Jvm.Cond.code ({ cls := "NtruToy", name := "loadHeld", desc := "(II)I" } : Jvm.MethodName) prog_1_method_31_code (3 : Nat) (Option.some Jvm.ClassFile.FieldType.int)).before args0 about1 = true := code_word (m := ⟨2, 26⟩) (meth := k2m26) (c := k2c26) (by decide +kernel) rfl rfl rfl (by decide +kernel)
set_option maxRecDepth 65536 in
theorem w_c14 : (Jvm.Cond.code ({ cls := "NtruToy", name := "matPut", desc := "(III)V" } : Jvm.MethodName) prog_1_method_46_code (4 : Nat) (Option.none : Option Jvm.ClassFile.FieldType)).before args0 about1 = true := code_word (m := ⟨2, 41⟩) (meth := k2m41) (c := k2c41) (by decide +kernel) rfl rfl rfl (by decide +kernel)
set_option maxRecDepth 65536 in
theorem w_c15 : (Jvm.Cond.code ({ cls := "NtruToy", name := "unitCoeff", desc := "(I)I" } : Jvm.MethodName) prog_1_method_19_code (2 : Nat) (Option.some Jvm.ClassFile.FieldType.int)).before args0 about1 = true := code_word (m := ⟨2, 14⟩) (meth := k2m14) (c := k2c14) (by decide +kernel) rfl rfl rfl (by decide +kernel)
set_option maxRecDepth 65536 in
theorem w_c16 : (Jvm.Cond.code ({ cls := "NtruToy", name := "eliminate", desc := "(I)Z" } : Jvm.MethodName) prog_1_method_49_code (6 : Nat) (Option.some Jvm.ClassFile.FieldType.boolean)).before args0 about1 = true := code_word (m := ⟨2, 44⟩) (meth := k2m44) (c := k2c44) (by decide +kernel) rfl rfl rfl (by decide +kernel)
set_option maxRecDepth 65536 in
theorem w_c17 : (Jvm.Cond.code ({ cls := "NtruToy", name := "findPivot", desc := "(II)I" } : Jvm.MethodName) prog_1_method_50_code (5 : Nat) (Option.some Jvm.ClassFile.FieldType.int)).before args0 about1 = true := code_word (m := ⟨2, 45⟩) (meth := k2m45) (c := k2c45) (by decide +kernel) rfl rfl rfl (by decide +kernel)
set_option maxRecDepth 65536 in
theorem w_c18 : (Jvm.Cond.code ({ cls := "NtruToy", name := "matAt", desc := "(II)I" } : Jvm.MethodName) prog_1_method_45_code (3 : Nat) (Option.some Jvm.ClassFile.FieldType.int)).before args0 about1 = true := code_word (m := ⟨2, 40⟩) (meth := k2m40) (c := k2c40) (by decide +kernel) rfl rfl rfl (by decide +kernel)
set_option maxRecDepth 65536 in
theorem w_c19 : (Jvm.Cond.code ({ cls := "NtruToy", name := "inverseMod", desc := "(II)I" } : Jvm.MethodName) prog_1_method_18_code (6 : Nat) (Option.some Jvm.ClassFile.FieldType.int)).before args0 about1 = true := code_word (m := ⟨2, 13⟩) (meth := k2m13) (c := k2c13) (by decide +kernel) rfl rfl rfl (by decide +kernel)
set_option maxRecDepth 65536 in
theorem w_c20 : (Jvm.Cond.code ({ cls := "NtruToyL5", name := "same", desc := "(LNtruToy;LNtruToy;)Z" } : Jvm.MethodName) method_3_code (4 : Nat) (Option.some Jvm.ClassFile.FieldType.boolean)).before args0 about1 = true := code_word (m := ⟨1, 2⟩) (meth := k1m2) (c := k1c2) (by decide +kernel) rfl rfl rfl (by decide +kernel)
set_option maxRecDepth 65536 in
theorem w_c21 : (Jvm.Cond.code ({ cls := "NtruToy", name := "hasKey", desc := "()Z" } : Jvm.MethodName) prog_1_method_9_code (1 : Nat) (Option.some Jvm.ClassFile.FieldType.boolean)).before args0 about1 = true := code_word (m := ⟨2, 5⟩) (meth := k2m5) (c := k2c5) (by decide +kernel) rfl rfl rfl (by decide +kernel)
set_option maxRecDepth 65536 in
theorem w_c22 : (Jvm.Cond.code ({ cls := "NtruToy", name := "keyCount", desc := "()I" } : Jvm.MethodName) prog_1_method_10_code (1 : Nat) (Option.some Jvm.ClassFile.FieldType.int)).before args0 about1 = true := code_word (m := ⟨2, 6⟩) (meth := k2m6) (c := k2c6) (by decide +kernel) rfl rfl rfl (by decide +kernel)
set_option maxRecDepth 65536 in
theorem w_c23 : (Jvm.Cond.code ({ cls := "NtruToy", name := "coeff", desc := "(II)I" } : Jvm.MethodName) prog_1_method_13_code (3 : Nat) (Option.some Jvm.ClassFile.FieldType.int)).before args0 about1 = true := code_word (m := ⟨2, 9⟩) (meth := k2m9) (c := k2c9) (by decide +kernel) rfl rfl rfl (by decide +kernel)
set_option maxRecDepth 65536 in
theorem w_c24 : (Jvm.Cond.code ({ cls := "NtruToy", name := "isSelector", desc := "(I)Z" } : Jvm.MethodName) prog_1_method_23_code (2 : Nat) (Option.some Jvm.ClassFile.FieldType.boolean)).before args0 about1 = true := code_word (m := ⟨2, 18⟩) (meth := k2m18) (c := k2c18) (by decide +kernel) rfl rfl rfl (by decide +kernel)
set_option maxRecDepth 65536 in
theorem w_c25 : (Jvm.Cond.code ({ cls := "NtruToy", name := "isIndex", desc := "(I)Z" } : Jvm.MethodName) prog_1_method_26_code (2 : Nat) (Option.some Jvm.ClassFile.FieldType.boolean)).before args0 about1 = true := code_word (m := ⟨2, 21⟩) (meth := k2m21) (c := k2c21) (by decide +kernel) rfl rfl rfl (by decide +kernel)
set_option maxRecDepth 65536 in
theorem w_c26 : (Jvm.Cond.code ({ cls := "NtruToy", name := "setPacked", desc := "(IJ)Z" } : Jvm.MethodName) prog_1_method_6_code (4 : Nat) (Option.some Jvm.ClassFile.FieldType.boolean)).before args0 about1 = true := code_word (m := ⟨2, 2⟩) (meth := k2m2) (c := k2c2) (by decide +kernel) rfl rfl rfl (by decide +kernel)
set_option maxRecDepth 65536 in
theorem w_c27 : (Jvm.Cond.code ({ cls := "NtruToy", name := "isDraft", desc := "(I)Z" } : Jvm.MethodName) prog_1_method_25_code (2 : Nat) (Option.some Jvm.ClassFile.FieldType.boolean)).before args0 about1 = true := code_word (m := ⟨2, 20⟩) (meth := k2m20) (c := k2c20) (by decide +kernel) rfl rfl rfl (by decide +kernel)
set_option maxRecDepth 65536 in
theorem w_c28 : (Jvm.Cond.code ({ cls := "NtruToy", name := "highBitsClear", desc := "(J)Z" } : Jvm.MethodName) prog_1_method_40_code (4 : Nat) (Option.some Jvm.ClassFile.FieldType.boolean)).before args0 about1 = true := code_word (m := ⟨2, 35⟩) (meth := k2m35) (c := k2c35) (by decide +kernel) rfl rfl rfl (by decide +kernel)
set_option maxRecDepth 65536 in
theorem w_c29 : (Jvm.Cond.code ({ cls := "NtruToy", name := "fieldsValid", desc := "(J)Z" } : Jvm.MethodName) prog_1_method_42_code (4 : Nat) (Option.some Jvm.ClassFile.FieldType.boolean)).before args0 about1 = true := code_word (m := ⟨2, 37⟩) (meth := k2m37) (c := k2c37) (by decide +kernel) rfl rfl rfl (by decide +kernel)
set_option maxRecDepth 65536 in
theorem w_c30 : (Jvm.Cond.code ({ cls := "NtruToy", name := "fieldOf", desc := "(JI)I" } : Jvm.MethodName) prog_1_method_41_code (7 : Nat) (Option.some Jvm.ClassFile.FieldType.int)).before args0 about1 = true := code_word (m := ⟨2, 36⟩) (meth := k2m36) (c := k2c36) (by decide +kernel) rfl rfl rfl (by decide +kernel)
set_option maxRecDepth 65536 in
theorem w_c31 : (Jvm.Cond.code ({ cls := "NtruToy", name := "unpackInto", desc := "(IJ)V" } : Jvm.MethodName) prog_1_method_44_code (7 : Nat) (Option.none : Option Jvm.ClassFile.FieldType)).before args0 about1 = true := code_word (m := ⟨2, 39⟩) (meth := k2m39) (c := k2c39) (by decide +kernel) rfl rfl rfl (by decide +kernel)
set_option maxRecDepth 65536 in
theorem w_c32 : (Jvm.Cond.code ({ cls := "NtruToy", name := "decodeField", desc := "(I)I" } : Jvm.MethodName) prog_1_method_43_code (2 : Nat) (Option.some Jvm.ClassFile.FieldType.int)).before args0 about1 = true := code_word (m := ⟨2, 38⟩) (meth := k2m38) (c := k2c38) (by decide +kernel) rfl rfl rfl (by decide +kernel)
set_option maxRecDepth 65536 in
theorem w_c33 : (Jvm.Cond.code ({ cls := "NtruToy", name := "store", desc := "(III)V" } : Jvm.MethodName) prog_1_method_33_code (4 : Nat) (Option.none : Option Jvm.ClassFile.FieldType)).before args0 about1 = true := code_word (m := ⟨2, 28⟩) (meth := k2m28) (c := k2c28) (by decide +kernel) rfl rfl rfl (by decide +kernel)
set_option maxRecDepth 65536 in
theorem w_c34 : (Jvm.Cond.code ({ cls := "NtruToy", name := "storeHeld", desc := "(III)V" } : Jvm.MethodName) prog_1_method_34_code (4 : Nat) (Option.none : Option Jvm.ClassFile.FieldType)).before args0 about1 = true := code_word (m := ⟨2, 29⟩) (meth := k2m29) (c := k2c29) (by decide +kernel) rfl rfl rfl (by decide +kernel)
set_option maxRecDepth 65536 in
theorem w_c35 : (Jvm.Cond.code ({ cls := "NtruToy", name := "setCoeff", desc := "(III)Z" } : Jvm.MethodName) prog_1_method_5_code (4 : Nat) (Option.some Jvm.ClassFile.FieldType.boolean)).before args0 about1 = true := code_word (m := ⟨2, 1⟩) (meth := k2m1) (c := k2c1) (by decide +kernel) rfl rfl rfl (by decide +kernel)
set_option maxRecDepth 65536 in
theorem w_c36 : (Jvm.Cond.code ({ cls := "NtruToy", name := "isWritable", desc := "(I)Z" } : Jvm.MethodName) prog_1_method_24_code (2 : Nat) (Option.some Jvm.ClassFile.FieldType.boolean)).before args0 about1 = true := code_word (m := ⟨2, 19⟩) (meth := k2m19) (c := k2c19) (by decide +kernel) rfl rfl rfl (by decide +kernel)
set_option maxRecDepth 65536 in
theorem w_c37 : (Jvm.Cond.code ({ cls := "NtruToy", name := "acceptsValue", desc := "(II)Z" } : Jvm.MethodName) prog_1_method_29_code (3 : Nat) (Option.some Jvm.ClassFile.FieldType.boolean)).before args0 about1 = true := code_word (m := ⟨2, 24⟩) (meth := k2m24) (c := k2c24) (by decide +kernel) rfl rfl rfl (by decide +kernel)
set_option maxRecDepth 65536 in
theorem w_c38 : (Jvm.Cond.code ({ cls := "NtruToy", name := "isTernary", desc := "(I)Z" } : Jvm.MethodName) prog_1_method_27_code (2 : Nat) (Option.some Jvm.ClassFile.FieldType.boolean)).before args0 about1 = true := code_word (m := ⟨2, 22⟩) (meth := k2m22) (c := k2c22) (by decide +kernel) rfl rfl rfl (by decide +kernel)
set_option maxRecDepth 65536 in
theorem w_c39 : (Jvm.Cond.code ({ cls := "NtruToy", name := "clear", desc := "(I)Z" } : Jvm.MethodName) prog_1_method_7_code (2 : Nat) (Option.some Jvm.ClassFile.FieldType.boolean)).before args0 about1 = true := code_word (m := ⟨2, 3⟩) (meth := k2m3) (c := k2c3) (by decide +kernel) rfl rfl rfl (by decide +kernel)
set_option maxRecDepth 65536 in
theorem w_c40 : (Jvm.Cond.code ({ cls := "NtruToy", name := "zeroPoly", desc := "(I)V" } : Jvm.MethodName) prog_1_method_36_code (3 : Nat) (Option.none : Option Jvm.ClassFile.FieldType)).before args0 about1 = true := code_word (m := ⟨2, 31⟩) (meth := k2m31) (c := k2c31) (by decide +kernel) rfl rfl rfl (by decide +kernel)
set_option maxRecDepth 65536 in
theorem w_c41 : (Jvm.Cond.code ({ cls := "NtruToy", name := "swapRows", desc := "(II)V" } : Jvm.MethodName) prog_1_method_51_code (6 : Nat) (Option.none : Option Jvm.ClassFile.FieldType)).before args0 about1 = true := code_word (m := ⟨2, 46⟩) (meth := k2m46) (c := k2c46) (by decide +kernel) rfl rfl rfl (by decide +kernel)
set_option maxRecDepth 65536 in
theorem w_c42 : (Jvm.Cond.code ({ cls := "NtruToy", name := "scaleRow", desc := "(III)V" } : Jvm.MethodName) prog_1_method_52_code (7 : Nat) (Option.none : Option Jvm.ClassFile.FieldType)).before args0 about1 = true := code_word (m := ⟨2, 47⟩) (meth := k2m47) (c := k2c47) (by decide +kernel) rfl rfl rfl (by decide +kernel)
set_option maxRecDepth 65536 in
theorem w_c43 : (Jvm.Cond.code ({ cls := "NtruToy", name := "clearColumn", desc := "(II)V" } : Jvm.MethodName) prog_1_method_53_code (5 : Nat) (Option.none : Option Jvm.ClassFile.FieldType)).before args0 about1 = true := code_word (m := ⟨2, 48⟩) (meth := k2m48) (c := k2c48) (by decide +kernel) rfl rfl rfl (by decide +kernel)
set_option maxRecDepth 65536 in
theorem w_c44 : (Jvm.Cond.code ({ cls := "NtruToy", name := "readSolution", desc := "(I)V" } : Jvm.MethodName) prog_1_method_55_code (4 : Nat) (Option.none : Option Jvm.ClassFile.FieldType)).before args0 about1 = true := code_word (m := ⟨2, 50⟩) (meth := k2m50) (c := k2c50) (by decide +kernel) rfl rfl rfl (by decide +kernel)
set_option maxRecDepth 65536 in
theorem w_c45 : (Jvm.Cond.code ({ cls := "NtruToy", name := "storeScratch", desc := "(III)V" } : Jvm.MethodName) prog_1_method_35_code (4 : Nat) (Option.none : Option Jvm.ClassFile.FieldType)).before args0 about1 = true := code_word (m := ⟨2, 30⟩) (meth := k2m30) (c := k2c30) (by decide +kernel) rfl rfl rfl (by decide +kernel)
set_option maxRecDepth 65536 in
theorem w_c46 : (Jvm.Cond.code ({ cls := "NtruToy", name := "isInverseOfDraft", desc := "(II)Z" } : Jvm.MethodName) prog_1_method_62_code (7 : Nat) (Option.some Jvm.ClassFile.FieldType.boolean)).before args0 about1 = true := code_word (m := ⟨2, 57⟩) (meth := k2m57) (c := k2c57) (by decide +kernel) rfl rfl rfl (by decide +kernel)
set_option maxRecDepth 65536 in
theorem w_c47 : (Jvm.Cond.code ({ cls := "NtruToy", name := "convAt", desc := "(III)I" } : Jvm.MethodName) prog_1_method_39_code (9 : Nat) (Option.some Jvm.ClassFile.FieldType.int)).before args0 about1 = true := code_word (m := ⟨2, 34⟩) (meth := k2m34) (c := k2c34) (by decide +kernel) rfl rfl rfl (by decide +kernel)
set_option maxRecDepth 65536 in
theorem w_c48 : (Jvm.Cond.code ({ cls := "NtruToy", name := "loadScratch", desc := "(II)I" } : Jvm.MethodName) prog_1_method_32_code (3 : Nat) (Option.some Jvm.ClassFile.FieldType.int)).before args0 about1 = true := code_word (m := ⟨2, 27⟩) (meth := k2m27) (c := k2c27) (by decide +kernel) rfl rfl rfl (by decide +kernel)
set_option maxRecDepth 65536 in
theorem w_c49 : (Jvm.Cond.code ({ cls := "NtruToy", name := "invertModQ", desc := "()Z" } : Jvm.MethodName) prog_1_method_58_code (3 : Nat) (Option.some Jvm.ClassFile.FieldType.boolean)).before args0 about1 = true := code_word (m := ⟨2, 53⟩) (meth := k2m53) (c := k2c53) (by decide +kernel) rfl rfl rfl (by decide +kernel)
set_option maxRecDepth 65536 in
theorem w_c50 : (Jvm.Cond.code ({ cls := "NtruToy", name := "newtonStep", desc := "()V" } : Jvm.MethodName) prog_1_method_59_code (1 : Nat) (Option.none : Option Jvm.ClassFile.FieldType)).before args0 about1 = true := code_word (m := ⟨2, 54⟩) (meth := k2m54) (c := k2c54) (by decide +kernel) rfl rfl rfl (by decide +kernel)
set_option maxRecDepth 65536 in
theorem w_c51 : (Jvm.Cond.code ({ cls := "NtruToy", name := "computeCorrection", desc := "()V" } : Jvm.MethodName) prog_1_method_60_code (5 : Nat) (Option.none : Option Jvm.ClassFile.FieldType)).before args0 about1 = true := code_word (m := ⟨2, 55⟩) (meth := k2m55) (c := k2c55) (by decide +kernel) rfl rfl rfl (by decide +kernel)
set_option maxRecDepth 65536 in
theorem w_c52 : (Jvm.Cond.code ({ cls := "NtruToy", name := "applyCorrection", desc := "()V" } : Jvm.MethodName) prog_1_method_61_code (4 : Nat) (Option.none : Option Jvm.ClassFile.FieldType)).before args0 about1 = true := code_word (m := ⟨2, 56⟩) (meth := k2m56) (c := k2c56) (by decide +kernel) rfl rfl rfl (by decide +kernel)
set_option maxRecDepth 65536 in
theorem w_c53 : (Jvm.Cond.code ({ cls := "NtruToy", name := "copyPoly", desc := "(II)V" } : Jvm.MethodName) prog_1_method_37_code (5 : Nat) (Option.none : Option Jvm.ClassFile.FieldType)).before args0 about1 = true := code_word (m := ⟨2, 32⟩) (meth := k2m32) (c := k2c32) (by decide +kernel) rfl rfl rfl (by decide +kernel)
set_option maxRecDepth 65536 in
theorem w_c54 : (Jvm.Cond.code ({ cls := "NtruToy", name := "installKey", desc := "()V" } : Jvm.MethodName) prog_1_method_63_code (1 : Nat) (Option.none : Option Jvm.ClassFile.FieldType)).before args0 about1 = true := code_word (m := ⟨2, 58⟩) (meth := k2m58) (c := k2c58) (by decide +kernel) rfl rfl rfl (by decide +kernel)
set_option maxRecDepth 65536 in
theorem w_c55 : (Jvm.Cond.code ({ cls := "NtruToy", name := "computePublicKey", desc := "()V" } : Jvm.MethodName) prog_1_method_64_code (4 : Nat) (Option.none : Option Jvm.ClassFile.FieldType)).before args0 about1 = true := code_word (m := ⟨2, 59⟩) (meth := k2m59) (c := k2c59) (by decide +kernel) rfl rfl rfl (by decide +kernel)
set_option maxRecDepth 65536 in
theorem w_c56 : (Jvm.Cond.code ({ cls := "NtruToy", name := "decrypt", desc := "()I" } : Jvm.MethodName) prog_1_method_12_code (1 : Nat) (Option.some Jvm.ClassFile.FieldType.int)).before args0 about1 = true := code_word (m := ⟨2, 8⟩) (meth := k2m8) (c := k2c8) (by decide +kernel) rfl rfl rfl (by decide +kernel)
set_option maxRecDepth 65536 in
theorem w_c57 : (Jvm.Cond.code ({ cls := "NtruToy", name := "encrypt", desc := "()I" } : Jvm.MethodName) prog_1_method_11_code (3 : Nat) (Option.some Jvm.ClassFile.FieldType.int)).before args0 about1 = true := code_word (m := ⟨2, 7⟩) (meth := k2m7) (c := k2c7) (by decide +kernel) rfl rfl rfl (by decide +kernel)
set_option maxRecDepth 65536 in
theorem w_c58 : (Jvm.Cond.code ({ cls := "NtruToy", name := "writeCentred", desc := "()V" } : Jvm.MethodName) prog_1_method_67_code (5 : Nat) (Option.none : Option Jvm.ClassFile.FieldType)).before args0 about1 = true := code_word (m := ⟨2, 62⟩) (meth := k2m62) (c := k2c62) (by decide +kernel) rfl rfl rfl (by decide +kernel)
set_option maxRecDepth 65536 in
theorem w_c59 : (Jvm.Cond.code ({ cls := "NtruToy", name := "centre", desc := "(I)I" } : Jvm.MethodName) prog_1_method_21_code (3 : Nat) (Option.some Jvm.ClassFile.FieldType.int)).before args0 about1 = true := code_word (m := ⟨2, 16⟩) (meth := k2m16) (c := k2c16) (by decide +kernel) rfl rfl rfl (by decide +kernel)
set_option maxRecDepth 65536 in
theorem w_c60 : (Jvm.Cond.code ({ cls := "NtruToy", name := "writeMessage", desc := "()V" } : Jvm.MethodName) prog_1_method_68_code (5 : Nat) (Option.none : Option Jvm.ClassFile.FieldType)).before args0 about1 = true := code_word (m := ⟨2, 63⟩) (meth := k2m63) (c := k2c63) (by decide +kernel) rfl rfl rfl (by decide +kernel)
set_option maxRecDepth 65536 in
theorem w_c61 : (Jvm.Cond.code ({ cls := "NtruToy", name := "ternaryOf", desc := "(I)I" } : Jvm.MethodName) prog_1_method_22_code (2 : Nat) (Option.some Jvm.ClassFile.FieldType.int)).before args0 about1 = true := code_word (m := ⟨2, 17⟩) (meth := k2m17) (c := k2c17) (by decide +kernel) rfl rfl rfl (by decide +kernel)
set_option maxRecDepth 65536 in
theorem w_c62 : (Jvm.Cond.code ({ cls := "NtruToy", name := "weightOf", desc := "(I)I" } : Jvm.MethodName) prog_1_method_38_code (4 : Nat) (Option.some Jvm.ClassFile.FieldType.int)).before args0 about1 = true := code_word (m := ⟨2, 33⟩) (meth := k2m33) (c := k2c33) (by decide +kernel) rfl rfl rfl (by decide +kernel)
set_option maxRecDepth 65536 in
theorem w_c63 : (Jvm.Cond.code ({ cls := "NtruToy", name := "writeCiphertext", desc := "()V" } : Jvm.MethodName) prog_1_method_65_code (3 : Nat) (Option.none : Option Jvm.ClassFile.FieldType)).before args0 about1 = true := code_word (m := ⟨2, 60⟩) (meth := k2m60) (c := k2c60) (by decide +kernel) rfl rfl rfl (by decide +kernel)
set_option maxRecDepth 65536 in
theorem w_c64 : (Jvm.Cond.code ({ cls := "NtruToy", name := "cipherCoeff", desc := "(I)I" } : Jvm.MethodName) prog_1_method_66_code (5 : Nat) (Option.some Jvm.ClassFile.FieldType.int)).before args0 about1 = true := code_word (m := ⟨2, 61⟩) (meth := k2m61) (c := k2c61) (by decide +kernel) rfl rfl rfl (by decide +kernel)
set_option maxRecDepth 65536 in
theorem w_c65 : (Jvm.Cond.code ({ cls := "NtruToy", name := "isCipherValue", desc := "(I)Z" } : Jvm.MethodName) prog_1_method_28_code (2 : Nat) (Option.some Jvm.ClassFile.FieldType.boolean)).before args0 about1 = true := code_word (m := ⟨2, 23⟩) (meth := k2m23) (c := k2c23) (by decide +kernel) rfl rfl rfl (by decide +kernel)
set_option maxRecDepth 65536 in
theorem w_c66 : (Jvm.Cond.code ({ cls := "NtruToy", name := "subtractRow", desc := "(IIII)V" } : Jvm.MethodName) prog_1_method_54_code (9 : Nat) (Option.none : Option Jvm.ClassFile.FieldType)).before args0 about1 = true := code_word (m := ⟨2, 49⟩) (meth := k2m49) (c := k2c49) (by decide +kernel) rfl rfl rfl (by decide +kernel)
def codes1 : List Jvm.Cond := [Jvm.Cond.code x code maxLocals ret, Jvm.Cond.code ({ cls := "NtruToy", name := "<init>", desc := "(II)V" } : Jvm.MethodName) prog_1_method_1_code (5 : Nat) (Option.none : Option Jvm.ClassFile.FieldType), Jvm.Cond.code ({ cls := "java/lang/Object", name := "<init>", desc := "()V" } : Jvm.MethodName) object_method_1_code (1 : Nat) (Option.none : Option Jvm.ClassFile.FieldType), Jvm.Cond.code ({ cls := "NtruToy", name := "clampInt", desc := "(III)I" } : Jvm.MethodName) prog_1_method_15_code (4 : Nat) (Option.some Jvm.ClassFile.FieldType.int), Jvm.Cond.code ({ cls := "NtruToy", name := "powerOfTwo", desc := "(I)I" } : Jvm.MethodName) prog_1_method_16_code (4 : Nat) (Option.some Jvm.ClassFile.FieldType.int), Jvm.Cond.code ({ cls := "NtruToy", name := "keygen", desc := "()I" } : Jvm.MethodName) prog_1_method_8_code (3 : Nat) (Option.some Jvm.ClassFile.FieldType.int), Jvm.Cond.code ({ cls := "NtruToy", name := "invertModThree", desc := "()Z" } : Jvm.MethodName) prog_1_method_57_code (1 : Nat) (Option.some Jvm.ClassFile.FieldType.boolean), Jvm.Cond.code ({ cls := "NtruToy", name := "invertByElimination", desc := "(II)Z" } : Jvm.MethodName) prog_1_method_56_code (4 : Nat) (Option.some Jvm.ClassFile.FieldType.boolean), Jvm.Cond.code ({ cls := "NtruToy", name := "buildSystem", desc := "(I)V" } : Jvm.MethodName) prog_1_method_48_code (7 : Nat) (Option.none : Option Jvm.ClassFile.FieldType), Jvm.Cond.code ({ cls := "NtruToy", name := "clearMatrix", desc := "()V" } : Jvm.MethodName) prog_1_method_47_code (2 : Nat) (Option.none : Option Jvm.ClassFile.FieldType), Jvm.Cond.code ({ cls := "NtruToy", name := "cyclicIndex", desc := "(I)I" } : Jvm.MethodName) prog_1_method_20_code (2 : Nat) (Option.some Jvm.ClassFile.FieldType.int), Jvm.Cond.code ({ cls := "NtruToy", name := "mod", desc := "(II)I" } : Jvm.MethodName) prog_1_method_17_code (4 : Nat) (Option.some Jvm.ClassFile.FieldType.int), Jvm.Cond.code ({ cls := "NtruToy", name := "load", desc := "(II)I" } : Jvm.MethodName) prog_1_method_30_code (3 : Nat) (Option.some Jvm.ClassFile.FieldType.int), Jvm.Cond.code ({ cls := "NtruToy", name := "loadHeld", desc := "(II)I" } : Jvm.MethodName) prog_1_method_31_code (3 : Nat) (Option.some Jvm.ClassFile.FieldType.int), Jvm.Cond.code ({ cls := "NtruToy", name := "matPut", desc := "(III)V" } : Jvm.MethodName) prog_1_method_46_code (4 : Nat) (Option.none : Option Jvm.ClassFile.FieldType), Jvm.Cond.code ({ cls := "NtruToy", name := "unitCoeff", desc := "(I)I" } : Jvm.MethodName) prog_1_method_19_code (2 : Nat) (Option.some Jvm.ClassFile.FieldType.int), Jvm.Cond.code ({ cls := "NtruToy", name := "eliminate", desc := "(I)Z" } : Jvm.MethodName) prog_1_method_49_code (6 : Nat) (Option.some Jvm.ClassFile.FieldType.boolean), Jvm.Cond.code ({ cls := "NtruToy", name := "findPivot", desc := "(II)I" } : Jvm.MethodName) prog_1_method_50_code (5 : Nat) (Option.some Jvm.ClassFile.FieldType.int), Jvm.Cond.code ({ cls := "NtruToy", name := "matAt", desc := "(II)I" } : Jvm.MethodName) prog_1_method_45_code (3 : Nat) (Option.some Jvm.ClassFile.FieldType.int), Jvm.Cond.code ({ cls := "NtruToy", name := "inverseMod", desc := "(II)I" } : Jvm.MethodName) prog_1_method_18_code (6 : Nat) (Option.some Jvm.ClassFile.FieldType.int), Jvm.Cond.code ({ cls := "NtruToyL5", name := "same", desc := "(LNtruToy;LNtruToy;)Z" } : Jvm.MethodName) method_3_code (4 : Nat) (Option.some Jvm.ClassFile.FieldType.boolean), Jvm.Cond.code ({ cls := "NtruToy", name := "hasKey", desc := "()Z" } : Jvm.MethodName) prog_1_method_9_code (1 : Nat) (Option.some Jvm.ClassFile.FieldType.boolean), Jvm.Cond.code ({ cls := "NtruToy", name := "keyCount", desc := "()I" } : Jvm.MethodName) prog_1_method_10_code (1 : Nat) (Option.some Jvm.ClassFile.FieldType.int), Jvm.Cond.code ({ cls := "NtruToy", name := "coeff", desc := "(II)I" } : Jvm.MethodName) prog_1_method_13_code (3 : Nat) (Option.some Jvm.ClassFile.FieldType.int), Jvm.Cond.code ({ cls := "NtruToy", name := "isSelector", desc := "(I)Z" } : Jvm.MethodName) prog_1_method_23_code (2 : Nat) (Option.some Jvm.ClassFile.FieldType.boolean), Jvm.Cond.code ({ cls := "NtruToy", name := "isIndex", desc := "(I)Z" } : Jvm.MethodName) prog_1_method_26_code (2 : Nat) (Option.some Jvm.ClassFile.FieldType.boolean), Jvm.Cond.code ({ cls := "NtruToy", name := "setPacked", desc := "(IJ)Z" } : Jvm.MethodName) prog_1_method_6_code (4 : Nat) (Option.some Jvm.ClassFile.FieldType.boolean), Jvm.Cond.code ({ cls := "NtruToy", name := "isDraft", desc := "(I)Z" } : Jvm.MethodName) prog_1_method_25_code (2 : Nat) (Option.some Jvm.ClassFile.FieldType.boolean), Jvm.Cond.code ({ cls := "NtruToy", name := "highBitsClear", desc := "(J)Z" } : Jvm.MethodName) prog_1_method_40_code (4 : Nat) (Option.some Jvm.ClassFile.FieldType.boolean), Jvm.Cond.code ({ cls := "NtruToy", name := "fieldsValid", desc := "(J)Z" } : Jvm.MethodName) prog_1_method_42_code (4 : Nat) (Option.some Jvm.ClassFile.FieldType.boolean), Jvm.Cond.code ({ cls := "NtruToy", name := "fieldOf", desc := "(JI)I" } : Jvm.MethodName) prog_1_method_41_code (7 : Nat) (Option.some Jvm.ClassFile.FieldType.int), Jvm.Cond.code ({ cls := "NtruToy", name := "unpackInto", desc := "(IJ)V" } : Jvm.MethodName) prog_1_method_44_code (7 : Nat) (Option.none : Option Jvm.ClassFile.FieldType), Jvm.Cond.code ({ cls := "NtruToy", name := "decodeField", desc := "(I)I" } : Jvm.MethodName) prog_1_method_43_code (2 : Nat) (Option.some Jvm.ClassFile.FieldType.int), Jvm.Cond.code ({ cls := "NtruToy", name := "store", desc := "(III)V" } : Jvm.MethodName) prog_1_method_33_code (4 : Nat) (Option.none : Option Jvm.ClassFile.FieldType), Jvm.Cond.code ({ cls := "NtruToy", name := "storeHeld", desc := "(III)V" } : Jvm.MethodName) prog_1_method_34_code (4 : Nat) (Option.none : Option Jvm.ClassFile.FieldType), Jvm.Cond.code ({ cls := "NtruToy", name := "setCoeff", desc := "(III)Z" } : Jvm.MethodName) prog_1_method_5_code (4 : Nat) (Option.some Jvm.ClassFile.FieldType.boolean), Jvm.Cond.code ({ cls := "NtruToy", name := "isWritable", desc := "(I)Z" } : Jvm.MethodName) prog_1_method_24_code (2 : Nat) (Option.some Jvm.ClassFile.FieldType.boolean), Jvm.Cond.code ({ cls := "NtruToy", name := "acceptsValue", desc := "(II)Z" } : Jvm.MethodName) prog_1_method_29_code (3 : Nat) (Option.some Jvm.ClassFile.FieldType.boolean), Jvm.Cond.code ({ cls := "NtruToy", name := "isTernary", desc := "(I)Z" } : Jvm.MethodName) prog_1_method_27_code (2 : Nat) (Option.some Jvm.ClassFile.FieldType.boolean), Jvm.Cond.code ({ cls := "NtruToy", name := "clear", desc := "(I)Z" } : Jvm.MethodName) prog_1_method_7_code (2 : Nat) (Option.some Jvm.ClassFile.FieldType.boolean), Jvm.Cond.code ({ cls := "NtruToy", name := "zeroPoly", desc := "(I)V" } : Jvm.MethodName) prog_1_method_36_code (3 : Nat) (Option.none : Option Jvm.ClassFile.FieldType), Jvm.Cond.code ({ cls := "NtruToy", name := "swapRows", desc := "(II)V" } : Jvm.MethodName) prog_1_method_51_code (6 : Nat) (Option.none : Option Jvm.ClassFile.FieldType), Jvm.Cond.code ({ cls := "NtruToy", name := "scaleRow", desc := "(III)V" } : Jvm.MethodName) prog_1_method_52_code (7 : Nat) (Option.none : Option Jvm.ClassFile.FieldType), Jvm.Cond.code ({ cls := "NtruToy", name := "clearColumn", desc := "(II)V" } : Jvm.MethodName) prog_1_method_53_code (5 : Nat) (Option.none : Option Jvm.ClassFile.FieldType), Jvm.Cond.code ({ cls := "NtruToy", name := "readSolution", desc := "(I)V" } : Jvm.MethodName) prog_1_method_55_code (4 : Nat) (Option.none : Option Jvm.ClassFile.FieldType), Jvm.Cond.code ({ cls := "NtruToy", name := "storeScratch", desc := "(III)V" } : Jvm.MethodName) prog_1_method_35_code (4 : Nat) (Option.none : Option Jvm.ClassFile.FieldType), Jvm.Cond.code ({ cls := "NtruToy", name := "isInverseOfDraft", desc := "(II)Z" } : Jvm.MethodName) prog_1_method_62_code (7 : Nat) (Option.some Jvm.ClassFile.FieldType.boolean), Jvm.Cond.code ({ cls := "NtruToy", name := "convAt", desc := "(III)I" } : Jvm.MethodName) prog_1_method_39_code (9 : Nat) (Option.some Jvm.ClassFile.FieldType.int), Jvm.Cond.code ({ cls := "NtruToy", name := "loadScratch", desc := "(II)I" } : Jvm.MethodName) prog_1_method_32_code (3 : Nat) (Option.some Jvm.ClassFile.FieldType.int), Jvm.Cond.code ({ cls := "NtruToy", name := "invertModQ", desc := "()Z" } : Jvm.MethodName) prog_1_method_58_code (3 : Nat) (Option.some Jvm.ClassFile.FieldType.boolean), Jvm.Cond.code ({ cls := "NtruToy", name := "newtonStep", desc := "()V" } : Jvm.MethodName) prog_1_method_59_code (1 : Nat) (Option.none : Option Jvm.ClassFile.FieldType), Jvm.Cond.code ({ cls := "NtruToy", name := "computeCorrection", desc := "()V" } : Jvm.MethodName) prog_1_method_60_code (5 : Nat) (Option.none : Option Jvm.ClassFile.FieldType), Jvm.Cond.code ({ cls := "NtruToy", name := "applyCorrection", desc := "()V" } : Jvm.MethodName) prog_1_method_61_code (4 : Nat) (Option.none : Option Jvm.ClassFile.FieldType), Jvm.Cond.code ({ cls := "NtruToy", name := "copyPoly", desc := "(II)V" } : Jvm.MethodName) prog_1_method_37_code (5 : Nat) (Option.none : Option Jvm.ClassFile.FieldType), Jvm.Cond.code ({ cls := "NtruToy", name := "installKey", desc := "()V" } : Jvm.MethodName) prog_1_method_63_code (1 : Nat) (Option.none : Option Jvm.ClassFile.FieldType), Jvm.Cond.code ({ cls := "NtruToy", name := "computePublicKey", desc := "()V" } : Jvm.MethodName) prog_1_method_64_code (4 : Nat) (Option.none : Option Jvm.ClassFile.FieldType), Jvm.Cond.code ({ cls := "NtruToy", name := "decrypt", desc := "()I" } : Jvm.MethodName) prog_1_method_12_code (1 : Nat) (Option.some Jvm.ClassFile.FieldType.int), Jvm.Cond.code ({ cls := "NtruToy", name := "encrypt", desc := "()I" } : Jvm.MethodName) prog_1_method_11_code (3 : Nat) (Option.some Jvm.ClassFile.FieldType.int), Jvm.Cond.code ({ cls := "NtruToy", name := "writeCentred", desc := "()V" } : Jvm.MethodName) prog_1_method_67_code (5 : Nat) (Option.none : Option Jvm.ClassFile.FieldType), Jvm.Cond.code ({ cls := "NtruToy", name := "centre", desc := "(I)I" } : Jvm.MethodName) prog_1_method_21_code (3 : Nat) (Option.some Jvm.ClassFile.FieldType.int), Jvm.Cond.code ({ cls := "NtruToy", name := "writeMessage", desc := "()V" } : Jvm.MethodName) prog_1_method_68_code (5 : Nat) (Option.none : Option Jvm.ClassFile.FieldType), Jvm.Cond.code ({ cls := "NtruToy", name := "ternaryOf", desc := "(I)I" } : Jvm.MethodName) prog_1_method_22_code (2 : Nat) (Option.some Jvm.ClassFile.FieldType.int), Jvm.Cond.code ({ cls := "NtruToy", name := "weightOf", desc := "(I)I" } : Jvm.MethodName) prog_1_method_38_code (4 : Nat) (Option.some Jvm.ClassFile.FieldType.int), Jvm.Cond.code ({ cls := "NtruToy", name := "writeCiphertext", desc := "()V" } : Jvm.MethodName) prog_1_method_65_code (3 : Nat) (Option.none : Option Jvm.ClassFile.FieldType), Jvm.Cond.code ({ cls := "NtruToy", name := "cipherCoeff", desc := "(I)I" } : Jvm.MethodName) prog_1_method_66_code (5 : Nat) (Option.some Jvm.ClassFile.FieldType.int), Jvm.Cond.code ({ cls := "NtruToy", name := "isCipherValue", desc := "(I)Z" } : Jvm.MethodName) prog_1_method_28_code (2 : Nat) (Option.some Jvm.ClassFile.FieldType.boolean), Jvm.Cond.code ({ cls := "NtruToy", name := "subtractRow", desc := "(IIII)V" } : Jvm.MethodName) prog_1_method_54_code (9 : Nat) (Option.none : Option Jvm.ClassFile.FieldType)]
set_option maxRecDepth 65536 in
theorem codes_eq : words1.filter isCode = codes1 := rfl
theorem w_codes : ∀ c ∈ words1.filter isCode, c.before args0 about1 = true := by
  rw [codes_eq]
  intro c hc
  simp only [codes1, List.mem_cons, List.not_mem_nil, or_false] at hc
  rcases hc with rfl | rfl | rfl | rfl | rfl | rfl | rfl | rfl | rfl | rfl | rfl | rfl | rfl | rfl | rfl | rfl | rfl | rfl | rfl | rfl | rfl | rfl | rfl | rfl | rfl | rfl | rfl | rfl | rfl | rfl | rfl | rfl | rfl | rfl | rfl | rfl | rfl | rfl | rfl | rfl | rfl | rfl | rfl | rfl | rfl | rfl | rfl | rfl | rfl | rfl | rfl | rfl | rfl | rfl | rfl | rfl | rfl | rfl | rfl | rfl | rfl | rfl | rfl | rfl | rfl | rfl | rfl
  · exact w_c0
  · exact w_c1
  · exact w_c2
  · exact w_c3
  · exact w_c4
  · exact w_c5
  · exact w_c6
  · exact w_c7
  · exact w_c8
  · exact w_c9
  · exact w_c10
  · exact w_c11
  · exact w_c12
  · exact w_c13
  · exact w_c14
  · exact w_c15
  · exact w_c16
  · exact w_c17
  · exact w_c18
  · exact w_c19
  · exact w_c20
  · exact w_c21
  · exact w_c22
  · exact w_c23
  · exact w_c24
  · exact w_c25
  · exact w_c26
  · exact w_c27
  · exact w_c28
  · exact w_c29
  · exact w_c30
  · exact w_c31
  · exact w_c32
  · exact w_c33
  · exact w_c34
  · exact w_c35
  · exact w_c36
  · exact w_c37
  · exact w_c38
  · exact w_c39
  · exact w_c40
  · exact w_c41
  · exact w_c42
  · exact w_c43
  · exact w_c44
  · exact w_c45
  · exact w_c46
  · exact w_c47
  · exact w_c48
  · exact w_c49
  · exact w_c50
  · exact w_c51
  · exact w_c52
  · exact w_c53
  · exact w_c54
  · exact w_c55
  · exact w_c56
  · exact w_c57
  · exact w_c58
  · exact w_c59
  · exact w_c60
  · exact w_c61
  · exact w_c62
  · exact w_c63
  · exact w_c64
  · exact w_c65
  · exact w_c66
set_option maxRecDepth 65536 in
theorem w_t1 : (words1.take 24).all (fun c => isCode c || c.before args0 about1) = true := by decide +kernel
set_option maxRecDepth 65536 in
theorem w_t2 : ((words1.drop 24).take 24).all (fun c => isCode c || c.before args0 about1) = true := by decide +kernel
set_option maxRecDepth 65536 in
theorem w_t3 : (((words1.drop 24).drop 24).take 24).all (fun c => isCode c || c.before args0 about1) = true := by decide +kernel
set_option maxRecDepth 65536 in
theorem w_t4 : ((((words1.drop 24).drop 24).drop 24).take 24).all (fun c => isCode c || c.before args0 about1) = true := by decide +kernel
set_option maxRecDepth 65536 in
theorem w_t5 : (((((words1.drop 24).drop 24).drop 24).drop 24).take 24).all (fun c => isCode c || c.before args0 about1) = true := by decide +kernel
set_option maxRecDepth 65536 in
theorem w_t6 : ((((((words1.drop 24).drop 24).drop 24).drop 24).drop 24).take 24).all (fun c => isCode c || c.before args0 about1) = true := by decide +kernel
set_option maxRecDepth 65536 in
theorem w_t7 : (((((((words1.drop 24).drop 24).drop 24).drop 24).drop 24).drop 24).take 24).all (fun c => isCode c || c.before args0 about1) = true := by decide +kernel
set_option maxRecDepth 65536 in
theorem w_t8 : ((((((((words1.drop 24).drop 24).drop 24).drop 24).drop 24).drop 24).drop 24).take 24).all (fun c => isCode c || c.before args0 about1) = true := by decide +kernel
set_option maxRecDepth 65536 in
theorem w_t9 : (((((((((words1.drop 24).drop 24).drop 24).drop 24).drop 24).drop 24).drop 24).drop 24).take 24).all (fun c => isCode c || c.before args0 about1) = true := by decide +kernel
set_option maxRecDepth 65536 in
theorem w_t10 : ((((((((((words1.drop 24).drop 24).drop 24).drop 24).drop 24).drop 24).drop 24).drop 24).drop 24).take 24).all (fun c => isCode c || c.before args0 about1) = true := by decide +kernel
set_option maxRecDepth 65536 in
theorem w_t11 : (((((((((((words1.drop 24).drop 24).drop 24).drop 24).drop 24).drop 24).drop 24).drop 24).drop 24).drop 24).take 24).all (fun c => isCode c || c.before args0 about1) = true := by decide +kernel
set_option maxRecDepth 65536 in
theorem w_t12 : ((((((((((((words1.drop 24).drop 24).drop 24).drop 24).drop 24).drop 24).drop 24).drop 24).drop 24).drop 24).drop 24).take 24).all (fun c => isCode c || c.before args0 about1) = true := by decide +kernel
set_option maxRecDepth 65536 in
theorem w_t13 : (((((((((((((words1.drop 24).drop 24).drop 24).drop 24).drop 24).drop 24).drop 24).drop 24).drop 24).drop 24).drop 24).drop 24).take 24).all (fun c => isCode c || c.before args0 about1) = true := by decide +kernel
set_option maxRecDepth 65536 in
theorem w_t14 : (((((((((((((words1.drop 24).drop 24).drop 24).drop 24).drop 24).drop 24).drop 24).drop 24).drop 24).drop 24).drop 24).drop 24).drop 24).all (fun c => isCode c || c.before args0 about1) = true := by decide +kernel
theorem w_tables : (allAtoms (Jvm.Cond.code x code maxLocals ret :: tables_1)).before args0 about1 = true := by
  rw [allAtoms_all]
  show words1.all (fun c => c.before args0 about1) = true
  refine all_split ?_ w_codes
  rw [← List.take_append_drop 24 words1, List.all_append, w_t1, ← List.take_append_drop 24 (words1.drop 24), List.all_append, w_t2, ← List.take_append_drop 24 ((words1.drop 24).drop 24), List.all_append, w_t3, ← List.take_append_drop 24 (((words1.drop 24).drop 24).drop 24), List.all_append, w_t4, ← List.take_append_drop 24 ((((words1.drop 24).drop 24).drop 24).drop 24), List.all_append, w_t5, ← List.take_append_drop 24 (((((words1.drop 24).drop 24).drop 24).drop 24).drop 24), List.all_append, w_t6, ← List.take_append_drop 24 ((((((words1.drop 24).drop 24).drop 24).drop 24).drop 24).drop 24), List.all_append, w_t7, ← List.take_append_drop 24 (((((((words1.drop 24).drop 24).drop 24).drop 24).drop 24).drop 24).drop 24), List.all_append, w_t8, ← List.take_append_drop 24 ((((((((words1.drop 24).drop 24).drop 24).drop 24).drop 24).drop 24).drop 24).drop 24), List.all_append, w_t9, ← List.take_append_drop 24 (((((((((words1.drop 24).drop 24).drop 24).drop 24).drop 24).drop 24).drop 24).drop 24).drop 24), List.all_append, w_t10, ← List.take_append_drop 24 ((((((((((words1.drop 24).drop 24).drop 24).drop 24).drop 24).drop 24).drop 24).drop 24).drop 24).drop 24), List.all_append, w_t11, ← List.take_append_drop 24 (((((((((((words1.drop 24).drop 24).drop 24).drop 24).drop 24).drop 24).drop 24).drop 24).drop 24).drop 24).drop 24), List.all_append, w_t12, ← List.take_append_drop 24 ((((((((((((words1.drop 24).drop 24).drop 24).drop 24).drop 24).drop 24).drop 24).drop 24).drop 24).drop 24).drop 24).drop 24), List.all_append, w_t13, w_t14]
  rfl
set_option maxRecDepth 65536 in
theorem w_rest : rest_1_c.before args0 about1 = true := by decide +kernel
set_option maxRecDepth 65536 in
theorem w_case : (Jvm.Cond.and given_1 narrow_1).before args0 about1 = true := by decide +kernel
theorem w_applies : (headSpec (Jvm.Cond.code x code maxLocals ret :: tables_1) room_1).applies x e0.platform about1 = true :=
  (Spec.applies_iff w_frames).mpr ⟨w_running, w_runnable, w_alone, w_named, w_hears, w_ripe, w_room, w_tables⟩
theorem atStart : AtStart classFile x code maxLocals ret World_1 tables_1 room_1 Calls_1 rest_1 Pre_1 launch0 p0 e0 about1 theMethod args0 below0 :=
  ⟨lists_1, trivial, launch0.admits_env _ _ _, launch0.least_env, fairChoices_fair.cas, fairChoices_fair.clock, w_frames, w_args, w_heap, w_applies, trivial, w_rest, w_case⟩
end start1
theorem witness_1 : WitnessClaimed_1 := ⟨start1.p0, start1.e0, start1.about1, start1.theMethod, start1.args0, start1.below0, start1.atStart⟩
end Jvm.Pilot.@@N@@
