import JvmDerived
import JvmDerived.Pilot.@@N@@Statement
import JvmDerived.Pilot.@@N@@Code
set_option linter.unusedVariables false
set_option linter.unusedSimpArgs false
namespace Jvm.OwnFlat
open Jvm Jvm.ClassFile Sem Op Lib Jvm.Free Jvm.Stand Jvm.LawKit Jvm.RoadKit
/-! ## 1. the abstract object: int-like fields, longs, arrays of int-like values -/
abbrev St : Type := (Nat → Int32) × (Nat → Int64) × (Nat → Int → Int32)
def gI (σ : St) (k : Nat) : Int32 := σ.1 k
def gL (σ : St) (k : Nat) : Int64 := σ.2.1 k
def gA (σ : St) (k : Nat) (i : Int) : Int32 := σ.2.2 k i
def sI (σ : St) (k : Nat) (v : Int32) : St := (fun q => if q = k then v else σ.1 q, σ.2.1, σ.2.2)
def sL (σ : St) (k : Nat) (v : Int64) : St := (σ.1, fun q => if q = k then v else σ.2.1 q, σ.2.2)
def sA (σ : St) (k : Nat) (i : Int) (v : Int32) : St := (σ.1, σ.2.1, fun q j => if q = k ∧ j = i then v else σ.2.2 q j)
def z0 : St := (fun _ => 0, fun _ => 0, fun _ _ => 0)
theorem gI_sI (σ : St) (k q : Nat) (v : Int32) : gI (sI σ k v) q = if q = k then v else gI σ q := rfl
theorem gI_sL (σ : St) (k q : Nat) (v : Int64) : gI (sL σ k v) q = gI σ q := rfl
theorem gI_sA (σ : St) (k q : Nat) (i : Int) (v : Int32) : gI (sA σ k i v) q = gI σ q := rfl
theorem gL_sI (σ : St) (k q : Nat) (v : Int32) : gL (sI σ k v) q = gL σ q := rfl
theorem gL_sL (σ : St) (k q : Nat) (v : Int64) : gL (sL σ k v) q = if q = k then v else gL σ q := rfl
theorem gL_sA (σ : St) (k q : Nat) (i : Int) (v : Int32) : gL (sA σ k i v) q = gL σ q := rfl
theorem gA_sI (σ : St) (k q : Nat) (j : Int) (v : Int32) : gA (sI σ k v) q j = gA σ q j := rfl
theorem gA_sL (σ : St) (k q : Nat) (j : Int) (v : Int64) : gA (sL σ k v) q j = gA σ q j := rfl
theorem gA_sA (σ : St) (k q : Nat) (i j : Int) (v : Int32) : gA (sA σ k i v) q j = if q = k ∧ j = i then v else gA σ q j := rfl
/-! ## 2. values and local variables -/
def up (ad : Nat → Addr) : Value → Value
  | .ref k => .ref (ad k)
  | v => v
theorem up_cat (ad : Nat → Addr) (v : Value) : (up ad v).category = v.category := by cases v <;> rfl
theorem up_cats (ad : Nat → Addr) (st : List Value) : ((st.map (up ad)).map fun v => v.category) = st.map fun v => v.category := by
  rw [List.map_map]; exact List.map_congr_left fun v _ => up_cat ad v
def WF (A : Array Slot) : Prop := (∀ i : Nat, A[i]? = some Slot.second → ∃ (j : Nat) (w : Value), i = j + 1 ∧ A[j]? = some (Slot.val w) ∧ w.category = 2) ∧ ∀ (i : Nat) (w : Value), A[i]? = some (Slot.val w) → w.category = 2 → A[i + 1]? = some Slot.second
def LocOK (ad : Nat → Addr) (L : List (Option Value)) (A : Array Slot) : Prop := A.size = L.length ∧ WF A ∧ ∀ (i : Nat) (v : Value), L[i]? = some (some v) → A[i]? = some (Slot.val (up ad v))
def isL2 : Option (Option Value) → Bool
  | some (some v) => v.category == 2
  | _ => false
def st1 (L : List (Option Value)) (i : Nat) (v : Value) : List (Option Value) := (bif isL2 L[i - 1]? then L.set (i - 1) none else L).set i (some v)
def st2 (L : List (Option Value)) (i : Nat) (v : Value) : List (Option Value) := (st1 L i v).set (i + 1) none
theorem cat12 (v : Value) : v.category = 1 ∨ v.category = 2 := by cases v <;> simp [Value.category]
theorem store_c1 {A : Array Slot} {i : Nat} {v : Value} (hw : WF A) (hi : i < A.size) (hv : v.category = 1) :
    ∃ A', storeLocals A i v = some A' ∧ A'.size = A.size ∧ A'[i]? = some (Slot.val v) ∧ WF A' ∧
      ∀ k, k ≠ i → A'[k]? = A[k]? ∨ (k + 1 = i ∧ A[i]? = some .second) ∨ A[k]? = some .second := by
  obtain ⟨w1, w2⟩ := hw
  have hA : A[i]? = some A[i] := Array.getElem?_eq_getElem hi
  cases hc : A[i] with
  | second =>
    rw [hc] at hA
    obtain ⟨j, w, rfl, hj, hw2⟩ := w1 i hA
    have hj' : j < A.size := by omega
    refine ⟨(A.setIfInBounds j .unset).setIfInBounds (j + 1) (.val v), ?_, by simp, by simp [hi], ⟨fun k hk => ?_, fun k u hk hu => ?_⟩, fun k hk => ?_⟩
    · simp [storeLocals, storeSelf, setAt, hc, hi, hj', hv]
    · by_cases e1 : j + 1 = k
      · subst e1; simp [hi] at hk
      · by_cases e2 : j = k
        · subst e2; simp [hj'] at hk
        · rw [Array.getElem?_setIfInBounds_ne e1, Array.getElem?_setIfInBounds_ne e2] at hk
          obtain ⟨q, u, rfl, h1, h2⟩ := w1 k hk
          refine ⟨q, u, rfl, ?_, h2⟩
          have n1 : j + 1 ≠ q := fun z => by subst z; rw [hA] at h1; cases h1
          have n2 : j ≠ q := fun z => by omega
          rw [Array.getElem?_setIfInBounds_ne n1, Array.getElem?_setIfInBounds_ne n2]; exact h1
    · by_cases e1 : j + 1 = k
      · subst e1; simp [hi] at hk; subst hk; omega
      · by_cases e2 : j = k
        · subst e2; simp [hj'] at hk
        · rw [Array.getElem?_setIfInBounds_ne e1, Array.getElem?_setIfInBounds_ne e2] at hk
          have := w2 k u hk hu
          have n1 : j + 1 ≠ k + 1 := by omega
          have n2 : j ≠ k + 1 := fun z => by subst z; rw [hj] at this; cases this
          rw [Array.getElem?_setIfInBounds_ne n1, Array.getElem?_setIfInBounds_ne n2]; exact this
    · by_cases e2 : j = k
      · subst e2; exact Or.inr (Or.inl ⟨rfl, hA⟩)
      · rw [Array.getElem?_setIfInBounds_ne (Ne.symm hk), Array.getElem?_setIfInBounds_ne e2]; exact Or.inl rfl
  | unset =>
    rw [hc] at hA
    refine ⟨A.setIfInBounds i (.val v), by simp [storeLocals, storeSelf, setAt, hc, hi, hv], by simp, by simp [hi], ⟨fun k hk => ?_, fun k u hk hu => ?_⟩, fun k hk => by rw [Array.getElem?_setIfInBounds_ne (Ne.symm hk)]; exact Or.inl rfl⟩
    · by_cases e1 : i = k
      · subst e1; simp [hi] at hk
      · rw [Array.getElem?_setIfInBounds_ne e1] at hk
        obtain ⟨q, u, rfl, h1, h2⟩ := w1 k hk
        have n1 : i ≠ q := fun z => by subst z; rw [hA] at h1; cases h1
        exact ⟨q, u, rfl, by rw [Array.getElem?_setIfInBounds_ne n1]; exact h1, h2⟩
    · by_cases e1 : i = k
      · subst e1; simp [hi] at hk; subst hk; omega
      · rw [Array.getElem?_setIfInBounds_ne e1] at hk
        have := w2 k u hk hu
        have n1 : i ≠ k + 1 := fun z => by subst z; rw [hA] at this; cases this
        rw [Array.getElem?_setIfInBounds_ne n1]; exact this
  | val old =>
    rw [hc] at hA
    rcases cat12 old with ho | ho
    · refine ⟨A.setIfInBounds i (.val v), by simp [storeLocals, storeSelf, setAt, hc, hi, hv, ho], by simp, by simp [hi], ⟨fun k hk => ?_, fun k u hk hu => ?_⟩, fun k hk => by rw [Array.getElem?_setIfInBounds_ne (Ne.symm hk)]; exact Or.inl rfl⟩
      · by_cases e1 : i = k
        · subst e1; simp [hi] at hk
        · rw [Array.getElem?_setIfInBounds_ne e1] at hk
          obtain ⟨q, u, rfl, h1, h2⟩ := w1 k hk
          have n1 : i ≠ q := fun z => by subst z; rw [hA] at h1; cases h1; omega
          exact ⟨q, u, rfl, by rw [Array.getElem?_setIfInBounds_ne n1]; exact h1, h2⟩
      · by_cases e1 : i = k
        · subst e1; simp [hi] at hk; subst hk; omega
        · rw [Array.getElem?_setIfInBounds_ne e1] at hk
          have := w2 k u hk hu
          have n1 : i ≠ k + 1 := fun z => by subst z; rw [hA] at this; cases this
          rw [Array.getElem?_setIfInBounds_ne n1]; exact this
    · have hs := w2 i old hA ho
      have hi' : i + 1 < A.size := (Array.getElem?_eq_some_iff.mp hs).1
      refine ⟨(A.setIfInBounds (i + 1) .unset).setIfInBounds i (.val v), by simp [storeLocals, storeSelf, setAt, hc, hi, hi', hv, ho], by simp, by simp [hi], ⟨fun k hk => ?_, fun k u hk hu => ?_⟩, fun k hk => ?_⟩
      · by_cases e1 : i = k
        · subst e1; simp [hi] at hk
        · by_cases e2 : i + 1 = k
          · subst e2; rw [Array.getElem?_setIfInBounds_ne e1] at hk; simp [hi'] at hk
          · rw [Array.getElem?_setIfInBounds_ne e1, Array.getElem?_setIfInBounds_ne e2] at hk
            obtain ⟨q, u, rfl, h1, h2⟩ := w1 k hk
            have n1 : i ≠ q := fun z => by omega
            have n2 : i + 1 ≠ q := fun z => by subst z; rw [hs] at h1; cases h1
            exact ⟨q, u, rfl, by rw [Array.getElem?_setIfInBounds_ne n1, Array.getElem?_setIfInBounds_ne n2]; exact h1, h2⟩
      · by_cases e1 : i = k
        · subst e1; simp [hi] at hk; subst hk; omega
        · by_cases e2 : i + 1 = k
          · subst e2; rw [Array.getElem?_setIfInBounds_ne e1] at hk; simp [hi'] at hk
          · rw [Array.getElem?_setIfInBounds_ne e1, Array.getElem?_setIfInBounds_ne e2] at hk
            have := w2 k u hk hu
            have n1 : i ≠ k + 1 := fun z => by subst z; rw [hA] at this; cases this
            have n2 : i + 1 ≠ k + 1 := by omega
            rw [Array.getElem?_setIfInBounds_ne n1, Array.getElem?_setIfInBounds_ne n2]; exact this
      · by_cases e2 : i + 1 = k
        · subst e2; exact Or.inr (Or.inr hs)
        · rw [Array.getElem?_setIfInBounds_ne (Ne.symm hk), Array.getElem?_setIfInBounds_ne e2]; exact Or.inl rfl
theorem st1_get {L : List (Option Value)} {i k : Nat} {v u : Value} (h : (st1 L i v)[k]? = some (some u)) : (k = i ∧ u = v) ∨ (k ≠ i ∧ L[k]? = some (some u) ∧ ¬ (k = i - 1 ∧ u.category = 2)) := by
  unfold st1 at h
  by_cases e : k = i
  · subst e
    refine Or.inl ⟨rfl, ?_⟩
    have hl := (List.getElem?_eq_some_iff.mp h).1
    rw [List.getElem?_set_self (by simpa using hl)] at h
    exact (Option.some.inj (Option.some.inj h)).symm
  · refine Or.inr ⟨e, ?_⟩
    rw [List.getElem?_set_ne (Ne.symm e)] at h
    by_cases e2 : k = i - 1
    · subst e2
      cases hb : isL2 L[i - 1]? with
      | true =>
        rw [hb] at h
        have hl := (List.getElem?_eq_some_iff.mp h).1
        rw [cond_true] at h hl
        rw [List.getElem?_set_self (by simpa using hl)] at h
        cases Option.some.inj h
      | false =>
        rw [hb, cond_false] at h
        refine ⟨h, fun q => ?_⟩
        rw [h] at hb
        simp [isL2, q.2] at hb
    · cases hb : isL2 L[i - 1]? with
      | true => rw [hb, cond_true, List.getElem?_set_ne (Ne.symm e2)] at h; exact ⟨h, fun q => e2 q.1⟩
      | false => rw [hb, cond_false] at h; exact ⟨h, fun q => e2 q.1⟩
theorem st1_len (L : List (Option Value)) (i : Nat) (v : Value) : (st1 L i v).length = L.length := by
  unfold st1; cases isL2 L[i - 1]? <;> simp
theorem loc_st1 {ad : Nat → Addr} {L : List (Option Value)} {A : Array Slot} (H : LocOK ad L A) {i : Nat} (hi : i < L.length) {v : Value} (hv : v.category = 1) :
    ∃ A', storeLocals A i (up ad v) = some A' ∧ LocOK ad (st1 L i v) A' := by
  obtain ⟨h1, h2, h3⟩ := H
  obtain ⟨A', q1, q2, q3, q4, q5⟩ := store_c1 h2 (by omega : i < A.size) ((up_cat ad v).trans hv)
  refine ⟨A', q1, by rw [q2, st1_len]; exact h1, q4, fun k u hu => ?_⟩
  rcases st1_get hu with ⟨rfl, rfl⟩ | ⟨e, hL, hn⟩
  · exact q3
  · have ha := h3 k u hL
    rcases q5 k e with q | ⟨q, q'⟩ | q
    · rw [q]; exact ha
    · obtain ⟨j, w, g1, g2, g3⟩ := h2.1 i q'
      have : j = k := by omega
      subst this
      rw [ha] at g2; cases g2
      rw [up_cat] at g3
      exact absurd ⟨by omega, g3⟩ hn
    · rw [ha] at q; cases q
theorem store_c2 {A : Array Slot} {i : Nat} {v : Value} (hw : WF A) (hi : i + 1 < A.size) (hv : v.category = 2) :
    ∃ A', storeLocals A i v = some A' ∧ A'.size = A.size ∧ A'[i]? = some (Slot.val v) ∧ A'[i + 1]? = some Slot.second ∧ WF A' ∧
      ∀ k, k ≠ i → k ≠ i + 1 → A'[k]? = A[k]? ∨ (k + 1 = i ∧ A[i]? = some .second) ∨ A[k]? = some .second := by
  -- first as if a word of one slot were stored, then the second half
  obtain ⟨B, b1, b2, b3, b4, b5⟩ := store_c1 (v := .int 0) hw (by omega : i < A.size) rfl
  have hB : ∀ w : Value, w.category = 2 → storeLocals A i w = storeSelf B i w := by
    intro w hw2
    have hi0 : i < A.size := by omega
    cases hc : A[i] with
    | second =>
      simp [storeLocals, storeSelf, setAt, hc, hi0, Value.category] at b1
      obtain ⟨j, u, rfl, hj, hu⟩ := hw.1 i (by rw [Array.getElem?_eq_getElem hi0, hc])
      have hj' : j < A.size := by omega
      simp [hj'] at b1
      obtain ⟨-, rfl⟩ := b1
      simp [storeLocals, storeSelf, setAt, hc, hi0, hj', hw2, Array.setIfInBounds_setIfInBounds]
    | unset =>
      simp [storeLocals, storeSelf, setAt, hc, hi0, Value.category] at b1
      subst b1
      simp [storeLocals, storeSelf, setAt, hc, hi0, hw2, Array.setIfInBounds_setIfInBounds]
    | val old =>
      rcases cat12 old with ho | ho
      · simp [storeLocals, storeSelf, setAt, hc, hi0, Value.category] at b1
        have : ¬ old.category = 2 := by omega
        simp only [Value.category] at this
        simp [this] at b1
        subst b1
        simp [storeLocals, storeSelf, setAt, hc, hi0, hw2, ho, Array.setIfInBounds_setIfInBounds]
      · have hs := hw.2 i old (by rw [Array.getElem?_eq_getElem hi0, hc]) ho
        simp [storeLocals, storeSelf, setAt, hc, hi0, ho, hi] at b1
        simp [Value.category] at b1
        subst b1
        simp [storeLocals, storeSelf, setAt, hc, hi0, hi, hw2, ho, Array.setIfInBounds_setIfInBounds]
  obtain ⟨w1, w2⟩ := b4
  have hiB : i < B.size := by omega
  have hiB' : i + 1 < B.size := by omega
  have hn : B[i + 1]? ≠ some .second := fun z => by
    obtain ⟨j, u, e, g1, g2⟩ := w1 _ z
    have : j = i := by omega
    subst this
    rw [b3] at g1; cases g1; simp [Value.category] at g2
  have hA1 : B[i + 1]? = some B[i + 1] := Array.getElem?_eq_getElem hiB'
  -- the array with both halves, and what else was cleared
  have key : ∀ C : Array Slot, C.size = B.size → C[i]? = some (.val v) → C[i + 1]? = some .second → (∀ k, k ≠ i → k ≠ i + 1 → C[k]? = B[k]? ∨ (C[k]? = some .unset ∧ B[k]? = some .second ∧ k = i + 2)) → (∀ u, B[i + 1]? = some (.val u) → u.category = 2 → C[i + 2]? = some .unset) →
      C.size = A.size ∧ C[i]? = some (.val v) ∧ C[i + 1]? = some .second ∧ WF C ∧ ∀ k, k ≠ i → k ≠ i + 1 → C[k]? = A[k]? ∨ (k + 1 = i ∧ A[i]? = some .second) ∨ A[k]? = some .second := by
    intro C c1 c2 c3 c4 c5
    refine ⟨by omega, c2, c3, ⟨fun k hk => ?_, fun k u hk hu => ?_⟩, fun k k1 k2 => ?_⟩
    · by_cases e1 : k = i
      · subst e1; rw [c2] at hk; cases hk
      · by_cases e2 : k = i + 1
        · exact ⟨i, v, e2, c2, hv⟩
        · rcases c4 k e1 e2 with q | ⟨q, -, -⟩
          · rw [q] at hk
            obtain ⟨j, u, rfl, g1, g2⟩ := w1 k hk
            have n1 : j ≠ i := fun z => by omega
            have n2 : j ≠ i + 1 := fun z => by
              subst z
              have := c5 u g1 g2
              rw [q, hk] at this; cases this
            rcases c4 j n1 n2 with q' | ⟨q', q'', -⟩
            · exact ⟨j, u, rfl, by rw [q']; exact g1, g2⟩
            · rw [g1] at q''; cases q''
          · rw [q] at hk; cases hk
    · by_cases e1 : k = i
      · subst e1; exact c3
      · by_cases e2 : k = i + 1
        · subst e2; rw [c3] at hk; cases hk
        · rcases c4 k e1 e2 with q | ⟨q, -, -⟩
          · rw [q] at hk
            have g := w2 k u hk hu
            have n1 : k + 1 ≠ i := fun z => by rw [z] at g; rw [b3] at g; cases g
            have n2 : k + 1 ≠ i + 1 := fun z => by omega
            rcases c4 (k + 1) n1 n2 with q' | ⟨-, -, q''⟩
            · rw [q']; exact g
            · omega
          · rw [q] at hk; cases hk
    · rcases c4 k k1 k2 with q | ⟨-, q, q'⟩
      · rcases b5 k k1 with z | z | z
        · exact Or.inl (q.trans z)
        · exact Or.inr (Or.inl z)
        · exact Or.inr (Or.inr z)
      · rcases b5 k k1 with z | z | z
        · exact Or.inr (Or.inr (z.symm.trans q))
        · exact Or.inr (Or.inl z)
        · exact Or.inr (Or.inr z)
  cases hc : B[i + 1] with
  | second => rw [hc] at hA1; exact absurd hA1 hn
  | unset =>
    rw [hc] at hA1
    refine ⟨(B.setIfInBounds i (.val v)).setIfInBounds (i + 1) .second, ?_, key _ (by simp) (by simp [hiB]) (by simp [hiB']) (fun k k1 k2 => Or.inl (by rw [Array.getElem?_setIfInBounds_ne (Ne.symm k2), Array.getElem?_setIfInBounds_ne (Ne.symm k1)])) (fun u hu => by rw [hA1] at hu; cases hu)⟩
    rw [hB v hv]; simp [storeSelf, setAt, hiB, hiB', hv, hc, Array.getElem_setIfInBounds]
  | val old =>
    rw [hc] at hA1
    rcases cat12 old with ho | ho
    · refine ⟨(B.setIfInBounds i (.val v)).setIfInBounds (i + 1) .second, ?_, key _ (by simp) (by simp [hiB]) (by simp [hiB']) (fun k k1 k2 => Or.inl (by rw [Array.getElem?_setIfInBounds_ne (Ne.symm k2), Array.getElem?_setIfInBounds_ne (Ne.symm k1)])) (fun u hu hu2 => by rw [hA1] at hu; cases hu; omega)⟩
      rw [hB v hv]; simp [storeSelf, setAt, hiB, hiB', hv, hc, ho, Array.getElem_setIfInBounds]
    · have hs := w2 _ old hA1 ho
      have hi2 : i + 2 < B.size := (Array.getElem?_eq_some_iff.mp hs).1
      refine ⟨((B.setIfInBounds i (.val v)).setIfInBounds (i + 2) .unset).setIfInBounds (i + 1) .second, ?_, key _ (by simp) ?_ (by simp [hiB']) (fun k k1 k2 => ?_) (fun u hu hu2 => ?_)⟩
      · rw [hB v hv]; simp [storeSelf, setAt, hiB, hiB', hi2, hv, hc, ho, Array.getElem_setIfInBounds]
      · rw [Array.getElem?_setIfInBounds_ne (by omega), Array.getElem?_setIfInBounds_ne (by omega)]; simp [hiB]
      · rw [Array.getElem?_setIfInBounds_ne (Ne.symm k2)]
        by_cases e : i + 2 = k
        · subst e; exact Or.inr ⟨by simp [hi2], hs, rfl⟩
        · rw [Array.getElem?_setIfInBounds_ne e, Array.getElem?_setIfInBounds_ne (Ne.symm k1)]; exact Or.inl rfl
      · rw [Array.getElem?_setIfInBounds_ne (by omega)]; simp [hi2]
theorem loc_st2 {ad : Nat → Addr} {L : List (Option Value)} {A : Array Slot} (H : LocOK ad L A) {i : Nat} (hi : i + 1 < L.length) {v : Value} (hv : v.category = 2) :
    ∃ A', storeLocals A i (up ad v) = some A' ∧ LocOK ad (st2 L i v) A' := by
  obtain ⟨h1, h2, h3⟩ := H
  obtain ⟨A', q1, q2, q3, q3', q4, q5⟩ := store_c2 h2 (by omega : i + 1 < A.size) ((up_cat ad v).trans hv)
  refine ⟨A', q1, by rw [q2]; unfold st2; rw [List.length_set, st1_len]; exact h1, q4, fun k u hu => ?_⟩
  unfold st2 at hu
  by_cases e2 : k = i + 1
  · subst e2
    rw [List.getElem?_set_self (by rw [st1_len]; omega)] at hu; cases Option.some.inj hu
  · rw [List.getElem?_set_ne (Ne.symm e2)] at hu
    rcases st1_get hu with ⟨rfl, rfl⟩ | ⟨e, hL, hn⟩
    · exact q3
    · have ha := h3 k u hL
      rcases q5 k e e2 with q | ⟨q, q'⟩ | q
      · rw [q]; exact ha
      · obtain ⟨j, w, g1, g2, g3⟩ := h2.1 i q'
        have : j = k := by omega
        subst this
        rw [ha] at g2; cases g2
        rw [up_cat] at g3
        exact absurd ⟨by omega, g3⟩ hn
      · rw [ha] at q; cases q
/-- fewer known variables -/
def Less (L' L : List (Option Value)) : Prop := L'.length = L.length ∧ ∀ (i : Nat) (v : Value), L'[i]? = some (some v) → L[i]? = some (some v)
def lessB : List (Option Value) → List (Option Value) → Prop
  | [], [] => True
  | a :: r, b :: q => (a = none ∨ a = b) ∧ lessB r q
  | _, _ => False
theorem ls {a : Option Value} {r q : List (Option Value)} (h : lessB r q) : lessB (a :: r) (a :: q) := ⟨Or.inr rfl, h⟩
theorem ln {b : Option Value} {r q : List (Option Value)} (h : lessB r q) : lessB (none :: r) (b :: q) := ⟨Or.inl rfl, h⟩
theorem l0 : lessB [] [] := trivial
theorem lessB.less : ∀ {L' L : List (Option Value)}, lessB L' L → Less L' L
  | [], [], _ => ⟨rfl, fun i v h => by simp at h⟩
  | a :: r, b :: q, h => by
    obtain ⟨h1, h2⟩ := lessB.less h.2
    refine ⟨by simp [h1], fun i v hv => ?_⟩
    cases i with
    | zero =>
      simp only [List.getElem?_cons_zero, Option.some.injEq] at hv ⊢
      rcases h.1 with e | e
      · rw [e] at hv; cases hv
      · rw [← e]; exact hv
    | succ i => simp only [List.getElem?_cons_succ] at hv ⊢; exact h2 i v hv
  | [], _ :: _, h => h.elim
  | _ :: _, [], h => h.elim
theorem LocOK.less {ad : Nat → Addr} {L L' : List (Option Value)} {A : Array Slot} (H : LocOK ad L A) (q : Less L' L) : LocOK ad L' A := ⟨by rw [q.1]; exact H.1, H.2.1, fun i v h => H.2.2 i v (q.2 i v h)⟩
/-! ### the entry frame -/
def ent1 (v : Value) : List (Option Value) := if v.category = 2 then [some v, none] else [some v]
def ent (vs : List Value) (ml : Nat) : List (Option Value) := let q := vs.flatMap ent1; q ++ List.replicate (ml - q.length) none
def entS1 (v : Value) : List Slot := if v.category = 2 then [.val v, .second] else [.val v]
theorem args_list (vs : List Value) : ∀ acc : Array Slot, (vs.foldl (fun acc v => if v.category = 2 then (acc.push (.val v)).push .second else acc.push (.val v)) acc).toList = acc.toList ++ vs.flatMap entS1 := by
  induction vs with
  | nil => intro acc; simp
  | cons v r ih =>
    intro acc
    rw [List.foldl_cons, ih, List.flatMap_cons]
    by_cases h : v.category = 2 <;> simp [h, entS1]
theorem wf_ent (vs : List Value) (n : Nat) : WF (vs.flatMap entS1 ++ List.replicate n Slot.unset).toArray := by
  suffices h : ∀ (q : List Slot), q = vs.flatMap entS1 ++ List.replicate n Slot.unset → (∀ i : Nat, q[i]? = some Slot.second → ∃ (j : Nat) (w : Value), i = j + 1 ∧ q[j]? = some (Slot.val w) ∧ w.category = 2) ∧ ∀ (i : Nat) (w : Value), q[i]? = some (Slot.val w) → w.category = 2 → q[i + 1]? = some Slot.second by
    have := h _ rfl
    simpa [WF] using this
  induction vs with
  | nil =>
    intro q hq
    subst hq
    refine ⟨fun i hi => ?_, fun i w hi => ?_⟩ <;> simp [List.getElem?_replicate] at hi
  | cons v r ih =>
    intro q hq
    obtain ⟨g1, g2⟩ := ih _ rfl
    subst hq
    by_cases h : v.category = 2
    · simp only [List.flatMap_cons, entS1, h, if_true, List.cons_append, List.nil_append]
      refine ⟨fun i hi => ?_, fun i w hi hw => ?_⟩
      · match i with
        | 0 => simp at hi
        | 1 => exact ⟨0, v, rfl, rfl, h⟩
        | i + 2 =>
          obtain ⟨j, w, e, e1, e2⟩ := g1 i (by simpa using hi)
          exact ⟨j + 2, w, by omega, by simpa using e1, e2⟩
      · match i with
        | 0 => rfl
        | 1 => simp at hi
        | i + 2 => simpa using g2 i w (by simpa using hi) hw
    · simp only [List.flatMap_cons, entS1, h, if_false, List.cons_append, List.nil_append]
      refine ⟨fun i hi => ?_, fun i w hi hw => ?_⟩
      · match i with
        | 0 => simp at hi
        | i + 1 =>
          obtain ⟨j, w, e, e1, e2⟩ := g1 i (by simpa using hi)
          exact ⟨j + 1, w, by omega, by simpa using e1, e2⟩
      · match i with
        | 0 => simp at hi; subst hi; exact absurd hw h
        | i + 1 => simpa using g2 i w (by simpa using hi) hw
theorem ent_get (ad : Nat → Addr) (vs : List Value) : ∀ (n : Nat) (i : Nat) (u : Value), (vs.flatMap ent1 ++ List.replicate n none)[i]? = some (some u) → ((vs.map (up ad)).flatMap entS1 ++ List.replicate n Slot.unset)[i]? = some (.val (up ad u)) := by
  induction vs with
  | nil => intro n i u h; simp [List.getElem?_replicate] at h
  | cons v r ih =>
    intro n i u h
    by_cases hc : v.category = 2
    · have hc' : (up ad v).category = 2 := (up_cat ad v).trans hc
      simp only [List.flatMap_cons, List.map_cons, ent1, entS1, hc, hc', if_true, List.cons_append, List.nil_append] at h ⊢
      match i with
      | 0 => simp at h ⊢; rw [h]
      | 1 => simp at h
      | i + 2 => simpa using ih n i u (by simpa using h)
    · have hc' : ¬ (up ad v).category = 2 := by rw [up_cat]; exact hc
      simp only [List.flatMap_cons, List.map_cons, ent1, entS1, hc, hc', if_false, List.cons_append, List.nil_append] at h ⊢
      match i with
      | 0 => simp at h ⊢; rw [h]
      | i + 1 => simpa using ih n i u (by simpa using h)
theorem ent_len (ad : Nat → Addr) (vs : List Value) : ((vs.map (up ad)).flatMap entS1).length = (vs.flatMap ent1).length := by
  induction vs with
  | nil => rfl
  | cons v r ih =>
    have := up_cat ad v
    by_cases hc : v.category = 2 <;> simp [ent1, entS1, hc, this, ih]
theorem loc_ent (ad : Nat → Addr) (vs : List Value) (ml : Nat) : LocOK ad (ent vs ml) (argsToLocals (vs.map (up ad)).toArray ml) := by
  have e : argsToLocals (vs.map (up ad)).toArray ml = ((vs.map (up ad)).flatMap entS1 ++ List.replicate (ml - (vs.flatMap ent1).length) Slot.unset).toArray := by
    have q := args_list (vs.map (up ad)) #[]
    simp only [List.nil_append] at q
    have q3 : ((vs.map (up ad)).toArray.foldl (fun acc v => if v.category = 2 then (acc.push (Slot.val v)).push Slot.second else acc.push (Slot.val v)) #[]) = ((vs.map (up ad)).flatMap entS1).toArray := by
      apply Array.ext'
      rw [List.foldl_toArray]; simpa using q
    unfold argsToLocals
    simp only [q3]
    rw [List.size_toArray, ent_len]
    simp
  rw [e]
  refine ⟨by simp only [ent, List.size_toArray, List.length_append, List.length_replicate, ent_len], wf_ent _ _, fun i u h => ?_⟩
  have := ent_get ad vs (ml - (vs.flatMap ent1).length) i u (by simpa [ent] using h)
  simpa using this
/-! ## small things -/
theorem ifs {α : Type} {c : Prop} [Decidable c] {a b r : α} (h : (if c then a else b) = r) : (c ∧ a = r) ∨ (¬ c ∧ b = r) := by
  by_cases q : c
  · exact Or.inl ⟨q, (if_pos q).symm.trans h⟩
  · exact Or.inr ⟨q, (if_neg q).symm.trans h⟩
theorem ifn {α : Type} {c : Prop} [Decidable c] {a : Option α} {r : α} (h : (if c then a else none) = some r) : c ∧ a = some r := by
  by_cases q : c
  · exact ⟨q, (if_pos q).symm.trans h⟩
  · cases (if_neg q).symm.trans h
theorem ifz {α : Type} {c : Prop} [Decidable c] {a : Option α} {r : α} (h : (if c then none else a) = some r) : ¬ c ∧ a = some r := by
  by_cases q : c
  · cases (if_pos q).symm.trans h
  · exact ⟨q, (if_neg q).symm.trans h⟩
theorem ble {a b : Nat} (h : Nat.ble a b = true) : a ≤ b := Nat.le_of_ble_eq_true h
theorem blt {a b : Nat} (h : Nat.blt a b = true) : a < b := Nat.le_of_ble_eq_true h
theorem cl_lt {x y : Int64} : XT.cmpL x y < 0 ↔ x < y := by
  unfold XT.cmpL; split <;> (try split) <;> simp_all [Int64.lt_iff_toInt_lt, ← Int64.toInt_inj] <;> omega
theorem cl_gt {x y : Int64} : 0 < XT.cmpL x y ↔ y < x := by
  unfold XT.cmpL; split <;> (try split) <;> simp_all [Int64.lt_iff_toInt_lt, ← Int64.toInt_inj] <;> omega
theorem cl_eq {x y : Int64} : XT.cmpL x y = 0 ↔ x = y := by
  unfold XT.cmpL; split <;> (try split) <;> simp_all [Int64.lt_iff_toInt_lt, ← Int64.toInt_inj] <;> omega
/-! ## 3. the machine -/
abbrev Cx (S : Type) : Type := Program × Launch × Env × Room × State × MethodId × Array Value × List Frame × Method × Code × (Nat → Addr) × (S → Heap → Prop) × (S → Nat × Nat) × Nat × Nat × Nat
/-- from here the run ends, returning r -/
def Go {S : Type} (X : Cx S) (r : Option Value × S) (pc : Nat) (L : List (Option Value)) (st : List Value) (x : S) : Prop :=
  match X with
  | (p, l, e, R, s, m, args, below, meth, c, ad, INV, CE, n0, kc, ks) =>
    ∀ (T : State) (locs : List Loc) (A : Array Slot), Stand p l e R s m args below meth c T locs (CE x).1 (CE x).2 → Fr n0 locs → INV x T.heap → LocOK ad L A →
      ∃ s₂, Steps p.tables e below (T.setTop (mkF m pc A (st.map (up ad)))) s₂ ∧ s₂.status = .running ∧ Ended s₂ below (.returned (r.1.map (up ad))) ∧ INV r.2 s₂.heap ∧
        ∃ L', Fr n0 L' ∧ s.WarmedH s₂.vm ∧ s.sameButNew ({ s₂ with vm := s.vm } : State) L' kc ks
def Ctx {S : Type} (X : Cx S) (Z : State) (own nm : String) (code : ByteArray) (ml : Nat) (ret : Option FieldType) : Prop :=
  match X with
  | (p, l, e, R, s, m, args, below, meth, c, ad, INV, CE, n0, kc, ks) =>
    p.tables.exec = Jvm.exec ∧ c.code = code ∧ c.maxLocals = ml ∧ s.vm.findClass own = some m.cls ∧ Z.Warmed39 s.vm ∧ meth.sig.returnType = ret ∧ meth.locks = false ∧ meth.name = nm
def hsz {S : Type} (X : Cx S) : Nat := X.2.2.2.2.1.heap.size
section Rules
variable {S : Type} {X : Cx S} {Z : State} {own nm : String} {code : ByteArray} {ml : Nat} {ret : Option FieldType} {r : Option Value × S} {pc : Nat} {L L' : List (Option Value)} {st : List Value} {x : S}
theorem g_iloadN (K : Ctx X Z own nm code ml ret) {k : Fin 4} {v : Int32} (hd : decode code pc = .ok (.iload_n k, 1)) (hl : L[k.val]? = some (some (.int v))) (h : Go X r (pc + 1) L (.int v :: st) x) : Go X r pc L (st) x := by
  obtain ⟨p, l, e, R, s, m, args, below, meth, c, ad, INV, CE, n0, kc, ks⟩ := X
  obtain ⟨hx, hby, -⟩ := K
  intro T locs A Y N I LO
  obtain ⟨s₂, h1, h2⟩ := h T locs A Y N I LO
  exact ⟨s₂, XS.iloadN Y.here hx rfl (hb hby hd) (LO.2.2 _ _ hl) h1, h2⟩
theorem g_iload (K : Ctx X Z own nm code ml ret) {k : Nat} {v : Int32} (hd : decode code pc = .ok (.iload k, 2)) (hl : L[k]? = some (some (.int v))) (h : Go X r (pc + 2) L (.int v :: st) x) : Go X r pc L (st) x := by
  obtain ⟨p, l, e, R, s, m, args, below, meth, c, ad, INV, CE, n0, kc, ks⟩ := X
  obtain ⟨hx, hby, -⟩ := K
  intro T locs A Y N I LO
  obtain ⟨s₂, h1, h2⟩ := h T locs A Y N I LO
  exact ⟨s₂, XS.iload Y.here hx rfl (hb hby hd) (LO.2.2 _ _ hl) h1, h2⟩
theorem g_aloadN (K : Ctx X Z own nm code ml ret) {k : Fin 4} {v : Nat} (hd : decode code pc = .ok (.aload_n k, 1)) (hl : L[k.val]? = some (some (.ref v))) (h : Go X r (pc + 1) L (.ref v :: st) x) : Go X r pc L (st) x := by
  obtain ⟨p, l, e, R, s, m, args, below, meth, c, ad, INV, CE, n0, kc, ks⟩ := X
  obtain ⟨hx, hby, -⟩ := K
  intro T locs A Y N I LO
  obtain ⟨s₂, h1, h2⟩ := h T locs A Y N I LO
  exact ⟨s₂, XS.aloadN Y.here hx rfl (hb hby hd) (LO.2.2 _ _ hl) rfl h1, h2⟩
theorem g_aload (K : Ctx X Z own nm code ml ret) {k : Nat} {v : Nat} (hd : decode code pc = .ok (.aload k, 2)) (hl : L[k]? = some (some (.ref v))) (h : Go X r (pc + 2) L (.ref v :: st) x) : Go X r pc L (st) x := by
  obtain ⟨p, l, e, R, s, m, args, below, meth, c, ad, INV, CE, n0, kc, ks⟩ := X
  obtain ⟨hx, hby, -⟩ := K
  intro T locs A Y N I LO
  obtain ⟨s₂, h1, h2⟩ := h T locs A Y N I LO
  exact ⟨s₂, XS.aload Y.here hx rfl (hb hby hd) (LO.2.2 _ _ hl) rfl h1, h2⟩
theorem g_lloadN (K : Ctx X Z own nm code ml ret) {k : Fin 4} {v : Int64} (hd : decode code pc = .ok (.lload_n k, 1)) (hl : L[k.val]? = some (some (.long v))) (h : Go X r (pc + 1) L (.long v :: st) x) : Go X r pc L (st) x := by
  obtain ⟨p, l, e, R, s, m, args, below, meth, c, ad, INV, CE, n0, kc, ks⟩ := X
  obtain ⟨hx, hby, -⟩ := K
  intro T locs A Y N I LO
  obtain ⟨s₂, h1, h2⟩ := h T locs A Y N I LO
  exact ⟨s₂, XT.lloadN Y.here hx rfl (hb hby hd) (LO.2.2 _ _ hl) h1, h2⟩
theorem g_lload (K : Ctx X Z own nm code ml ret) {k : Nat} {v : Int64} (hd : decode code pc = .ok (.lload k, 2)) (hl : L[k]? = some (some (.long v))) (h : Go X r (pc + 2) L (.long v :: st) x) : Go X r pc L (st) x := by
  obtain ⟨p, l, e, R, s, m, args, below, meth, c, ad, INV, CE, n0, kc, ks⟩ := X
  obtain ⟨hx, hby, -⟩ := K
  intro T locs A Y N I LO
  obtain ⟨s₂, h1, h2⟩ := h T locs A Y N I LO
  exact ⟨s₂, XT.lload Y.here hx rfl (hb hby hd) (LO.2.2 _ _ hl) h1, h2⟩
theorem g_iconst (K : Ctx X Z own nm code ml ret) {i : Int} {v : Int32} (hd : decode code pc = .ok (.iconst i, 1)) (hv : Int32.ofInt i = v) (h : Go X r (pc + 1) L (.int v :: st) x) : Go X r pc L (st) x := by
  obtain ⟨p, l, e, R, s, m, args, below, meth, c, ad, INV, CE, n0, kc, ks⟩ := X
  obtain ⟨hx, hby, -⟩ := K
  intro T locs A Y N I LO
  subst hv
  have LO₁ := LO
  have ⟨A₁, hA₁⟩ : ∃ A₁, A₁ = A := ⟨_, rfl⟩
  subst hA₁
  obtain ⟨s₂, h1, h2⟩ := h T locs A₁ Y N I LO₁
  exact ⟨s₂, XS.iconst Y.here hx rfl (hb hby hd) h1, h2⟩
theorem g_bipush (K : Ctx X Z own nm code ml ret) {i : Int} {v : Int32} (hd : decode code pc = .ok (.bipush i, 2)) (hv : (Int8.ofInt i).toInt32 = v) (h : Go X r (pc + 2) L (.int v :: st) x) : Go X r pc L (st) x := by
  obtain ⟨p, l, e, R, s, m, args, below, meth, c, ad, INV, CE, n0, kc, ks⟩ := X
  obtain ⟨hx, hby, -⟩ := K
  intro T locs A Y N I LO
  subst hv
  have LO₁ := LO
  have ⟨A₁, hA₁⟩ : ∃ A₁, A₁ = A := ⟨_, rfl⟩
  subst hA₁
  obtain ⟨s₂, h1, h2⟩ := h T locs A₁ Y N I LO₁
  exact ⟨s₂, XS.bipush Y.here hx rfl (hb hby hd) h1, h2⟩
theorem g_sipush (K : Ctx X Z own nm code ml ret) {i : Int} {v : Int32} (hd : decode code pc = .ok (.sipush i, 3)) (hv : (Int16.ofInt i).toInt32 = v) (h : Go X r (pc + 3) L (.int v :: st) x) : Go X r pc L (st) x := by
  obtain ⟨p, l, e, R, s, m, args, below, meth, c, ad, INV, CE, n0, kc, ks⟩ := X
  obtain ⟨hx, hby, -⟩ := K
  intro T locs A Y N I LO
  subst hv
  have LO₁ := LO
  have ⟨A₁, hA₁⟩ : ∃ A₁, A₁ = A := ⟨_, rfl⟩
  subst hA₁
  obtain ⟨s₂, h1, h2⟩ := h T locs A₁ Y N I LO₁
  exact ⟨s₂, XS.sipush Y.here hx rfl (hb hby hd) h1, h2⟩
theorem g_lconst (K : Ctx X Z own nm code ml ret) {k : Fin 2} {v : Int64} (hd : decode code pc = .ok (.lconst k, 1)) (hv : Int64.ofNat k = v) (h : Go X r (pc + 1) L (.long v :: st) x) : Go X r pc L (st) x := by
  obtain ⟨p, l, e, R, s, m, args, below, meth, c, ad, INV, CE, n0, kc, ks⟩ := X
  obtain ⟨hx, hby, -⟩ := K
  intro T locs A Y N I LO
  subst hv
  have LO₁ := LO
  have ⟨A₁, hA₁⟩ : ∃ A₁, A₁ = A := ⟨_, rfl⟩
  subst hA₁
  obtain ⟨s₂, h1, h2⟩ := h T locs A₁ Y N I LO₁
  exact ⟨s₂, XT.lconst Y.here hx rfl (hb hby hd) h1, h2⟩
theorem g_iadd (K : Ctx X Z own nm code ml ret) {v w : Int32} (hd : decode code pc = .ok (.iadd, 1)) (h : Go X r (pc + 1) L (.int (v + w) :: st) x) : Go X r pc L (.int w :: .int v :: st) x := by
  obtain ⟨p, l, e, R, s, m, args, below, meth, c, ad, INV, CE, n0, kc, ks⟩ := X
  obtain ⟨hx, hby, -⟩ := K
  intro T locs A Y N I LO
  obtain ⟨s₂, h1, h2⟩ := h T locs A Y N I LO
  exact ⟨s₂, XS.iadd Y.here hx rfl (hb hby hd) rfl h1, h2⟩
theorem g_isub (K : Ctx X Z own nm code ml ret) {v w : Int32} (hd : decode code pc = .ok (.isub, 1)) (h : Go X r (pc + 1) L (.int (v - w) :: st) x) : Go X r pc L (.int w :: .int v :: st) x := by
  obtain ⟨p, l, e, R, s, m, args, below, meth, c, ad, INV, CE, n0, kc, ks⟩ := X
  obtain ⟨hx, hby, -⟩ := K
  intro T locs A Y N I LO
  obtain ⟨s₂, h1, h2⟩ := h T locs A Y N I LO
  exact ⟨s₂, XS.isub Y.here hx rfl (hb hby hd) rfl h1, h2⟩
theorem g_imul (K : Ctx X Z own nm code ml ret) {v w : Int32} (hd : decode code pc = .ok (.imul, 1)) (h : Go X r (pc + 1) L (.int (v * w) :: st) x) : Go X r pc L (.int w :: .int v :: st) x := by
  obtain ⟨p, l, e, R, s, m, args, below, meth, c, ad, INV, CE, n0, kc, ks⟩ := X
  obtain ⟨hx, hby, -⟩ := K
  intro T locs A Y N I LO
  obtain ⟨s₂, h1, h2⟩ := h T locs A Y N I LO
  exact ⟨s₂, XS.imul Y.here hx rfl (hb hby hd) rfl h1, h2⟩
theorem g_iand (K : Ctx X Z own nm code ml ret) {v w : Int32} (hd : decode code pc = .ok (.iand, 1)) (h : Go X r (pc + 1) L (.int (v &&& w) :: st) x) : Go X r pc L (.int w :: .int v :: st) x := by
  obtain ⟨p, l, e, R, s, m, args, below, meth, c, ad, INV, CE, n0, kc, ks⟩ := X
  obtain ⟨hx, hby, -⟩ := K
  intro T locs A Y N I LO
  obtain ⟨s₂, h1, h2⟩ := h T locs A Y N I LO
  exact ⟨s₂, XS.iand Y.here hx rfl (hb hby hd) rfl h1, h2⟩
theorem g_ior (K : Ctx X Z own nm code ml ret) {v w : Int32} (hd : decode code pc = .ok (.ior, 1)) (h : Go X r (pc + 1) L (.int (v ||| w) :: st) x) : Go X r pc L (.int w :: .int v :: st) x := by
  obtain ⟨p, l, e, R, s, m, args, below, meth, c, ad, INV, CE, n0, kc, ks⟩ := X
  obtain ⟨hx, hby, -⟩ := K
  intro T locs A Y N I LO
  obtain ⟨s₂, h1, h2⟩ := h T locs A Y N I LO
  exact ⟨s₂, XT.ior Y.here hx rfl (hb hby hd) rfl h1, h2⟩
theorem g_ixor (K : Ctx X Z own nm code ml ret) {v w : Int32} (hd : decode code pc = .ok (.ixor, 1)) (h : Go X r (pc + 1) L (.int (v ^^^ w) :: st) x) : Go X r pc L (.int w :: .int v :: st) x := by
  obtain ⟨p, l, e, R, s, m, args, below, meth, c, ad, INV, CE, n0, kc, ks⟩ := X
  obtain ⟨hx, hby, -⟩ := K
  intro T locs A Y N I LO
  obtain ⟨s₂, h1, h2⟩ := h T locs A Y N I LO
  exact ⟨s₂, XT.ixor Y.here hx rfl (hb hby hd) rfl h1, h2⟩
theorem g_ishl (K : Ctx X Z own nm code ml ret) {v w : Int32} (hd : decode code pc = .ok (.ishl, 1)) (h : Go X r (pc + 1) L (.int (v <<< (w &&& 31)) :: st) x) : Go X r pc L (.int w :: .int v :: st) x := by
  obtain ⟨p, l, e, R, s, m, args, below, meth, c, ad, INV, CE, n0, kc, ks⟩ := X
  obtain ⟨hx, hby, -⟩ := K
  intro T locs A Y N I LO
  obtain ⟨s₂, h1, h2⟩ := h T locs A Y N I LO
  exact ⟨s₂, XT.ishl Y.here hx rfl (hb hby hd) rfl h1, h2⟩
theorem g_ishr (K : Ctx X Z own nm code ml ret) {v w : Int32} (hd : decode code pc = .ok (.ishr, 1)) (h : Go X r (pc + 1) L (.int (v >>> (w &&& 31)) :: st) x) : Go X r pc L (.int w :: .int v :: st) x := by
  obtain ⟨p, l, e, R, s, m, args, below, meth, c, ad, INV, CE, n0, kc, ks⟩ := X
  obtain ⟨hx, hby, -⟩ := K
  intro T locs A Y N I LO
  obtain ⟨s₂, h1, h2⟩ := h T locs A Y N I LO
  exact ⟨s₂, XT.ishr Y.here hx rfl (hb hby hd) rfl h1, h2⟩
theorem g_iushr (K : Ctx X Z own nm code ml ret) {v w : Int32} (hd : decode code pc = .ok (.iushr, 1)) (h : Go X r (pc + 1) L (.int (XT.ushr v w) :: st) x) : Go X r pc L (.int w :: .int v :: st) x := by
  obtain ⟨p, l, e, R, s, m, args, below, meth, c, ad, INV, CE, n0, kc, ks⟩ := X
  obtain ⟨hx, hby, -⟩ := K
  intro T locs A Y N I LO
  obtain ⟨s₂, h1, h2⟩ := h T locs A Y N I LO
  exact ⟨s₂, XT.iushr Y.here hx rfl (hb hby hd) rfl h1, h2⟩
theorem g_idiv (K : Ctx X Z own nm code ml ret) {v w : Int32} (hd : decode code pc = .ok (.idiv, 1)) (hw : w ≠ 0) (h : Go X r (pc + 1) L (.int (v / w) :: st) x) : Go X r pc L (.int w :: .int v :: st) x := by
  obtain ⟨p, l, e, R, s, m, args, below, meth, c, ad, INV, CE, n0, kc, ks⟩ := X
  obtain ⟨hx, hby, -⟩ := K
  intro T locs A Y N I LO
  obtain ⟨s₂, h1, h2⟩ := h T locs A Y N I LO
  exact ⟨s₂, XS.idiv Y.here hx rfl (hb hby hd) rfl hw h1, h2⟩
theorem g_irem (K : Ctx X Z own nm code ml ret) {v w : Int32} (hd : decode code pc = .ok (.irem, 1)) (hw : w ≠ 0) (h : Go X r (pc + 1) L (.int (v % w) :: st) x) : Go X r pc L (.int w :: .int v :: st) x := by
  obtain ⟨p, l, e, R, s, m, args, below, meth, c, ad, INV, CE, n0, kc, ks⟩ := X
  obtain ⟨hx, hby, -⟩ := K
  intro T locs A Y N I LO
  obtain ⟨s₂, h1, h2⟩ := h T locs A Y N I LO
  exact ⟨s₂, iremM Y hx rfl (hb hby hd) rfl hw h1, h2⟩
theorem g_ineg (K : Ctx X Z own nm code ml ret) {v : Int32} (hd : decode code pc = .ok (.ineg, 1)) (h : Go X r (pc + 1) L (.int (-v) :: st) x) : Go X r pc L (.int v :: st) x := by
  obtain ⟨p, l, e, R, s, m, args, below, meth, c, ad, INV, CE, n0, kc, ks⟩ := X
  obtain ⟨hx, hby, -⟩ := K
  intro T locs A Y N I LO
  obtain ⟨s₂, h1, h2⟩ := h T locs A Y N I LO
  exact ⟨s₂, XS.ineg Y.here hx rfl (hb hby hd) rfl h1, h2⟩
theorem g_ladd (K : Ctx X Z own nm code ml ret) {v w : Int64} (hd : decode code pc = .ok (.ladd, 1)) (h : Go X r (pc + 1) L (.long (v + w) :: st) x) : Go X r pc L (.long w :: .long v :: st) x := by
  obtain ⟨p, l, e, R, s, m, args, below, meth, c, ad, INV, CE, n0, kc, ks⟩ := X
  obtain ⟨hx, hby, -⟩ := K
  intro T locs A Y N I LO
  obtain ⟨s₂, h1, h2⟩ := h T locs A Y N I LO
  exact ⟨s₂, XT.ladd Y.here hx rfl (hb hby hd) rfl h1, h2⟩
theorem g_lsub (K : Ctx X Z own nm code ml ret) {v w : Int64} (hd : decode code pc = .ok (.lsub, 1)) (h : Go X r (pc + 1) L (.long (v - w) :: st) x) : Go X r pc L (.long w :: .long v :: st) x := by
  obtain ⟨p, l, e, R, s, m, args, below, meth, c, ad, INV, CE, n0, kc, ks⟩ := X
  obtain ⟨hx, hby, -⟩ := K
  intro T locs A Y N I LO
  obtain ⟨s₂, h1, h2⟩ := h T locs A Y N I LO
  exact ⟨s₂, XT.lsub Y.here hx rfl (hb hby hd) rfl h1, h2⟩
theorem g_lmul (K : Ctx X Z own nm code ml ret) {v w : Int64} (hd : decode code pc = .ok (.lmul, 1)) (h : Go X r (pc + 1) L (.long (v * w) :: st) x) : Go X r pc L (.long w :: .long v :: st) x := by
  obtain ⟨p, l, e, R, s, m, args, below, meth, c, ad, INV, CE, n0, kc, ks⟩ := X
  obtain ⟨hx, hby, -⟩ := K
  intro T locs A Y N I LO
  obtain ⟨s₂, h1, h2⟩ := h T locs A Y N I LO
  exact ⟨s₂, XT.lmul Y.here hx rfl (hb hby hd) rfl h1, h2⟩
theorem g_land (K : Ctx X Z own nm code ml ret) {v w : Int64} (hd : decode code pc = .ok (.land, 1)) (h : Go X r (pc + 1) L (.long (v &&& w) :: st) x) : Go X r pc L (.long w :: .long v :: st) x := by
  obtain ⟨p, l, e, R, s, m, args, below, meth, c, ad, INV, CE, n0, kc, ks⟩ := X
  obtain ⟨hx, hby, -⟩ := K
  intro T locs A Y N I LO
  obtain ⟨s₂, h1, h2⟩ := h T locs A Y N I LO
  exact ⟨s₂, XT.land Y.here hx rfl (hb hby hd) rfl h1, h2⟩
theorem g_lor (K : Ctx X Z own nm code ml ret) {v w : Int64} (hd : decode code pc = .ok (.lor, 1)) (h : Go X r (pc + 1) L (.long (v ||| w) :: st) x) : Go X r pc L (.long w :: .long v :: st) x := by
  obtain ⟨p, l, e, R, s, m, args, below, meth, c, ad, INV, CE, n0, kc, ks⟩ := X
  obtain ⟨hx, hby, -⟩ := K
  intro T locs A Y N I LO
  obtain ⟨s₂, h1, h2⟩ := h T locs A Y N I LO
  exact ⟨s₂, XT.lor Y.here hx rfl (hb hby hd) rfl h1, h2⟩
theorem g_lxor (K : Ctx X Z own nm code ml ret) {v w : Int64} (hd : decode code pc = .ok (.lxor, 1)) (h : Go X r (pc + 1) L (.long (v ^^^ w) :: st) x) : Go X r pc L (.long w :: .long v :: st) x := by
  obtain ⟨p, l, e, R, s, m, args, below, meth, c, ad, INV, CE, n0, kc, ks⟩ := X
  obtain ⟨hx, hby, -⟩ := K
  intro T locs A Y N I LO
  obtain ⟨s₂, h1, h2⟩ := h T locs A Y N I LO
  exact ⟨s₂, XT.lxor Y.here hx rfl (hb hby hd) rfl h1, h2⟩
theorem g_lshl (K : Ctx X Z own nm code ml ret) {v : Int64} {w : Int32} (hd : decode code pc = .ok (.lshl, 1)) (h : Go X r (pc + 1) L (.long (v <<< (w.toInt64 &&& 63)) :: st) x) : Go X r pc L (.int w :: .long v :: st) x := by
  obtain ⟨p, l, e, R, s, m, args, below, meth, c, ad, INV, CE, n0, kc, ks⟩ := X
  obtain ⟨hx, hby, -⟩ := K
  intro T locs A Y N I LO
  obtain ⟨s₂, h1, h2⟩ := h T locs A Y N I LO
  exact ⟨s₂, XT.lshl Y.here hx rfl (hb hby hd) rfl h1, h2⟩
theorem g_lshr (K : Ctx X Z own nm code ml ret) {v : Int64} {w : Int32} (hd : decode code pc = .ok (.lshr, 1)) (h : Go X r (pc + 1) L (.long (v >>> (w.toInt64 &&& 63)) :: st) x) : Go X r pc L (.int w :: .long v :: st) x := by
  obtain ⟨p, l, e, R, s, m, args, below, meth, c, ad, INV, CE, n0, kc, ks⟩ := X
  obtain ⟨hx, hby, -⟩ := K
  intro T locs A Y N I LO
  obtain ⟨s₂, h1, h2⟩ := h T locs A Y N I LO
  exact ⟨s₂, XT.lshr Y.here hx rfl (hb hby hd) rfl h1, h2⟩
theorem g_lushr (K : Ctx X Z own nm code ml ret) {v : Int64} {w : Int32} (hd : decode code pc = .ok (.lushr, 1)) (h : Go X r (pc + 1) L (.long (XT.ushrL v w) :: st) x) : Go X r pc L (.int w :: .long v :: st) x := by
  obtain ⟨p, l, e, R, s, m, args, below, meth, c, ad, INV, CE, n0, kc, ks⟩ := X
  obtain ⟨hx, hby, -⟩ := K
  intro T locs A Y N I LO
  obtain ⟨s₂, h1, h2⟩ := h T locs A Y N I LO
  exact ⟨s₂, XT.lushr Y.here hx rfl (hb hby hd) rfl h1, h2⟩
theorem g_ldiv (K : Ctx X Z own nm code ml ret) {v w : Int64} (hd : decode code pc = .ok (.ldiv, 1)) (hw : w ≠ 0) (h : Go X r (pc + 1) L (.long (v / w) :: st) x) : Go X r pc L (.long w :: .long v :: st) x := by
  obtain ⟨p, l, e, R, s, m, args, below, meth, c, ad, INV, CE, n0, kc, ks⟩ := X
  obtain ⟨hx, hby, -⟩ := K
  intro T locs A Y N I LO
  obtain ⟨s₂, h1, h2⟩ := h T locs A Y N I LO
  exact ⟨s₂, XT.ldiv Y.here hx rfl (hb hby hd) rfl hw h1, h2⟩
theorem g_lrem (K : Ctx X Z own nm code ml ret) {v w : Int64} (hd : decode code pc = .ok (.lrem, 1)) (hw : w ≠ 0) (h : Go X r (pc + 1) L (.long (v % w) :: st) x) : Go X r pc L (.long w :: .long v :: st) x := by
  obtain ⟨p, l, e, R, s, m, args, below, meth, c, ad, INV, CE, n0, kc, ks⟩ := X
  obtain ⟨hx, hby, -⟩ := K
  intro T locs A Y N I LO
  obtain ⟨s₂, h1, h2⟩ := h T locs A Y N I LO
  exact ⟨s₂, XT.lrem Y.here hx rfl (hb hby hd) rfl hw (lrem_mod v w ▸ h1), h2⟩
theorem g_lneg (K : Ctx X Z own nm code ml ret) {v : Int64} (hd : decode code pc = .ok (.lneg, 1)) (h : Go X r (pc + 1) L (.long (-v) :: st) x) : Go X r pc L (.long v :: st) x := by
  obtain ⟨p, l, e, R, s, m, args, below, meth, c, ad, INV, CE, n0, kc, ks⟩ := X
  obtain ⟨hx, hby, -⟩ := K
  intro T locs A Y N I LO
  obtain ⟨s₂, h1, h2⟩ := h T locs A Y N I LO
  exact ⟨s₂, XT.lneg Y.here hx rfl (hb hby hd) rfl h1, h2⟩
theorem g_i2l (K : Ctx X Z own nm code ml ret) {v : Int32} (hd : decode code pc = .ok (.i2l, 1)) (h : Go X r (pc + 1) L (.long v.toInt64 :: st) x) : Go X r pc L (.int v :: st) x := by
  obtain ⟨p, l, e, R, s, m, args, below, meth, c, ad, INV, CE, n0, kc, ks⟩ := X
  obtain ⟨hx, hby, -⟩ := K
  intro T locs A Y N I LO
  obtain ⟨s₂, h1, h2⟩ := h T locs A Y N I LO
  exact ⟨s₂, XT.i2l Y.here hx rfl (hb hby hd) rfl h1, h2⟩
theorem g_l2i (K : Ctx X Z own nm code ml ret) {v : Int64} (hd : decode code pc = .ok (.l2i, 1)) (h : Go X r (pc + 1) L (.int v.toInt32 :: st) x) : Go X r pc L (.long v :: st) x := by
  obtain ⟨p, l, e, R, s, m, args, below, meth, c, ad, INV, CE, n0, kc, ks⟩ := X
  obtain ⟨hx, hby, -⟩ := K
  intro T locs A Y N I LO
  obtain ⟨s₂, h1, h2⟩ := h T locs A Y N I LO
  exact ⟨s₂, XT.l2i Y.here hx rfl (hb hby hd) rfl h1, h2⟩
theorem g_i2b (K : Ctx X Z own nm code ml ret) {v : Int32} (hd : decode code pc = .ok (.i2b, 1)) (h : Go X r (pc + 1) L (.int (nar .byte v) :: st) x) : Go X r pc L (.int v :: st) x := by
  obtain ⟨p, l, e, R, s, m, args, below, meth, c, ad, INV, CE, n0, kc, ks⟩ := X
  obtain ⟨hx, hby, -⟩ := K
  intro T locs A Y N I LO
  obtain ⟨s₂, h1, h2⟩ := h T locs A Y N I LO
  exact ⟨s₂, XT.i2b Y.here hx rfl (hb hby hd) rfl h1, h2⟩
theorem g_i2c (K : Ctx X Z own nm code ml ret) {v : Int32} (hd : decode code pc = .ok (.i2c, 1)) (h : Go X r (pc + 1) L (.int (nar .char v) :: st) x) : Go X r pc L (.int v :: st) x := by
  obtain ⟨p, l, e, R, s, m, args, below, meth, c, ad, INV, CE, n0, kc, ks⟩ := X
  obtain ⟨hx, hby, -⟩ := K
  intro T locs A Y N I LO
  obtain ⟨s₂, h1, h2⟩ := h T locs A Y N I LO
  exact ⟨s₂, XT.i2c Y.here hx rfl (hb hby hd) rfl h1, h2⟩
theorem g_lcmp (K : Ctx X Z own nm code ml ret) {v w : Int64} (hd : decode code pc = .ok (.lcmp, 1)) (h : Go X r (pc + 1) L (.int (XT.cmpL v w) :: st) x) : Go X r pc L (.long w :: .long v :: st) x := by
  obtain ⟨p, l, e, R, s, m, args, below, meth, c, ad, INV, CE, n0, kc, ks⟩ := X
  obtain ⟨hx, hby, -⟩ := K
  intro T locs A Y N I LO
  obtain ⟨s₂, h1, h2⟩ := h T locs A Y N I LO
  exact ⟨s₂, XT.lcmp Y.here hx rfl (hb hby hd) rfl h1, h2⟩
theorem g_pop (K : Ctx X Z own nm code ml ret) {v : Value} (hd : decode code pc = .ok (.pop, 1)) (hc : v.category = 1) (h : Go X r (pc + 1) L (st) x) : Go X r pc L (v :: st) x := by
  obtain ⟨p, l, e, R, s, m, args, below, meth, c, ad, INV, CE, n0, kc, ks⟩ := X
  obtain ⟨hx, hby, -⟩ := K
  intro T locs A Y N I LO
  obtain ⟨s₂, h1, h2⟩ := h T locs A Y N I LO
  exact ⟨s₂, XT.pop Y.here hx rfl (hb hby hd) rfl ((up_cat _ _).trans hc) h1, h2⟩
theorem g_dup (K : Ctx X Z own nm code ml ret) {v : Value} (hd : decode code pc = .ok (.dup, 1)) (hc : v.category = 1) (h : Go X r (pc + 1) L (v :: v :: st) x) : Go X r pc L (v :: st) x := by
  obtain ⟨p, l, e, R, s, m, args, below, meth, c, ad, INV, CE, n0, kc, ks⟩ := X
  obtain ⟨hx, hby, -⟩ := K
  intro T locs A Y N I LO
  obtain ⟨s₂, h1, h2⟩ := h T locs A Y N I LO
  exact ⟨s₂, XS.dup Y.here hx rfl (hb hby hd) rfl ((up_cat _ _).trans hc) h1, h2⟩
theorem g_dup2 (K : Ctx X Z own nm code ml ret) {v w : Value} (hd : decode code pc = .ok (.dup2, 1)) (hc : v.category = 1) (hc' : w.category = 1) (h : Go X r (pc + 1) L (v :: w :: v :: w :: st) x) : Go X r pc L (v :: w :: st) x := by
  obtain ⟨p, l, e, R, s, m, args, below, meth, c, ad, INV, CE, n0, kc, ks⟩ := X
  obtain ⟨hx, hby, -⟩ := K
  intro T locs A Y N I LO
  obtain ⟨s₂, h1, h2⟩ := h T locs A Y N I LO
  exact ⟨s₂, XT.dup2 Y.here hx rfl (hb hby hd) rfl ((up_cat _ _).trans hc) ((up_cat _ _).trans hc') h1, h2⟩
theorem g_istoreN (K : Ctx X Z own nm code ml ret) {k : Fin 4} {v : Int32} (hd : decode code pc = .ok (.istore_n k, 1)) (hk : k.val < L.length) (hL : st1 L k.val (.int v) = L') (h : Go X r (pc + 1) L' (st) x) : Go X r pc L (.int v :: st) x := by
  obtain ⟨p, l, e, R, s, m, args, below, meth, c, ad, INV, CE, n0, kc, ks⟩ := X
  obtain ⟨hx, hby, -⟩ := K
  intro T locs A Y N I LO
  subst hL
  obtain ⟨A₁, hA₁, LO₁⟩ := loc_st1 LO hk (v := .int v) rfl
  obtain ⟨s₂, h1, h2⟩ := h T locs A₁ Y N I LO₁
  exact ⟨s₂, XS.istoreN Y.here hx rfl (hb hby hd) rfl hA₁ h1, h2⟩
theorem g_istore (K : Ctx X Z own nm code ml ret) {k : Nat} {v : Int32} (hd : decode code pc = .ok (.istore k, 2)) (hk : k < L.length) (hL : st1 L k (.int v) = L') (h : Go X r (pc + 2) L' (st) x) : Go X r pc L (.int v :: st) x := by
  obtain ⟨p, l, e, R, s, m, args, below, meth, c, ad, INV, CE, n0, kc, ks⟩ := X
  obtain ⟨hx, hby, -⟩ := K
  intro T locs A Y N I LO
  subst hL
  obtain ⟨A₁, hA₁, LO₁⟩ := loc_st1 LO hk (v := .int v) rfl
  obtain ⟨s₂, h1, h2⟩ := h T locs A₁ Y N I LO₁
  exact ⟨s₂, XS.istore Y.here hx rfl (hb hby hd) rfl hA₁ h1, h2⟩
theorem g_astoreN (K : Ctx X Z own nm code ml ret) {k : Fin 4} {v : Nat} (hd : decode code pc = .ok (.astore_n k, 1)) (hk : k.val < L.length) (hL : st1 L k.val (.ref v) = L') (h : Go X r (pc + 1) L' (st) x) : Go X r pc L (.ref v :: st) x := by
  obtain ⟨p, l, e, R, s, m, args, below, meth, c, ad, INV, CE, n0, kc, ks⟩ := X
  obtain ⟨hx, hby, -⟩ := K
  intro T locs A Y N I LO
  subst hL
  obtain ⟨A₁, hA₁, LO₁⟩ := loc_st1 LO hk (v := .ref v) rfl
  obtain ⟨s₂, h1, h2⟩ := h T locs A₁ Y N I LO₁
  exact ⟨s₂, XS.astoreN Y.here hx rfl (hb hby hd) rfl rfl hA₁ h1, h2⟩
theorem g_astore (K : Ctx X Z own nm code ml ret) {k : Nat} {v : Nat} (hd : decode code pc = .ok (.astore k, 2)) (hk : k < L.length) (hL : st1 L k (.ref v) = L') (h : Go X r (pc + 2) L' (st) x) : Go X r pc L (.ref v :: st) x := by
  obtain ⟨p, l, e, R, s, m, args, below, meth, c, ad, INV, CE, n0, kc, ks⟩ := X
  obtain ⟨hx, hby, -⟩ := K
  intro T locs A Y N I LO
  subst hL
  obtain ⟨A₁, hA₁, LO₁⟩ := loc_st1 LO hk (v := .ref v) rfl
  obtain ⟨s₂, h1, h2⟩ := h T locs A₁ Y N I LO₁
  exact ⟨s₂, XS.astore Y.here hx rfl (hb hby hd) rfl rfl hA₁ h1, h2⟩
theorem g_lstoreN (K : Ctx X Z own nm code ml ret) {k : Fin 4} {v : Int64} (hd : decode code pc = .ok (.lstore_n k, 1)) (hk : k.val + 1 < L.length) (hL : st2 L k.val (.long v) = L') (h : Go X r (pc + 1) L' (st) x) : Go X r pc L (.long v :: st) x := by
  obtain ⟨p, l, e, R, s, m, args, below, meth, c, ad, INV, CE, n0, kc, ks⟩ := X
  obtain ⟨hx, hby, -⟩ := K
  intro T locs A Y N I LO
  subst hL
  obtain ⟨A₁, hA₁, LO₁⟩ := loc_st2 LO hk (v := .long v) rfl
  obtain ⟨s₂, h1, h2⟩ := h T locs A₁ Y N I LO₁
  exact ⟨s₂, XT.lstoreN Y.here hx rfl (hb hby hd) rfl hA₁ h1, h2⟩
theorem g_lstore (K : Ctx X Z own nm code ml ret) {k : Nat} {v : Int64} (hd : decode code pc = .ok (.lstore k, 2)) (hk : k + 1 < L.length) (hL : st2 L k (.long v) = L') (h : Go X r (pc + 2) L' (st) x) : Go X r pc L (.long v :: st) x := by
  obtain ⟨p, l, e, R, s, m, args, below, meth, c, ad, INV, CE, n0, kc, ks⟩ := X
  obtain ⟨hx, hby, -⟩ := K
  intro T locs A Y N I LO
  subst hL
  obtain ⟨A₁, hA₁, LO₁⟩ := loc_st2 LO hk (v := .long v) rfl
  obtain ⟨s₂, h1, h2⟩ := h T locs A₁ Y N I LO₁
  exact ⟨s₂, XT.lstore Y.here hx rfl (hb hby hd) rfl hA₁ h1, h2⟩
theorem g_iinc (K : Ctx X Z own nm code ml ret) {k : Nat} {i : Int} {v w : Int32} (hd : decode code pc = .ok (.iinc k i, 3)) (hl : L[k]? = some (some (.int v))) (hv : Int32.ofInt i = w) (hL : st1 L k (.int (v + w)) = L') (h : Go X r (pc + 3) L' (st) x) : Go X r pc L (st) x := by
  obtain ⟨p, l, e, R, s, m, args, below, meth, c, ad, INV, CE, n0, kc, ks⟩ := X
  obtain ⟨hx, hby, -⟩ := K
  intro T locs A Y N I LO
  subst hL
  subst hv
  obtain ⟨A₁, hA₁, LO₁⟩ := loc_st1 LO (List.getElem?_eq_some_iff.mp hl).1 (v := .int (v + Int32.ofInt i)) rfl
  obtain ⟨s₂, h1, h2⟩ := h T locs A₁ Y N I LO₁
  exact ⟨s₂, XS.iinc Y.here hx rfl (hb hby hd) (LO.2.2 _ _ hl) hA₁ h1, h2⟩
theorem g_goto (K : Ctx X Z own nm code ml ret) {o : Int} {pc' : Nat} (hd : decode code pc = .ok (.goto o, 3)) (hp : (pc : Int) + o = (pc' : Nat)) (h : Go X r (pc') L (st) x) : Go X r pc L (st) x := by
  obtain ⟨p, l, e, R, s, m, args, below, meth, c, ad, INV, CE, n0, kc, ks⟩ := X
  obtain ⟨hx, hby, -⟩ := K
  intro T locs A Y N I LO
  have ho : 0 ≤ (pc : Int) + o := by omega
  have hq : ((pc : Int) + o).toNat = pc' := by omega
  have LO₁ := LO
  have ⟨A₁, hA₁⟩ : ∃ A₁, A₁ = A := ⟨_, rfl⟩
  subst hA₁
  obtain ⟨s₂, h1, h2⟩ := h T locs A₁ Y N I LO₁
  exact ⟨s₂, XS.goto Y.here hx rfl rfl (hb hby hd) ho hq h1, h2⟩
theorem g_ifT (K : Ctx X Z own nm code ml ret) {cd : ClassFile.Cond} {v : Int32} {o : Int} {pc' : Nat} (hd : decode code pc = .ok (.ifCond cd o, 3)) (hp : (pc : Int) + o = (pc' : Nat)) (hc : ifCond.holds cd v = true) (h : Go X r (pc') L (st) x) : Go X r pc L (.int v :: st) x := by
  obtain ⟨p, l, e, R, s, m, args, below, meth, c, ad, INV, CE, n0, kc, ks⟩ := X
  obtain ⟨hx, hby, -⟩ := K
  intro T locs A Y N I LO
  have ho : 0 ≤ (pc : Int) + o := by omega
  have hq : ((pc : Int) + o).toNat = pc' := by omega
  have LO₁ := LO
  have ⟨A₁, hA₁⟩ : ∃ A₁, A₁ = A := ⟨_, rfl⟩
  subst hA₁
  obtain ⟨s₂, h1, h2⟩ := h T locs A₁ Y N I LO₁
  exact ⟨s₂, XS.ifYes Y.here hx rfl rfl (hb hby hd) rfl hc ho hq h1, h2⟩
theorem g_ifF (K : Ctx X Z own nm code ml ret) {cd : ClassFile.Cond} {v : Int32} {o : Int} (hd : decode code pc = .ok (.ifCond cd o, 3)) (hc : ifCond.holds cd v = false) (h : Go X r (pc + 3) L (st) x) : Go X r pc L (.int v :: st) x := by
  obtain ⟨p, l, e, R, s, m, args, below, meth, c, ad, INV, CE, n0, kc, ks⟩ := X
  obtain ⟨hx, hby, -⟩ := K
  intro T locs A Y N I LO
  obtain ⟨s₂, h1, h2⟩ := h T locs A Y N I LO
  exact ⟨s₂, XS.ifNo Y.here hx rfl (hb hby hd) rfl hc h1, h2⟩
theorem g_icT (K : Ctx X Z own nm code ml ret) {cd : ClassFile.Cond} {v w : Int32} {o : Int} {pc' : Nat} (hd : decode code pc = .ok (.if_icmp cd o, 3)) (hp : (pc : Int) + o = (pc' : Nat)) (hc : if_icmp.holds cd v w = true) (h : Go X r (pc') L (st) x) : Go X r pc L (.int w :: .int v :: st) x := by
  obtain ⟨p, l, e, R, s, m, args, below, meth, c, ad, INV, CE, n0, kc, ks⟩ := X
  obtain ⟨hx, hby, -⟩ := K
  intro T locs A Y N I LO
  have ho : 0 ≤ (pc : Int) + o := by omega
  have hq : ((pc : Int) + o).toNat = pc' := by omega
  have LO₁ := LO
  have ⟨A₁, hA₁⟩ : ∃ A₁, A₁ = A := ⟨_, rfl⟩
  subst hA₁
  obtain ⟨s₂, h1, h2⟩ := h T locs A₁ Y N I LO₁
  exact ⟨s₂, XS.icmpYes Y.here hx rfl rfl (hb hby hd) rfl hc ho hq h1, h2⟩
theorem g_icF (K : Ctx X Z own nm code ml ret) {cd : ClassFile.Cond} {v w : Int32} {o : Int} (hd : decode code pc = .ok (.if_icmp cd o, 3)) (hc : if_icmp.holds cd v w = false) (h : Go X r (pc + 3) L (st) x) : Go X r pc L (.int w :: .int v :: st) x := by
  obtain ⟨p, l, e, R, s, m, args, below, meth, c, ad, INV, CE, n0, kc, ks⟩ := X
  obtain ⟨hx, hby, -⟩ := K
  intro T locs A Y N I LO
  obtain ⟨s₂, h1, h2⟩ := h T locs A Y N I LO
  exact ⟨s₂, XS.icmpNo Y.here hx rfl (hb hby hd) rfl hc h1, h2⟩
theorem g_tswIn (K : Ctx X Z own nm code ml ret) {df lo hi : Int} {offs : Array Int} {len : Nat} {v : Int32} {o : Int} {pc' : Nat} (hd : decode code pc = .ok (.tableswitch df lo hi offs, len)) (hi' : ¬ (v.toInt < lo ∨ v.toInt > hi)) (hoff : offs[(v.toInt - lo).toNat]? = some o) (hp : (pc : Int) + o = (pc' : Nat)) (h : Go X r (pc') L (st) x) : Go X r pc L (.int v :: st) x := by
  obtain ⟨p, l, e, R, s, m, args, below, meth, c, ad, INV, CE, n0, kc, ks⟩ := X
  obtain ⟨hx, hby, -⟩ := K
  intro T locs A Y N I LO
  have ho : 0 ≤ (pc : Int) + o := by omega
  have hq : ((pc : Int) + o).toNat = pc' := by omega
  have LO₁ := LO
  have ⟨A₁, hA₁⟩ : ∃ A₁, A₁ = A := ⟨_, rfl⟩
  subst hA₁
  obtain ⟨s₂, h1, h2⟩ := h T locs A₁ Y N I LO₁
  exact ⟨s₂, XS.tswIn Y.here hx rfl rfl (hb hby hd) rfl hi' hoff ho hq h1, h2⟩
theorem g_tswOut (K : Ctx X Z own nm code ml ret) {df lo hi : Int} {offs : Array Int} {len : Nat} {v : Int32} {pc' : Nat} (hd : decode code pc = .ok (.tableswitch df lo hi offs, len)) (hi' : v.toInt < lo ∨ v.toInt > hi) (hp : (pc : Int) + df = (pc' : Nat)) (h : Go X r (pc') L (st) x) : Go X r pc L (.int v :: st) x := by
  obtain ⟨p, l, e, R, s, m, args, below, meth, c, ad, INV, CE, n0, kc, ks⟩ := X
  obtain ⟨hx, hby, -⟩ := K
  intro T locs A Y N I LO
  have ho : 0 ≤ (pc : Int) + df := by omega
  have hq : ((pc : Int) + df).toNat = pc' := by omega
  have LO₁ := LO
  have ⟨A₁, hA₁⟩ : ∃ A₁, A₁ = A := ⟨_, rfl⟩
  subst hA₁
  obtain ⟨s₂, h1, h2⟩ := h T locs A₁ Y N I LO₁
  exact ⟨s₂, XS.tswOut Y.here hx rfl rfl (hb hby hd) rfl hi' ho hq h1, h2⟩
end Rules
section Rules2
variable {S : Type} {X : Cx S} {Z : State} {own nm : String} {code : ByteArray} {ml : Nat} {ret : Option FieldType} {r : Option Value × S} {pc : Nat} {L L' : List (Option Value)} {st : List Value} {x : S}
theorem g_less (h : Go X r pc L' st x) (q : lessB L' L) : Go X r pc L st x := by
  obtain ⟨p, l, e, R, s, m, args, below, meth, c, ad, INV, CE, n0, kc, ks⟩ := X
  intro T locs A Y N I LO
  exact h T locs A Y N I (LO.less q.less)
theorem retI {p : Program} {l : Launch} {e : Env} {R : Room} {s : State} {m : MethodId} {args : Array Value} {below : List Frame} {meth : Method} {c : Code} {T : State} {locs : List Loc} {cells slots : Nat}
    (X : Stand p l e R s m args below meth c T locs cells slots) (hx : p.tables.exec = Jvm.exec) {pc : Nat} {Ls : Array Slot} {z : Int32} {rest : List Value} (hret : meth.sig.returnType = some .int) (hd : decode c.code pc = .ok (.ireturn, 1)) {fs : List Frame}
    (hl : ∀ (f : JFrame) (acts : List Action), f.method = m → f.locked = none → f.entered = [] → (doReturn e (T.setTop f) acts (some (.int z))).1 = T.setFrames fs) : Steps p.tables e below (T.setTop (mkF m pc Ls (.int z :: rest))) (T.setFrames fs) := by
  have hm' : T.vm.method? m = some meth := X.method'
  have hn : narrow .int (.int z) = .int z := rfl
  show Steps p.tables e below (T.setTop { method := m, pc := pc, locals := Ls, stack := _ :: rest, locked := none }) _
  jvm_step X.here [X.here.top, hx, hd, hm', hret, hn]
  first | (intro acts; rw [hl _ acts rfl rfl rfl]) | rw [hl _ _ rfl rfl rfl]
  exact Steps.refl _
/-- the figures of the frame -/
def Cap (X : Cx S) (x : S) : Prop :=
  match X with
  | (p, l, e, R, s, m, args, below, meth, c, ad, INV, CE, n0, kc, ks) => (CE x).1 ≤ kc ∧ (CE x).2 ≤ ks
theorem g_ireturn (K : Ctx X Z own nm code ml (some .int)) {v : Int32} (hd : decode code pc = .ok (.ireturn, 1)) (hk : Cap X x) : Go X (some (.int v), x) pc L (.int v :: st) x := by
  obtain ⟨p, l, e, R, s, m, args, below, meth, c, ad, INV, CE, n0, kc, ks⟩ := X
  obtain ⟨hx, hby, -, -, -, hret, hlk, -⟩ := K
  intro T locs A Y N I LO
  obtain ⟨fs, hr, hrun, hended, hW, hsame⟩ := Y.leave (v := some (.int v)) (fun h => by rw [hret] at h; cases h) hlk
  exact ⟨_, retI Y hx hret (hb hby hd) hr, hrun, hended, I, locs, N, hW, hsame.mono hk.1 hk.2⟩
theorem g_ireturnN (K : Ctx X Z own nm code ml ret) {v w : Int32} {t : FieldType} (hret' : ret = some t) (ht : t = .boolean ∨ t = .byte ∨ t = .char ∨ t = .short) (hd : decode code pc = .ok (.ireturn, 1)) (hw : nar t v = w) (hk : Cap X x) : Go X (some (.int w), x) pc L (.int v :: st) x := by
  obtain ⟨p, l, e, R, s, m, args, below, meth, c, ad, INV, CE, n0, kc, ks⟩ := X
  subst hret'
  subst hw
  obtain ⟨hx, hby, -, -, -, hret, hlk, -⟩ := K
  intro T locs A Y N I LO
  obtain ⟨fs, hr, hrun, hended, hW, hsame⟩ := Y.leave (v := some (.int (nar t v))) (fun h => by rw [hret] at h; cases h) hlk
  exact ⟨_, retN Y hx hret ht (hb hby hd) hr, hrun, hended, I, locs, N, hW, hsame.mono hk.1 hk.2⟩
theorem g_lreturn (K : Ctx X Z own nm code ml (some .long)) {v : Int64} (hd : decode code pc = .ok (.lreturn, 1)) (hk : Cap X x) : Go X (some (.long v), x) pc L [.long v] x := by
  obtain ⟨p, l, e, R, s, m, args, below, meth, c, ad, INV, CE, n0, kc, ks⟩ := X
  obtain ⟨hx, hby, -, -, -, hret, hlk, -⟩ := K
  intro T locs A Y N I LO
  obtain ⟨fs, hr, hrun, hended, hW, hsame⟩ := Y.leave (v := some (.long v)) (fun h => by rw [hret] at h; cases h) hlk
  exact ⟨_, Y.lreturnOut hx hret (hb hby hd) hr, hrun, hended, I, locs, N, hW, hsame.mono hk.1 hk.2⟩
theorem g_return (K : Ctx X Z own nm code ml none) (hd : decode code pc = .ok (.return_, 1)) (hk : Cap X x) : Go X (none, x) pc L [] x := by
  obtain ⟨p, l, e, R, s, m, args, below, meth, c, ad, INV, CE, n0, kc, ks⟩ := X
  obtain ⟨hx, hby, -, -, -, hret, hlk, -⟩ := K
  intro T locs A Y N I LO
  obtain ⟨fs, hr, hrun, hended, hW, hsame⟩ := Y.leave (v := none) (fun _ => rfl) hlk
  exact ⟨_, Y.returnOut hx hret (hb hby hd) hr, hrun, hended, I, locs, N, hW, hsame.mono hk.1 hk.2⟩
theorem g_ldc {a0 : Array Value} (K : Ctx X Z own nm code ml ret) {idx : Nat} {v : Int32} (hd : decode code pc = .ok (.ldc idx, 2)) (w : (Cond.constant own idx v).before a0 Z = true) (h : Go X r (pc + 2) L (.int v :: st) x) : Go X r pc L st x := by
  obtain ⟨p, l, e, R, s, m, args, below, meth, c, ad, INV, CE, n0, kc, ks⟩ := X
  obtain ⟨hx, hby, -, hown, hZ, -⟩ := K
  intro T locs A Y N I LO
  obtain ⟨s₂, h1, h2⟩ := h T locs A Y N I LO
  exact ⟨s₂, Y.ldcI hx hown (mv hZ w) rfl (hb hby hd) h1, h2⟩
theorem g_ldcw {a0 : Array Value} (K : Ctx X Z own nm code ml ret) {idx : Nat} {v : Int32} (hd : decode code pc = .ok (.ldc_w idx, 3)) (w : (Cond.constant own idx v).before a0 Z = true) (h : Go X r (pc + 3) L (.int v :: st) x) : Go X r pc L st x := by
  obtain ⟨p, l, e, R, s, m, args, below, meth, c, ad, INV, CE, n0, kc, ks⟩ := X
  obtain ⟨hx, hby, -, hown, hZ, -⟩ := K
  intro T locs A Y N I LO
  obtain ⟨s₂, h1, h2⟩ := h T locs A Y N I LO
  exact ⟨s₂, Y.ldcWI hx hown (mv hZ w) rfl (hb hby hd) h1, h2⟩
theorem g_ldc2 {a0 : Array Value} (K : Ctx X Z own nm code ml ret) {idx : Nat} {v : Int64} (hd : decode code pc = .ok (.ldc2_w idx, 3)) (w : (Cond.constantLong own idx v).before a0 Z = true) (h : Go X r (pc + 3) L (.long v :: st) x) : Go X r pc L st x := by
  obtain ⟨p, l, e, R, s, m, args, below, meth, c, ad, INV, CE, n0, kc, ks⟩ := X
  obtain ⟨hx, hby, -, hown, hZ, -⟩ := K
  intro T locs A Y N I LO
  obtain ⟨s₂, h1, h2⟩ := h T locs A Y N I LO
  exact ⟨s₂, Y.ldc2J hx hown (mv hZ w) rfl (hb hby hd) h1, h2⟩
end Rules2
/-! ## 4. one object: what stands in the heap -/
abbrev FSpec : Type := Nat × String × String × Nat
abbrev ASpec : Type := Nat × FieldType × Nat
def fval (a : Nat) (j : Nat) (σ : St) (f : FSpec) : Value :=
  match f.2.2.2 with
  | 0 => .int (gI σ f.1)
  | 1 => .long (gL σ f.1)
  | _ => if f.1 ≤ j then .ref (a + f.1) else .null
def ArI (Z : State) (h : Heap) (b : Nat) (ty : FieldType) (n : Nat) (g : Int → Int32) : Prop := ∃ c : Cell, Arr Z h b c ty ∧ c.slots.size = n ∧ ∀ i : Nat, i < n → c.slots[i]? = some (.int (g (i : Int)))
def Rep (Z : State) (C : String) (FS : List FSpec) (FA : List ASpec) (a : Nat) (j : Nat) (h : Heap) (σ : St) : Prop :=
  Exa Z h a C ∧ (∀ f ∈ FS, Fld Z h a C f.2.1 f.2.2.1 (fval a j σ f)) ∧ ∀ q ∈ FA, q.1 ≤ j → ArI Z h (a + q.1) q.2.1 q.2.2 (gA σ q.1)
def LayW (Z : State) (a0 : Array Value) (C : String) (FS : List FSpec) (kk : Nat) : Prop := (∀ f ∈ FS, Laid Z a0 C C f.2.1 f.2.2.1) ∧ (Cond.instantiable C kk).before a0 Z = true ∧ (Cond.initialized C).before a0 Z = true
/-- the layout is sound: names and numbers unlike, descriptors read, arrays numbered from 1 -/
def layGood (FS : List FSpec) (FA : List ASpec) (nA : Nat) : Bool :=
  decide ((FS.map fun f => f.2.1).Nodup) && decide ((FS.map fun f => f.1).Nodup) && decide ((FA.map fun q => q.1).Nodup) &&
  FS.all (fun f => decide ((parseFieldDescriptor f.2.2.1).map defaultValue = some (fval 0 0 z0 f)) && (f.2.2.2 != 2 || decide (1 ≤ f.1))) &&
  FA.all (fun q => decide (1 ≤ q.1) && decide (q.1 ≤ nA) && decide (q.2.2 < 2 ^ 31))
theorem nodup_key {α β : Type} {f : α → β} : ∀ {l : List α}, (l.map f).Nodup → ∀ {x y : α}, x ∈ l → y ∈ l → f x = f y → x = y
  | [], _, _, _, hx, _, _ => nomatch hx
  | a :: l, h, x, y, hx, hy, e => by
    rw [List.map_cons, List.nodup_cons] at h
    rcases List.mem_cons.mp hx with rfl | hx' <;> rcases List.mem_cons.mp hy with rfl | hy'
    · rfl
    · exact absurd (List.mem_map.mpr ⟨y, hy', e.symm⟩) h.1
    · exact absurd (List.mem_map.mpr ⟨x, hx', e⟩) h.1
    · exact nodup_key h.2 hx' hy' e
section One
variable {Z : State} {a0 : Array Value} {C : String} {FS : List FSpec} {FA : List ASpec} {a : Nat} {j kk nA : Nat} {h h' : Heap} {σ : St}
theorem lay_names (G : layGood FS FA nA = true) {f g : FSpec} (hf : f ∈ FS) (hg : g ∈ FS) (e : f.2.1 = g.2.1) : f = g := by
  simp only [layGood, Bool.and_eq_true, decide_eq_true_eq] at G
  exact nodup_key G.1.1.1.1 hf hg e
theorem lay_keys (G : layGood FS FA nA = true) {f g : FSpec} (hf : f ∈ FS) (hg : g ∈ FS) (e : f.1 = g.1) : f = g := by
  simp only [layGood, Bool.and_eq_true, decide_eq_true_eq] at G
  exact nodup_key G.1.1.1.2 hf hg e
theorem lay_arr (G : layGood FS FA nA = true) {f g : ASpec} (hf : f ∈ FA) (hg : g ∈ FA) (e : f.1 = g.1) : f = g := by
  simp only [layGood, Bool.and_eq_true, decide_eq_true_eq] at G
  exact nodup_key G.1.1.2 hf hg e
theorem lay_desc (G : layGood FS FA nA = true) {f : FSpec} (hf : f ∈ FS) : ∃ t, parseFieldDescriptor f.2.2.1 = some t ∧ defaultValue t = fval 0 0 z0 f := by
  simp only [layGood, Bool.and_eq_true, decide_eq_true_eq] at G
  have q := List.all_eq_true.mp G.1.2 f hf
  simp only [Bool.and_eq_true, decide_eq_true_eq, Option.map_eq_some_iff] at q
  exact q.1
theorem lay_one (G : layGood FS FA nA = true) {f : FSpec} (hf : f ∈ FS) (hk : f.2.2.2 = 2) : 1 ≤ f.1 := by
  simp only [layGood, Bool.and_eq_true, decide_eq_true_eq] at G
  have q := List.all_eq_true.mp G.1.2 f hf
  simp only [Bool.and_eq_true, Bool.or_eq_true, bne_iff_ne, ne_eq, decide_eq_true_eq] at q
  exact q.2.resolve_left (fun z => z hk)
theorem lay_pos (G : layGood FS FA nA = true) {q : ASpec} (hq : q ∈ FA) : 1 ≤ q.1 ∧ q.1 ≤ nA ∧ q.2.2 < 2 ^ 31 := by
  simp only [layGood, Bool.and_eq_true, decide_eq_true_eq] at G
  have := List.all_eq_true.mp G.2 q hq
  simp only [Bool.and_eq_true, decide_eq_true_eq] at this
  exact ⟨this.1.1, this.1.2, this.2⟩
theorem ArI.other {b : Nat} {ty : FieldType} {n sl : Nat} {v : Value} {g : Int → Int32} {x : Nat} (F : ArI Z h b ty n g) (W : Wr h h' x sl v) (q : b ≠ x) : ArI Z h' b ty n g := by
  obtain ⟨c, A, r⟩ := F; exact ⟨c, A.other W q, r⟩
theorem ArI.keep {b : Nat} {ty : FieldType} {n : Nat} {g : Int → Int32} {ws : List Addr} (F : ArI Z h b ty n g) (K : Keep h h' ws) (q : b ∉ ws) : ArI Z h' b ty n g := by
  obtain ⟨c, A, r⟩ := F; exact ⟨c, ⟨K.2.1 b c A.1 q, A.2⟩, r⟩
theorem ArI.ext {b : Nat} {ty : FieldType} {n : Nat} {g : Int → Int32} (F : ArI Z h b ty n g) (E : Ext h h') : ArI Z h' b ty n g := by
  obtain ⟨c, A, r⟩ := F; exact ⟨c, A.ext E, r⟩
/-- a field is written -/
theorem Rep.put (G : layGood FS FA nA = true) (hL : LayW Z a0 C FS kk) (Rp : Rep Z C FS FA a j h σ) {f : FSpec} (hf : f ∈ FS) {v : Value} (W : Wr h h' a (RoadKit.slotOf Z C f.2.1 f.2.2.1) v) {j' : Nat} {σ' : St}
    (hv : fval a j' σ' f = v) (ho : ∀ g ∈ FS, g ≠ f → fval a j' σ' g = fval a j σ g) (hA : ∀ q ∈ FA, q.1 ≤ j' → ArI Z h (a + q.1) q.2.1 q.2.2 (gA σ' q.1)) : Rep Z C FS FA a j' h' σ' := by
  obtain ⟨r1, r2, r3⟩ := Rp
  refine ⟨r1.wr W, fun g hg => ?_, fun q hq hqj => (hA q hq hqj).other W (by have := (lay_pos G hq).1; omega)⟩
  by_cases e : g = f
  · subst e; rw [hv]; exact (r2 g hg).same W
  · rw [ho g hg e]
    obtain ⟨t, ht, -⟩ := lay_desc G hg
    obtain ⟨t', ht', -⟩ := lay_desc G hf
    exact (r2 g hg).other W (Or.inr (slot_ne (hL.1 g hg) (hL.1 f hf) (fun z => e (lay_names G hg hf z)) ht ht'))
theorem Rep.putI (G : layGood FS FA nA = true) (hL : LayW Z a0 C FS kk) (Rp : Rep Z C FS FA a j h σ) {k : Nat} {n d : String} (hf : (k, n, d, 0) ∈ FS) {v : Int32} (W : Wr h h' a (RoadKit.slotOf Z C n d) (.int v)) : Rep Z C FS FA a j h' (sI σ k v) := by
  refine Rp.put G hL hf W (by simp [fval, gI_sI]) (fun g hg ne => ?_) Rp.2.2
  have hk : g.1 ≠ k := fun z => ne (lay_keys G hg hf z)
  unfold fval
  split <;> simp [gI_sI, gL_sI, hk]
theorem Rep.putL (G : layGood FS FA nA = true) (hL : LayW Z a0 C FS kk) (Rp : Rep Z C FS FA a j h σ) {k : Nat} {n d : String} (hf : (k, n, d, 1) ∈ FS) {v : Int64} (W : Wr h h' a (RoadKit.slotOf Z C n d) (.long v)) : Rep Z C FS FA a j h' (sL σ k v) := by
  refine Rp.put G hL hf W (by simp [fval, gL_sL]) (fun g hg ne => ?_) Rp.2.2
  have hk : g.1 ≠ k := fun z => ne (lay_keys G hg hf z)
  unfold fval
  split <;> simp [gI_sL, gL_sL, hk]
/-- an array's component is written -/
theorem Rep.set (G : layGood FS FA nA = true) (Rp : Rep Z C FS FA a j h σ) {k : Nat} {ty : FieldType} {n : Nat} (hq : (k, ty, n) ∈ FA) (hk : k ≤ j) {i : Int32} (h0 : 0 ≤ i.toInt) (h1 : i.toInt < n) {v : Int32} (W : Wr h h' (a + k) i.toNatClampNeg (.int v)) : Rep Z C FS FA a j h' (sA σ k i.toInt v) := by
  obtain ⟨r1, r2, r3⟩ := Rp
  have hp := (lay_pos G hq).1
  refine ⟨r1.wr W, fun g hg => ?_, fun q hq' hqj => ?_⟩
  · have e : fval a j (sA σ k i.toInt v) g = fval a j σ g := by unfold fval; split <;> simp [gI_sA, gL_sA]
    rw [e]; exact (r2 g hg).other W (Or.inl (Nat.ne_of_lt (Nat.lt_add_of_pos_right hp)))
  · by_cases e : q.1 = k
    · have := lay_arr G hq' hq e
      subst this
      obtain ⟨c, A, s1, s2⟩ := r3 _ hq' hqj
      refine ⟨_, A.same W, by rw [sz_set]; exact s1, fun x hx => ?_⟩
      simp only [gA_sA, true_and]
      have hi : (i.toNatClampNeg : Int) = i.toInt := by simp only [Int32.toNatClampNeg]; omega
      by_cases u : (x : Int) = i.toInt
      · have : i.toNatClampNeg = x := by omega
        subst this
        simp only [hi, if_true]
        simp [Cell.setSlot, s1, hx]
      · have : i.toNatClampNeg ≠ x := by omega
        simp only [u, if_false]
        simp only [Cell.setSlot]
        rw [Array.getElem?_setIfInBounds_ne this]; exact s2 x hx
    · have eq : gA (sA σ k i.toInt v) q.1 = gA σ q.1 := by funext y; simp [gA_sA, e]
      rw [eq]; exact (r3 q hq' hqj).other W (by omega)
theorem Rep.keep (Rp : Rep Z C FS FA a j h σ) {ws : List Addr} (K : Keep h h' ws) (q : ∀ k, a + k ∉ ws) : Rep Z C FS FA a j h' σ := by
  obtain ⟨r1, r2, r3⟩ := Rp
  exact ⟨r1.keep K, fun f hf => (r2 f hf).keep K (q 0), fun x hx hj => (r3 x hx hj).keep K (q _)⟩
theorem Rep.ext (Rp : Rep Z C FS FA a j h σ) (E : Ext h h') : Rep Z C FS FA a j h' σ := by
  obtain ⟨r1, r2, r3⟩ := Rp
  exact ⟨r1.ext E, fun f hf => (r2 f hf).ext E, fun x hx hj => (r3 x hx hj).ext E⟩
theorem Rep.keep' (G : layGood FS FA nA = true) (Rp : Rep Z C FS FA a j h σ) {ws : List Addr} (K : Keep h h' ws) (q : ∀ k, k ≤ nA → a + k ∉ ws) : Rep Z C FS FA a j h' σ := by
  obtain ⟨r1, r2, r3⟩ := Rp
  exact ⟨r1.keep K, fun f hf => (r2 f hf).keep K (q 0 (Nat.zero_le _)), fun x hx hj => (r3 x hx hj).keep K (q _ (lay_pos G hx).2.1)⟩
end One
/-! ## 5. the rules of a method's body that works on its own object ('this' is reference 0, its arrays 1, 2 ..) -/
def wsOf (a : Nat) (nA : Nat) : List Addr := (List.range (nA + 1)).map fun k => a + k
theorem mem_ws {a : Nat} {nA k : Nat} (h : k ≤ nA) : a + k ∈ wsOf a nA := List.mem_map.mpr ⟨k, List.mem_range.mpr (by omega), rfl⟩
theorem of_ws {a x : Nat} {nA : Nat} (h : x ∈ wsOf a nA) : a ≤ x ∧ x ≤ a + nA := by
  obtain ⟨k, hk, rfl⟩ := List.mem_map.mp h
  have := List.mem_range.mp hk; omega
def INVc (Z : State) (C : String) (FS : List FSpec) (FA : List ASpec) (nA : Nat) (a : Nat) (h0 : Heap) (ce : Nat → Nat × Nat) : St × Nat → Heap → Prop := fun x h => Rep Z C FS FA a x.2 h x.1 ∧ Keep h0 h (wsOf a nA) ∧ h.size = h0.size + (ce x.2).1
def CtxC (X : Cx (St × Nat)) (Z : State) (a0 : Array Value) (C : String) (FS : List FSpec) (FA : List ASpec) (nA kk : Nat) (l0 : Launch) (n1 : Nat) (a : Nat) (h0 : Heap) (ce : Nat → Nat × Nat) (rm : Room) (nm : String) (code : ByteArray) (ml : Nat) (ret : Option FieldType) : Prop :=
  Ctx X Z C nm code ml ret ∧ LayW Z a0 C FS kk ∧ layGood FS FA nA = true ∧
  match X with
  | (p, l, e, R, s, m, args, below, meth, c, ad, INV, CE, n0, kc, ks) => ad = (fun k => a + k) ∧ INV = INVc Z C FS FA nA a h0 ce ∧ CE = (fun x => ce x.2) ∧ n0 = n1 ∧ n1 ≤ a ∧ l = l0 ∧ R = rm ∧ kc = rm.cells ∧ ks = rm.slots ∧ ce nA = (rm.cells, rm.slots) ∧ s.heap = h0
theorem fits_int (v : Int32) : fits .int (.int v) = true := rfl
theorem fits_bool (v : Int32) : fits .boolean (.int (nar .boolean v)) = true := by
  simp only [fits, nar, Bool.or_eq_true, beq_iff_eq]
  have h := c_mask v 1 1 (by decide) (by decide)
  have h2 : v.toInt % 2 = 0 ∨ v.toInt % 2 = 1 := by omega
  rcases h2 with q | q
  · left; apply Int32.toInt_inj.mp; rw [h]; simpa using q
  · right; apply Int32.toInt_inj.mp; rw [h]; simpa using q
section RulesC
variable {X : Cx (St × Nat)} {Z : State} {a0 : Array Value} {C : String} {FS : List FSpec} {FA : List ASpec} {nA kk : Nat} {l0 : Launch} {n1 : Nat} {a : Nat} {h0 : Heap} {ce : Nat → Nat × Nat} {rm : Room} {nm : String} {code : ByteArray} {ml : Nat} {ret : Option FieldType} {r : Option Value × (St × Nat)} {pc : Nat} {L : List (Option Value)} {st : List Value} {σ : St} {j : Nat}
theorem capC (K : CtxC X Z a0 C FS FA nA kk l0 n1 a h0 ce rm nm code ml ret) : Cap X (σ, nA) := by
  obtain ⟨p, l, e, R, s, m, args, below, meth, c, ad, INV, CE, n0, kc, ks⟩ := X
  obtain ⟨-, -, -, rfl, rfl, rfl, rfl, -, rfl, rfl, rfl, rfl, hce, hs0⟩ := K
  show (ce nA).1 ≤ _ ∧ (ce nA).2 ≤ _
  rw [hce]; exact ⟨Nat.le_refl _, Nat.le_refl _⟩
theorem ctx_le (K : CtxC X Z a0 C FS FA nA kk l0 n1 a h0 ce rm nm code ml ret) : n1 ≤ a := by
  obtain ⟨p, l, e, R, s, m, args, below, meth, c, ad, INV, CE, n0, kc, ks⟩ := X
  obtain ⟨-, -, -, rfl, rfl, rfl, rfl, hn, -⟩ := K
  exact hn
theorem g_getX (K : CtxC X Z a0 C FS FA nA kk l0 n1 a h0 ce rm nm code ml ret) {idx k : Nat} {n d : String} {q : Nat} (hd : decode code pc = .ok (.getfield idx, 3)) (w : (Cond.fieldLink C idx C n d).before a0 Z = true) (hf : (k, n, d, q) ∈ FS) {v : Value} (hv : up (fun k => a + k) v = fval a j σ (k, n, d, q))
    (h : Go X r (pc + 3) L (v :: st) (σ, j)) : Go X r pc L (.ref 0 :: st) (σ, j) := by
  obtain ⟨p, l, e, R, s, m, args, below, meth, c, ad, INV, CE, n0, kc, ks⟩ := X
  obtain ⟨⟨hx, hby, -, hown, hZ, -⟩, hL, G, rfl, rfl, rfl, rfl, hn, rfl, rfl, rfl, rfl, hce, hs0⟩ := K
  intro T locs A Y N I LO
  obtain ⟨T', Y', e', st'⟩ := getF Y hx hZ hown (host := "") (Or.inl w) Via.refl rfl (I.1.2.1 _ hf) (g := mkF m pc A ((Value.ref 0 :: st).map (up fun k => a + k))) rfl rfl (hb hby hd)
  obtain ⟨s₂, h1, h2⟩ := h T' locs A Y' N (by rw [e']; exact I) LO
  refine ⟨s₂, st' _ ?_, h2⟩
  rw [List.map_cons, hv] at h1
  exact h1
theorem g_getI (K : CtxC X Z a0 C FS FA nA kk l0 n1 a h0 ce rm nm code ml ret) {idx k : Nat} {n d : String} (hd : decode code pc = .ok (.getfield idx, 3)) (w : (Cond.fieldLink C idx C n d).before a0 Z = true) (hf : (k, n, d, 0) ∈ FS)
    (h : Go X r (pc + 3) L (.int (gI σ k) :: st) (σ, j)) : Go X r pc L (.ref 0 :: st) (σ, j) := g_getX K hd w hf rfl h
theorem g_getL (K : CtxC X Z a0 C FS FA nA kk l0 n1 a h0 ce rm nm code ml ret) {idx k : Nat} {n d : String} (hd : decode code pc = .ok (.getfield idx, 3)) (w : (Cond.fieldLink C idx C n d).before a0 Z = true) (hf : (k, n, d, 1) ∈ FS)
    (h : Go X r (pc + 3) L (.long (gL σ k) :: st) (σ, j)) : Go X r pc L (.ref 0 :: st) (σ, j) := g_getX K hd w hf rfl h
theorem g_getA (K : CtxC X Z a0 C FS FA nA kk l0 n1 a h0 ce rm nm code ml ret) {idx k : Nat} {n d : String} (hd : decode code pc = .ok (.getfield idx, 3)) (w : (Cond.fieldLink C idx C n d).before a0 Z = true) (hf : (k, n, d, 2) ∈ FS) (hk : Nat.ble k j = true)
    (h : Go X r (pc + 3) L (.ref k :: st) (σ, j)) : Go X r pc L (.ref 0 :: st) (σ, j) := g_getX K hd w hf (by simp [up, fval, Nat.le_of_ble_eq_true hk]) h
theorem g_putI (K : CtxC X Z a0 C FS FA nA kk l0 n1 a h0 ce rm nm code ml ret) {idx k : Nat} {n d : String} {t : FieldType} (hd : decode code pc = .ok (.putfield idx, 3)) (w : (Cond.fieldLink C idx C n d).before a0 Z = true) (hf : (k, n, d, 0) ∈ FS)
    (wl : (Cond.lays C C n d).before a0 Z = true ∨ ((Cond.laysFinal C C n d).before a0 Z = true ∧ nm = "<init>")) (ht : parseFieldDescriptor d = some t) {v v' : Int32} (hn : narrow t (.int v) = .int v') (hfi : fits t (.int v') = true)
    (h : Go X r (pc + 3) L st (sI σ k v', j)) : Go X r pc L (.int v :: .ref 0 :: st) (σ, j) := by
  obtain ⟨p, l, e, R, s, m, args, below, meth, c, ad, INV, CE, n0, kc, ks⟩ := X
  obtain ⟨⟨hx, hby, -, hown, hZ, -, -, hnm⟩, hL, G, rfl, rfl, rfl, rfl, hge, rfl, rfl, rfl, rfl, hce, hs0⟩ := K
  intro T locs A Y N I LO
  obtain ⟨T', h', Y', e', W, st'⟩ := putFN Y hx hZ hown w Via.refl rfl (I.1.2.1 _ hf) I.1.1 (wl.imp id fun q => ⟨q.1, rfl, hnm.trans q.2⟩) hL.2.1 ht hn hfi (g := mkF m pc A ((Value.int v :: .ref 0 :: st).map (up fun k => a + k))) rfl rfl (hb hby hd)
  obtain ⟨s₂, h1, h2⟩ := h T' _ A Y' (N.app fun y hy => by cases List.mem_singleton.mp hy; exact hge) (by rw [e']; exact ⟨I.1.putI G hL hf W, I.2.1.wr W (Or.inl (mem_ws (k := 0) (Nat.zero_le _))), by rw [W.size]; exact I.2.2⟩) LO
  exact ⟨s₂, st' _ h1, h2⟩
theorem g_putL (K : CtxC X Z a0 C FS FA nA kk l0 n1 a h0 ce rm nm code ml ret) {idx k : Nat} {n d : String} (hd : decode code pc = .ok (.putfield idx, 3)) (w : (Cond.fieldLink C idx C n d).before a0 Z = true) (hf : (k, n, d, 1) ∈ FS)
    (wl : (Cond.lays C C n d).before a0 Z = true ∨ ((Cond.laysFinal C C n d).before a0 Z = true ∧ nm = "<init>")) (ht : parseFieldDescriptor d = some .long) {v : Int64}
    (h : Go X r (pc + 3) L st (sL σ k v, j)) : Go X r pc L (.long v :: .ref 0 :: st) (σ, j) := by
  obtain ⟨p, l, e, R, s, m, args, below, meth, c, ad, INV, CE, n0, kc, ks⟩ := X
  obtain ⟨⟨hx, hby, -, hown, hZ, -, -, hnm⟩, hL, G, rfl, rfl, rfl, rfl, hge, rfl, rfl, rfl, rfl, hce, hs0⟩ := K
  intro T locs A Y N I LO
  obtain ⟨T', h', Y', e', W, st'⟩ := putFN Y hx hZ hown w Via.refl rfl (I.1.2.1 _ hf) I.1.1 (wl.imp id fun q => ⟨q.1, rfl, hnm.trans q.2⟩) hL.2.1 ht (v := .long v) (v' := .long v) rfl rfl (g := mkF m pc A ((Value.long v :: .ref 0 :: st).map (up fun k => a + k))) rfl rfl (hb hby hd)
  obtain ⟨s₂, h1, h2⟩ := h T' _ A Y' (N.app fun y hy => by cases List.mem_singleton.mp hy; exact hge) (by rw [e']; exact ⟨I.1.putL G hL hf W, I.2.1.wr W (Or.inl (mem_ws (k := 0) (Nat.zero_le _))), by rw [W.size]; exact I.2.2⟩) LO
  exact ⟨s₂, st' _ h1, h2⟩
theorem inb {c : Cell} {n : Nat} {i : Int32} (S : c.slots.size = n) (h0 : 0 ≤ i.toInt) (h1 : i.toInt < n) : ¬ (i < 0 ∨ c.slots.size ≤ i.toNatClampNeg) := by
  have e0 : (0 : Int32).toInt = 0 := rfl
  rw [S, Int32.lt_iff_toInt_lt, e0]; simp only [Int32.toNatClampNeg]; omega
theorem at_arr {c : Cell} {n : Nat} {g : Int → Int32} (H : ∀ i : Nat, i < n → c.slots[i]? = some (.int (g (i : Int)))) {i : Int32} (h0 : 0 ≤ i.toInt) (h1 : i.toInt < n) : c.slots[i.toNatClampNeg]? = some (.int (g i.toInt)) := by
  have e : (i.toNatClampNeg : Int) = i.toInt := by simp only [Int32.toNatClampNeg]; omega
  have := H i.toNatClampNeg (by omega)
  rw [e] at this; exact this
theorem g_iaload (K : CtxC X Z a0 C FS FA nA kk l0 n1 a h0 ce rm nm code ml ret) {k n : Nat} {i : Int32} (hd : decode code pc = .ok (.iaload, 1)) (hq : (k, .int, n) ∈ FA) (hk : Nat.ble k j = true) (hi : 0 ≤ i.toInt ∧ i.toInt < (n : Nat))
    (h : Go X r (pc + 1) L (.int (gA σ k i.toInt) :: st) (σ, j)) : Go X r pc L (.int i :: .ref k :: st) (σ, j) := by
  obtain ⟨p, l, e, R, s, m, args, below, meth, c, ad, INV, CE, n0, kc, ks⟩ := X
  obtain ⟨⟨hx, hby, -, hown, hZ, -⟩, hL, G, rfl, rfl, rfl, rfl, hn, rfl, rfl, rfl, rfl, hce, hs0⟩ := K
  intro T locs A Y N I LO
  obtain ⟨cl, F1, F2, F3⟩ := I.1.2.2 _ hq (Nat.le_of_ble_eq_true hk)
  obtain ⟨s₂, h1, h2⟩ := h T locs A Y N I LO
  exact ⟨s₂, Y.iaload hx F1.1 (State.isArrayOf_alike hZ.alike F1.2.1) F1.2.2 (inb F2 hi.1 hi.2) (at_arr F3 hi.1 hi.2) (g := mkF m pc A ((Value.int i :: .ref k :: st).map (up fun k => a + k))) rfl rfl (hb hby hd) _ h1, h2⟩
theorem g_baload (K : CtxC X Z a0 C FS FA nA kk l0 n1 a h0 ce rm nm code ml ret) {k n : Nat} {i : Int32} (hd : decode code pc = .ok (.baload, 1)) (hq : (k, .boolean, n) ∈ FA) (hk : Nat.ble k j = true) (hi : 0 ≤ i.toInt ∧ i.toInt < (n : Nat))
    (h : Go X r (pc + 1) L (.int (gA σ k i.toInt) :: st) (σ, j)) : Go X r pc L (.int i :: .ref k :: st) (σ, j) := by
  obtain ⟨p, l, e, R, s, m, args, below, meth, c, ad, INV, CE, n0, kc, ks⟩ := X
  obtain ⟨⟨hx, hby, -, hown, hZ, -⟩, hL, G, rfl, rfl, rfl, rfl, hn, rfl, rfl, rfl, rfl, hce, hs0⟩ := K
  intro T locs A Y N I LO
  obtain ⟨cl, F1, F2, F3⟩ := I.1.2.2 _ hq (Nat.le_of_ble_eq_true hk)
  obtain ⟨s₂, h1, h2⟩ := h T locs A Y N I LO
  exact ⟨s₂, Y.baloadBooleans hx F1.1 (State.isArrayOf_alike hZ.alike F1.2.1) F1.2.2 (inb F2 hi.1 hi.2) (at_arr F3 hi.1 hi.2) (g := mkF m pc A ((Value.int i :: .ref k :: st).map (up fun k => a + k))) rfl rfl (hb hby hd) _ h1, h2⟩
theorem g_caload (K : CtxC X Z a0 C FS FA nA kk l0 n1 a h0 ce rm nm code ml ret) {k n : Nat} {i : Int32} (hd : decode code pc = .ok (.caload, 1)) (hq : (k, .char, n) ∈ FA) (hk : Nat.ble k j = true) (hi : 0 ≤ i.toInt ∧ i.toInt < (n : Nat))
    (h : Go X r (pc + 1) L (.int (gA σ k i.toInt) :: st) (σ, j)) : Go X r pc L (.int i :: .ref k :: st) (σ, j) := by
  obtain ⟨p, l, e, R, s, m, args, below, meth, c, ad, INV, CE, n0, kc, ks⟩ := X
  obtain ⟨⟨hx, hby, -, hown, hZ, -⟩, hL, G, rfl, rfl, rfl, rfl, hn, rfl, rfl, rfl, rfl, hce, hs0⟩ := K
  intro T locs A Y N I LO
  obtain ⟨cl, F1, F2, F3⟩ := I.1.2.2 _ hq (Nat.le_of_ble_eq_true hk)
  obtain ⟨s₂, h1, h2⟩ := h T locs A Y N I LO
  exact ⟨s₂, Y.caload hx F1.1 (State.isArrayOf_alike hZ.alike F1.2.1) F1.2.2 (inb F2 hi.1 hi.2) (at_arr F3 hi.1 hi.2) (g := mkF m pc A ((Value.int i :: .ref k :: st).map (up fun k => a + k))) rfl rfl (hb hby hd) _ h1, h2⟩
theorem g_arraylength (K : CtxC X Z a0 C FS FA nA kk l0 n1 a h0 ce rm nm code ml ret) {k n : Nat} {ty : FieldType} {v : Int32} (hd : decode code pc = .ok (.arraylength, 1)) (hq : (k, ty, n) ∈ FA) (hk : Nat.ble k j = true) (hv : n.toInt32 = v)
    (h : Go X r (pc + 1) L (.int v :: st) (σ, j)) : Go X r pc L (.ref k :: st) (σ, j) := by
  obtain ⟨p, l, e, R, s, m, args, below, meth, c, ad, INV, CE, n0, kc, ks⟩ := X
  obtain ⟨⟨hx, hby, -, hown, hZ, -⟩, hL, G, rfl, rfl, rfl, rfl, hn, rfl, rfl, rfl, rfl, hce, hs0⟩ := K
  intro T locs A Y N I LO
  obtain ⟨cl, F1, F2, F3⟩ := I.1.2.2 _ hq (Nat.le_of_ble_eq_true hk)
  obtain ⟨s₂, h1, h2⟩ := h T locs A Y N I LO
  subst hv
  simp only at F2
  subst F2
  exact ⟨s₂, Y.arraylength hx F1.1 (State.isArrayOf_alike hZ.alike F1.2.1) (g := mkF m pc A ((Value.ref k :: st).map (up fun k => a + k))) rfl rfl (hb hby hd) _ h1, h2⟩
theorem g_iastore (K : CtxC X Z a0 C FS FA nA kk l0 n1 a h0 ce rm nm code ml ret) {k n : Nat} {i v : Int32} (hd : decode code pc = .ok (.iastore, 1)) (hq : (k, .int, n) ∈ FA) (hk : Nat.ble k j = true) (hi : 0 ≤ i.toInt ∧ i.toInt < (n : Nat))
    (h : Go X r (pc + 1) L st (sA σ k i.toInt v, j)) : Go X r pc L (.int v :: .int i :: .ref k :: st) (σ, j) := by
  obtain ⟨p, l, e, R, s, m, args, below, meth, c, ad, INV, CE, n0, kc, ks⟩ := X
  obtain ⟨⟨hx, hby, -, hown, hZ, -⟩, hL, G, rfl, rfl, rfl, rfl, hge, rfl, rfl, rfl, rfl, hce, hs0⟩ := K
  intro T locs A Y N I LO
  obtain ⟨cl, F1, F2, F3⟩ := I.1.2.2 _ hq (Nat.le_of_ble_eq_true hk)
  obtain ⟨T', h', Y', e', W, st'⟩ := stI Y hx hZ rfl F1 (x := v) (inb F2 hi.1 hi.2) (g := mkF m pc A ((Value.int v :: .int i :: .ref k :: st).map (up fun k => a + k))) rfl rfl (hb hby hd)
  obtain ⟨s₂, h1, h2⟩ := h T' _ A Y' (N.app fun y hy => by cases List.mem_singleton.mp hy; exact Nat.le_trans hge (Nat.le_add_right _ _)) (by rw [e']; exact ⟨I.1.set G hq (Nat.le_of_ble_eq_true hk) hi.1 hi.2 W, I.2.1.wr W (Or.inl (mem_ws (lay_pos G hq).2.1)), by rw [W.size]; exact I.2.2⟩) LO
  exact ⟨s₂, st' _ h1, h2⟩
theorem g_bastore (K : CtxC X Z a0 C FS FA nA kk l0 n1 a h0 ce rm nm code ml ret) {k n : Nat} {i v v' : Int32} (hd : decode code pc = .ok (.bastore, 1)) (hq : (k, .boolean, n) ∈ FA) (hk : Nat.ble k j = true) (hi : 0 ≤ i.toInt ∧ i.toInt < (n : Nat)) (hv : nar .boolean v = v')
    (h : Go X r (pc + 1) L st (sA σ k i.toInt v', j)) : Go X r pc L (.int v :: .int i :: .ref k :: st) (σ, j) := by
  obtain ⟨p, l, e, R, s, m, args, below, meth, c, ad, INV, CE, n0, kc, ks⟩ := X
  obtain ⟨⟨hx, hby, -, hown, hZ, -⟩, hL, G, rfl, rfl, rfl, rfl, hge, rfl, rfl, rfl, rfl, hce, hs0⟩ := K
  subst hv
  intro T locs A Y N I LO
  obtain ⟨cl, F1, F2, F3⟩ := I.1.2.2 _ hq (Nat.le_of_ble_eq_true hk)
  obtain ⟨T', h', Y', e', W, st'⟩ := stZ Y hx hZ rfl F1 (x := v) (inb F2 hi.1 hi.2) (g := mkF m pc A ((Value.int v :: .int i :: .ref k :: st).map (up fun k => a + k))) rfl rfl (hb hby hd)
  obtain ⟨s₂, h1, h2⟩ := h T' _ A Y' (N.app fun y hy => by cases List.mem_singleton.mp hy; exact Nat.le_trans hge (Nat.le_add_right _ _)) (by rw [e']; exact ⟨I.1.set G hq (Nat.le_of_ble_eq_true hk) hi.1 hi.2 W, I.2.1.wr W (Or.inl (mem_ws (lay_pos G hq).2.1)), by rw [W.size]; exact I.2.2⟩) LO
  exact ⟨s₂, st' _ h1, h2⟩
theorem g_castore (K : CtxC X Z a0 C FS FA nA kk l0 n1 a h0 ce rm nm code ml ret) {k n : Nat} {i v v' : Int32} (hd : decode code pc = .ok (.castore, 1)) (hq : (k, .char, n) ∈ FA) (hk : Nat.ble k j = true) (hi : 0 ≤ i.toInt ∧ i.toInt < (n : Nat)) (hv : nar .char v = v')
    (h : Go X r (pc + 1) L st (sA σ k i.toInt v', j)) : Go X r pc L (.int v :: .int i :: .ref k :: st) (σ, j) := by
  obtain ⟨p, l, e, R, s, m, args, below, meth, c, ad, INV, CE, n0, kc, ks⟩ := X
  obtain ⟨⟨hx, hby, -, hown, hZ, -⟩, hL, G, rfl, rfl, rfl, rfl, hge, rfl, rfl, rfl, rfl, hce, hs0⟩ := K
  subst hv
  intro T locs A Y N I LO
  obtain ⟨cl, F1, F2, F3⟩ := I.1.2.2 _ hq (Nat.le_of_ble_eq_true hk)
  obtain ⟨T', h', Y', e', W, st'⟩ := stC Y hx hZ rfl F1 (x := v) (inb F2 hi.1 hi.2) (g := mkF m pc A ((Value.int v :: .int i :: .ref k :: st).map (up fun k => a + k))) rfl rfl (hb hby hd)
  obtain ⟨s₂, h1, h2⟩ := h T' _ A Y' (N.app fun y hy => by cases List.mem_singleton.mp hy; exact Nat.le_trans hge (Nat.le_add_right _ _)) (by rw [e']; exact ⟨I.1.set G hq (Nat.le_of_ble_eq_true hk) hi.1 hi.2 W, I.2.1.wr W (Or.inl (mem_ws (lay_pos G hq).2.1)), by rw [W.size]; exact I.2.2⟩) LO
  exact ⟨s₂, st' _ h1, h2⟩
/-! ### the constructor's own steps -/
theorem g_objinit (K : CtxC X Z a0 C FS FA nA kk l0 n1 a h0 ce rm nm code ml ret) {idx k : Nat} (hd : decode code pc = .ok (.invokespecial idx, 3)) (w1 : (Cond.methodLink C idx Lib.objectInit).before a0 Z = true) (w2 : (Cond.instanceMethod Lib.objectInit).before a0 Z = true)
    (w3 : (Cond.code Lib.objectInit ⟨#[0xb1]⟩ 1 none).before a0 Z = true) (hml : L.length = ml) (hr1 : 1 ≤ rm.frames) (hr2 : (st.map fun v => v.category).sum + 12 ≤ rm.locals) (h : Go X r (pc + 3) L st (σ, j)) : Go X r pc L (.ref k :: st) (σ, j) := by
  obtain ⟨p, l, e, R, s, m, args, below, meth, c, ad, INV, CE, n0, kc, ks⟩ := X
  obtain ⟨⟨hx, hby, hcm, hown, hZ, -⟩, hL, G, rfl, rfl, rfl, rfl, hge, rfl, rfl, rfl, rfl, hce, hs0⟩ := K
  intro T locs A Y N I LO
  obtain ⟨T', Y', e', st'⟩ := initO Y hx hZ hown w1 w2 w3 rfl (g := mkF m pc A ((Value.ref k :: st).map (up fun k => a + k))) rfl (by rw [hcm, ← hml]; exact LO.1) rfl (hb hby hd) hr1 (W := (st.map fun v => v.category).sum) (by rw [up_cats]; show 2 * 0 + _ ≤ _; omega) hr2
  obtain ⟨s₂, h1, h2⟩ := h T' locs A Y' N (by rw [e']; exact I) LO
  exact ⟨s₂, st' _ h1, h2⟩
/-- newarray and, behind it, putfield: the next array of the object -/
theorem g_newput (K : CtxC X Z a0 C FS FA nA kk l0 n1 a h0 ce rm nm code ml ret) {aty : ArrayType} {idx : Nat} {n d : String} {len : Int32} {t : FieldType} (hd : decode code pc = .ok (.newarray aty, 2)) (hd2 : decode code (pc + 2) = .ok (.putfield idx, 3)) (wa : (Cond.arrayClass (newarray.typeOf aty)).before a0 Z = true) (w : (Cond.fieldLink C idx C n d).before a0 Z = true)
    (hf : (j + 1, n, d, 2) ∈ FS) (wl : (Cond.lays C C n d).before a0 Z = true ∨ ((Cond.laysFinal C C n d).before a0 Z = true ∧ nm = "<init>")) (ht : parseFieldDescriptor d = some t) (hn : ∀ x, narrow t (.ref x) = .ref x) (hfi : ∀ x, fits t (.ref x) = true)
    (hint : newarray.typeOf aty = .int ∨ newarray.typeOf aty = .boolean ∨ newarray.typeOf aty = .char) {q : ASpec} (hq : q ∈ FA) (hq1 : q.1 = j + 1) (hq2 : q.2.1 = newarray.typeOf aty) (hq3 : q.2.2 = len.toNatClampNeg) (hlen : ¬ len < 0) (hcap : len.toNatClampNeg * 8 ≤ 536870912)
    (hh : h0.size = a + 1) (hce1 : ce j = (j, (ce j).2)) (hce2 : ce (j + 1) = (j + 1, (ce j).2 + len.toNatClampNeg)) (hc1 : j + 1 ≤ rm.cells) (hc2 : (ce j).2 + len.toNatClampNeg ≤ rm.slots) (hz : ∀ i, gA σ (j + 1) i = 0)
    (h : Go X r (pc + 5) L st (σ, j + 1)) : Go X r pc L (.int len :: .ref 0 :: st) (σ, j) := by
  obtain ⟨p, l, e, R, s, m, args, below, meth, c, ad, INV, CE, n0, kc, ks⟩ := X
  obtain ⟨⟨hx, hby, -, hown, hZ, -, -, hnm⟩, hL, G, rfl, rfl, rfl, rfl, hge, rfl, rfl, rfl, rfl, hce, hs0⟩ := K
  intro T locs A Y N I LO
  have hY : Stand p l e R s m args below meth c T locs j (ce j).2 := by
    have := Y; simp only at this; rw [hce1] at this; exact this
  have hsz : T.heap.size = a + 1 + j := by have := I.2.2; simp only at this; rw [hce1] at this; omega
  obtain ⟨T1, h1, cA, Y1, e1, E1, A1, st1'⟩ := newP hY hx hZ wa rfl (g := mkF m pc A ((Value.int len :: .ref 0 :: st).map (up fun k => a + k))) rfl (hb hby hd) rfl hlen (Nat.le_refl _) hcap hc1 hc2
  rw [hsz] at A1 st1'
  have eA : a + 1 + j = a + (j + 1) := by omega
  rw [eA] at A1 st1'
  have R1 : Rep Z C FS FA a j h1 σ := I.1.ext E1
  obtain ⟨T2, h2, Y2, e2, W, st2'⟩ := putFN Y1 hx hZ hown w Via.refl e1 (R1.2.1 _ hf) R1.1 (wl.imp id fun q => ⟨q.1, rfl, hnm.trans q.2⟩) hL.2.1 ht (hn _) (hfi _) (g := mkF m (pc + 2) A (.ref (a + (j + 1)) :: ((Value.ref 0 :: st).map (up fun k => a + k)))) rfl rfl (hb hby hd2)
  have R2 : Rep Z C FS FA a (j + 1) h2 σ := by
    refine R1.put G hL hf W (by simp [fval]) (fun g hg ne => ?_) (fun q' hq' hj => ?_)
    · have hk : g.1 ≠ j + 1 := fun z => ne (lay_keys G hg hf z)
      unfold fval
      split
      · rfl
      · rfl
      · by_cases z : g.1 ≤ j
        · rw [if_pos z, if_pos (by omega)]
        · rw [if_neg z, if_neg (by omega)]
    · by_cases z : q'.1 ≤ j
      · exact R1.2.2 q' hq' z
      · have : q' = q := lay_arr G hq' hq (by omega)
        subst this
        rw [hq1, hq2, hq3]
        refine ⟨_, A1, sz_new _ _ _, fun i hi => ?_⟩
        rw [hz]
        rcases hint with e | e | e <;> rw [e] <;> simp [newA, hi, defaultValue]
  have hs1 : h1.size = a + 1 + (j + 1) := by
    have q1 := E1.1
    have q2 : T1.heap.size ≤ s.heap.size + (j + 1) := Y1.heapSize
    have q3 := A1.lt
    rw [e1, hs0, hh] at q2
    have q5 : a + (j + 1) < h1.size := q3
    have q6 : h1.size ≤ a + 1 + (j + 1) := q2
    omega
  obtain ⟨s₂, g1, g2⟩ := h T2 _ A (by show Stand _ _ _ _ _ _ _ _ _ _ _ _ (ce (j + 1)).1 (ce (j + 1)).2; rw [hce2]; exact Y2) (N.app fun y hy => by cases List.mem_singleton.mp hy; exact hge)
    (by rw [e2]; exact ⟨R2, (I.2.1.ext E1).wr W (Or.inl (mem_ws (k := 0) (Nat.zero_le _))), by rw [W.size, hs1, hh]; show _ = _ + (ce (j + 1)).1; rw [hce2]⟩) LO
  exact ⟨s₂, st1' _ (st2' _ g1), g2⟩
end RulesC
/-! ## 6. contracts of methods, and calls on the own object -/
def MetP (l : Launch) (Z : State) (y : MethodName) (code : ByteArray) (ml : Nat) (ret : Option FieldType) (rm : Room) (ws : List Jvm.Cond) (n0 : Nat) (h1 : Heap) (as : Array Value) (v : Option Value) (POST : Heap → Prop) : Prop :=
  MetFree l y (head1 (Jvm.Cond.code y code ml ret :: ws) rm) (fun b U => b = as ∧ Z.Warmed39 U.vm ∧ U.heap = h1) (fun _ _ _ _ _ => True) (fun _ U o U' => ∃ w L, o = .returned w ∧ (w = v ∧ Fr n0 L ∧ POST U'.heap) ∧ FrameEnd U o U' L rm.cells rm.slots)
/-- a body that goes to its end meets its contract -/
theorem met_of_go {S : Type} {l : Launch} {Z : State} {y : MethodName} {code : ByteArray} {ml : Nat} {ret : Option FieldType} {rm : Room} {ws : List Jvm.Cond} {n0 : Nat} {h1 : Heap} {ad : Nat → Addr} {INV : S → Heap → Prop} {CE : S → Nat × Nat} {vs : List Value} {v : Option Value} {x x' : S} {L : List (Option Value)}
    (hp : plainName y.cls = true) (hL : ent vs ml = L) (hI : INV x h1) (hce : CE x = (0, 0))
    (H : ∀ (p : Program) (e : Env) (s : State) (m : MethodId) (below : List Frame) (meth : Method) (c : Code), s.heap = h1 → Ctx (S := S) (p, l, e, rm, s, m, (vs.map (up ad)).toArray, below, meth, c, ad, INV, CE, n0, rm.cells, rm.slots) Z y.cls y.name code ml ret →
      Go (S := S) (p, l, e, rm, s, m, (vs.map (up ad)).toArray, below, meth, c, ad, INV, CE, n0, rm.cells, rm.slots) (v, x') 0 L [] x) :
    MetP l Z y code ml ret rm ws n0 h1 (vs.map (up ad)).toArray (v.map (up ad)) (INV x') := by
  refine MetFree.of_bodySF (plainFor_of_name hp) hisR ?_
  intro p e s m args below meth c s₁ Bd hml0 hP hK
  obtain ⟨rfl, hZ, hh⟩ := hP
  have hown : s.vm.findClass y.cls = some m.cls := findClass_of_methodNamed Bd.named
  have hnm := (name_of_methodNamed Bd.named Bd.method).1
  have X0 : Stand p l e rm s m (vs.map (up ad)).toArray below meth c s₁ [] 0 0 := Stand.of_body Bd
  have e0 : s₁.heap = h1 := by rw [← hh, Bd.state]; rfl
  subst hL
  obtain ⟨s₂, g1, g2, g3, g4, L', g5, g6, g7⟩ := H p e s m below meth c hh ⟨Bd.exec, Bd.bytes, hml0, hown, hZ, Bd.returns, Bd.notSynchronized, hnm⟩ s₁ [] _ (by rw [hce]; exact X0) (Fr.nil n0) (by rw [e0]; exact hI) (loc_ent ad vs ml)
  exact ⟨s₂, _, g1, g2, g3, _, L', rfl, ⟨rfl, g5, g4⟩, ⟨_, rfl⟩, g6, g7⟩
theorem MetP.mono {l : Launch} {Z : State} {y : MethodName} {code : ByteArray} {ml : Nat} {ret : Option FieldType} {rm : Room} {ws : List Jvm.Cond} {n0 : Nat} {h1 : Heap} {as : Array Value} {v : Option Value} {P Q : Heap → Prop}
    (H : MetP l Z y code ml ret rm ws n0 h1 as v P) (hPQ : ∀ h, P h → Q h) : MetP l Z y code ml ret rm ws n0 h1 as v Q := by
  intro p e ha hc hk s m args below hf happ hP hK
  obtain ⟨n, o, q1, q2, q3, w, L, q4, ⟨q5, q6, q7⟩, q8⟩ := H p e ha hc hk s m args below hf happ hP hK
  exact ⟨n, o, q1, q2, q3, w, L, q4, ⟨q5, q6, hPQ _ q7⟩, q8⟩
theorem MetP.back {p : Program} {l : Launch} {e : Env} {R : Room} {s : State} {args : Array Value} {below : List Frame} {Z : State} {a0 : Array Value} {y : MethodName} {code : ByteArray} {ml : Nat} {ret : Option FieldType} {rm : Room} {n0 : Nat} {h1 : Heap} {as : Array Value} {v : Option Value} {POST : Heap → Prop} {len W : Nat}
    (H : MetP l Z y code ml ret rm [] n0 h1 as v POST) (hZ : Z.Warmed39 s.vm) (wc : (Jvm.Cond.code y code ml ret).before a0 Z = true) (wz : (Cond.initialized y.cls).before a0 Z = true) (hf : rm.frames + 1 ≤ R.frames) (hl : W + (ml + 11) + rm.locals ≤ R.locals) :
    Back l R p e below s args y len W (fun A b => b = as ∧ A.U.heap = h1 ∧ A.cells + rm.cells ≤ R.cells ∧ A.slots + rm.slots ≤ R.slots)
      (fun A _ w B => ∃ L, (w = v ∧ Fr n0 L ∧ POST B.U.heap) ∧ B.locs = A.locs ++ L ∧ B.cells = A.cells + rm.cells ∧ B.slots = A.slots + rm.slots) :=
  backOf (Q := fun w h' L => w = v ∧ Fr n0 L ∧ POST h') H hZ wc wz hf hl
/-- a method of the class on the object at a: from σ to σ', giving v -/
def Con (l : Launch) (Z : State) (C : String) (FS : List FSpec) (FA : List ASpec) (nA : Nat) (n0 : Nat) (a : Nat) (y : MethodName) (code : ByteArray) (ml : Nat) (ret : Option FieldType) (rm : Room) (vs : List Value) (σ : St) (v : Option Value) (σ' : St) : Prop :=
  ∀ (ws : List Jvm.Cond) (h1 : Heap), Rep Z C FS FA a nA h1 σ → MetP l Z y code ml ret rm ws n0 h1 (vs.map (up fun k => a + k)).toArray (v.map (up fun k => a + k)) (fun h' => Rep Z C FS FA a nA h' σ' ∧ Keep h1 h' (wsOf a nA) ∧ h'.size = h1.size)
def ce0 : Nat → Nat × Nat := fun _ => (0, 0)
theorem con_of_go {l : Launch} {Z : State} {a0 : Array Value} {C : String} {FS : List FSpec} {FA : List ASpec} {nA kk n0 : Nat} {a : Nat} {n d : String} {code : ByteArray} {ml : Nat} {ret : Option FieldType} {fr lo : Nat} {vs : List Value} {σ : St} {v : Option Value} {σ' : St} {L : List (Option Value)}
    (hp : plainName C = true) (hL : ent vs ml = L) (lw : LayW Z a0 C FS kk) (lg : layGood FS FA nA = true) (hge : n0 ≤ a)
    (H : ∀ (X : Cx (St × Nat)) (h1 : Heap), CtxC X Z a0 C FS FA nA kk l n0 a h1 ce0 ⟨fr, 0, 0, lo⟩ n code ml ret → Go X (v, (σ', nA)) 0 L [] (σ, nA)) :
    Con l Z C FS FA nA n0 a ⟨C, n, d⟩ code ml ret ⟨fr, 0, 0, lo⟩ vs σ v σ' := by
  intro ws h1 hR
  refine (met_of_go (S := St × Nat) (INV := INVc Z C FS FA nA a h1 ce0) (CE := fun x => ce0 x.2) (x := (σ, nA)) (x' := (σ', nA)) hp hL ⟨hR, Keep.refl _ _, rfl⟩ rfl ?_).mono (fun h q => ⟨q.1, q.2.1, q.2.2⟩)
  intro p e s m below meth c hs K
  exact H _ h1 ⟨K, lw, lg, rfl, rfl, rfl, rfl, hge, rfl, rfl, rfl, rfl, rfl, hs⟩
section Calls
variable {X : Cx (St × Nat)} {Z : State} {a0 : Array Value} {C : String} {FS : List FSpec} {FA : List ASpec} {nA kk : Nat} {l0 : Launch} {n1 : Nat} {a : Nat} {h0 : Heap} {ce : Nat → Nat × Nat} {rm rm' : Room} {nm : String} {code code' : ByteArray} {ml ml' : Nat} {ret ret' : Option FieldType} {r : Option Value × (St × Nat)} {pc : Nat} {L : List (Option Value)} {st st0 : List Value} {σ σ' : St}
/-- a call of a private method on 'this' -/
theorem g_callP (K : CtxC X Z a0 C FS FA nA kk l0 n1 a h0 ce rm nm code ml ret) {idx : Nat} {n d : String} {ps : List FieldType} {rt : Option FieldType} (hd : decode code pc = .ok (.invokevirtual idx, 3)) (w1 : (Cond.methodLink C idx ⟨C, n, d⟩).before a0 Z = true) (w2 : (Cond.instanceMethod ⟨C, n, d⟩).before a0 Z = true)
    (w3 : (Cond.privateMethod ⟨C, n, d⟩).before a0 Z = true) (w4 : (Jvm.Cond.code ⟨C, n, d⟩ code' ml' ret').before a0 Z = true) (hy : C ≠ "java/lang/invoke/MethodHandle" ∧ C ≠ "java/lang/invoke/VarHandle") (hpd : parseMethodDescriptor d = some ⟨ps, rt⟩) {vs : List Value} (hst : vs.reverse ++ .ref 0 :: st = st0) (hlen : vs.length = ps.length)
    {v : Option Value} (con : Con l0 Z C FS FA nA n1 a ⟨C, n, d⟩ code' ml' ret' rm' (.ref 0 :: vs) σ v σ') (hml : L.length = ml) (hr1 : rm'.frames + 1 ≤ rm.frames) (hr2 : (st.map fun v => v.category).sum + (ml' + 11) + rm'.locals ≤ rm.locals) (hr3 : rm'.cells = 0) (hr4 : rm'.slots = 0)
    (h : Go X r (pc + 3) L (v.toList ++ st) (σ', nA)) : Go X r pc L st0 (σ, nA) := by
  obtain ⟨p, l, e, R, s, m, args, below, meth, c, ad, INV, CE, n0, kc, ks⟩ := X
  obtain ⟨⟨hx, hby, hcm, hown, hZ, -⟩, hL, G, rfl, rfl, rfl, rfl, hge, rfl, rfl, rfl, rfl, hce, hs0⟩ := K
  intro T locs A Y N I LO
  subst hst
  obtain ⟨cell, hcell, hobj⟩ := I.1.1.cell
  obtain ⟨ci, ki, i1, i2, i3, i4, -⟩ := Cond.instantiable_spec (mvT (args := #[]) hZ hL.2.1)
  have hni : ki.isInterface = false := by simp only [Bool.or_eq_false_iff] at i4; exact i4.1
  have hpr : s.PrivateAt ⟨C, n, d⟩ := Cond.privateMethod_at (mvP hZ w3 (args := #[]))
  have hsel : (Cond.selects C ⟨C, n, d⟩ ⟨C, n, d⟩).before args s = true := selects_self_of_private (y := ⟨C, n, d⟩) i1 i2 hni hpr (mvT hZ w2) hy
  have hcA : (ce nA).1 + rm'.cells ≤ R.cells := by rw [hce, hr3]; exact Nat.le_refl _
  have hsA : (ce nA).2 + rm'.slots ≤ R.slots := by rw [hce, hr4]; exact Nat.le_refl _
  obtain ⟨w, vm₁, ⟨T', L', k', n'⟩, -, Y', ⟨Lc, ⟨q1, q2, q3, q4, q5⟩, l', y', z'⟩, st'⟩ := Y.privateBack hx (y := ⟨C, n, d⟩) hown (mvT hZ w1) (mvT hZ w2) hsel hpr (mvT hZ w4) hy
    (MetP.back (W := (st.map fun v => v.category).sum) (con [] T.heap I.1) hZ w4 hL.2.2 hr1 hr2) (g := mkF m pc A ((vs.reverse ++ .ref 0 :: st).map (up fun k => a + k))) rfl (by rw [hcm, ← hml]; exact LO.1) (Steps.refl _) (a := a) hcell hobj
    (argsL := vs.map (up fun k => a + k)) (rest := st.map (up fun k => a + k)) (lenOf hpd (by rw [List.length_map]; exact hlen)) (by simp [up]) (by rw [up_cats]; show 2 * 0 + _ ≤ _; omega) (hb hby hd) (fun _ _ => ⟨by simp [up], rfl, hcA, hsA⟩)
  dsimp only [Pt.U, Pt.locs, Pt.cells, Pt.slots] at Y' l' y' z' st' q1 q3 q4 q5
  subst l' y' z' q1
  obtain ⟨s₂, h1, h2⟩ := h T' _ A (by show Stand _ _ _ _ _ _ _ _ _ _ _ _ (ce nA).1 (ce nA).2; simpa [hr3, hr4] using Y') (N.app q2) ⟨q3, I.2.1.trans q4 (fun x hx => Or.inl hx), by rw [q5]; exact I.2.2⟩ LO
  refine ⟨s₂, st'.trans ?_, h2⟩
  have e1 : (v.toList ++ st).map (up fun k => a + k) = (v.map (up fun k => a + k)).toList ++ st.map (up fun k => a + k) := by cases v <;> simp
  rw [e1] at h1
  exact h1
/-- a call of a public method on 'this' -/
theorem g_callV (K : CtxC X Z a0 C FS FA nA kk l0 n1 a h0 ce rm nm code ml ret) {idx : Nat} {n d : String} {ps : List FieldType} {rt : Option FieldType} (hd : decode code pc = .ok (.invokevirtual idx, 3)) (w1 : (Cond.methodLink C idx ⟨C, n, d⟩).before a0 Z = true) (w2 : (Cond.instanceMethod ⟨C, n, d⟩).before a0 Z = true)
    (w3 : (Cond.declares ⟨C, n, d⟩).before a0 Z = true) (w3' : (Cond.selects C ⟨C, n, d⟩ ⟨C, n, d⟩).before a0 Z = true) (w4 : (Jvm.Cond.code ⟨C, n, d⟩ code' ml' ret').before a0 Z = true) (hy : C ≠ "java/lang/invoke/MethodHandle" ∧ C ≠ "java/lang/invoke/VarHandle") (hpd : parseMethodDescriptor d = some ⟨ps, rt⟩) {vs : List Value} (hst : vs.reverse ++ .ref 0 :: st = st0) (hlen : vs.length = ps.length)
    {v : Option Value} (con : Con l0 Z C FS FA nA n1 a ⟨C, n, d⟩ code' ml' ret' rm' (.ref 0 :: vs) σ v σ') (hml : L.length = ml) (hr1 : rm'.frames + 1 ≤ rm.frames) (hr2 : (st.map fun v => v.category).sum + (ml' + 11) + rm'.locals ≤ rm.locals) (hr3 : rm'.cells = 0) (hr4 : rm'.slots = 0)
    (h : Go X r (pc + 3) L (v.toList ++ st) (σ', nA)) : Go X r pc L st0 (σ, nA) := by
  obtain ⟨p, l, e, R, s, m, args, below, meth, c, ad, INV, CE, n0, kc, ks⟩ := X
  obtain ⟨⟨hx, hby, hcm, hown, hZ, -⟩, hL, G, rfl, rfl, rfl, rfl, hge, rfl, rfl, rfl, rfl, hce, hs0⟩ := K
  intro T locs A Y N I LO
  subst hst
  obtain ⟨cq, kq, qa, qb, qc⟩ := isOf hZ rfl I.1.1
  have hcA : (ce nA).1 + rm'.cells ≤ R.cells := by rw [hce, hr3]; exact Nat.le_refl _
  have hsA : (ce nA).2 + rm'.slots ≤ R.slots := by rw [hce, hr4]; exact Nat.le_refl _
  obtain ⟨w, vm₁, ⟨T', L', k', n'⟩, -, Y', ⟨Lc, ⟨q1, q2, q3, q4, q5⟩, l', y', z'⟩, st'⟩ := Y.virtualBack hx (y := ⟨C, n, d⟩) (z := ⟨C, n, d⟩) hown (mvT hZ w1) (mvT hZ w3) (notFace_of_selects (args := #[]) (mvT hZ w3')) (mvT hZ w3') (mvT hZ w2) hy
    (MetP.back (W := (st.map fun v => v.category).sum) (con [] T.heap I.1) hZ w4 hL.2.2 hr1 hr2) qa qc (g := mkF m pc A ((vs.reverse ++ .ref 0 :: st).map (up fun k => a + k))) rfl (by rw [hcm, ← hml]; exact LO.1) (Steps.refl _)
    (argsL := vs.map (up fun k => a + k)) (rest := st.map (up fun k => a + k)) (lenOf hpd (by rw [List.length_map]; exact hlen)) (by simp [up]) (by rw [up_cats]; show 2 * 0 + _ ≤ _; omega) (hb hby hd) (fun _ _ => ⟨by simp [up], rfl, hcA, hsA⟩)
  dsimp only [Pt.U, Pt.locs, Pt.cells, Pt.slots] at Y' l' y' z' st' q1 q3 q4 q5
  subst l' y' z' q1
  obtain ⟨s₂, h1, h2⟩ := h T' _ A (by show Stand _ _ _ _ _ _ _ _ _ _ _ _ (ce nA).1 (ce nA).2; simpa [hr3, hr4] using Y') (N.app q2) ⟨q3, I.2.1.trans q4 (fun x hx => Or.inl hx), by rw [q5]; exact I.2.2⟩ LO
  refine ⟨s₂, st'.trans ?_, h2⟩
  have e1 : (v.toList ++ st).map (up fun k => a + k) = (v.map (up fun k => a + k)).toList ++ st.map (up fun k => a + k) := by cases v <;> simp
  rw [e1] at h1
  exact h1
end Calls
/-- the constructor's contract: a new object, its fields at their first values -/
def ConI (l : Launch) (Z : State) (C : String) (FS : List FSpec) (FA : List ASpec) (nA : Nat) (n0 : Nat) (a : Nat) (y : MethodName) (code : ByteArray) (ml : Nat) (rm : Room) (vs : List Value) (σ' : St) : Prop :=
  ∀ (ws : List Jvm.Cond) (h1 : Heap), h1.size = a + 1 → Rep Z C FS FA a 0 h1 z0 → MetP l Z y code ml none rm ws n0 h1 (vs.map (up fun k => a + k)).toArray none (fun h' => Rep Z C FS FA a nA h' σ' ∧ Keep h1 h' (wsOf a nA) ∧ h'.size = h1.size + nA)
def ceI (FA : List ASpec) : Nat → Nat × Nat := fun j => (j, ((FA.filter fun q => decide (q.1 ≤ j)).map fun q => q.2.2).sum)
theorem coni_of_go {l : Launch} {Z : State} {a0 : Array Value} {C : String} {FS : List FSpec} {FA : List ASpec} {nA kk n0 : Nat} {a : Nat} {d : String} {code : ByteArray} {ml : Nat} {fr lo sl : Nat} {vs : List Value} {σ' : St} {L : List (Option Value)}
    (hp : plainName C = true) (hL : ent vs ml = L) (lw : LayW Z a0 C FS kk) (lg : layGood FS FA nA = true) (hge : n0 ≤ a) (hce : ceI FA nA = (nA, sl)) (hc0 : ceI FA 0 = (0, 0))
    (H : ∀ (X : Cx (St × Nat)) (h1 : Heap), h1.size = a + 1 → CtxC X Z a0 C FS FA nA kk l n0 a h1 (ceI FA) ⟨fr, nA, sl, lo⟩ "<init>" code ml none → Go X (none, (σ', nA)) 0 L [] (z0, 0)) :
    ConI l Z C FS FA nA n0 a ⟨C, "<init>", d⟩ code ml ⟨fr, nA, sl, lo⟩ vs σ' := by
  intro ws h1 hsz hR
  refine (met_of_go (S := St × Nat) (INV := INVc Z C FS FA nA a h1 (ceI FA)) (CE := fun x => ceI FA x.2) (x := (z0, 0)) (x' := (σ', nA)) (v := none) hp hL ⟨hR, Keep.refl _ _, by rw [hc0]; rfl⟩ hc0 ?_).mono (fun h q => ⟨q.1, q.2.1, by rw [q.2.2, hce]⟩)
  intro p e s m below meth c hs K
  exact H _ h1 hsz ⟨K, lw, lg, rfl, rfl, rfl, rfl, hge, rfl, rfl, rfl, rfl, hce, hs⟩
/-! ## 7. the law: static code that makes objects and calls them; object i is reference i, the script is reference 100 -/
def adL (sc n0 nA : Nat) : Nat → Addr := fun i => if i = 100 then sc else n0 + i * (nA + 1)
def sizeW (W : List (St × Nat)) : Nat := (W.map fun x => 1 + x.2).sum
def INVl (Z : State) (C : String) (FS : List FSpec) (FA : List ASpec) (nA : Nat) (n0 : Nat) (H0 : Heap) : List (St × Nat) → Heap → Prop := fun W h => (∀ i x, W[i]? = some x → Rep Z C FS FA (n0 + i * (nA + 1)) x.2 h x.1) ∧ h.size = n0 + sizeW W ∧ Ext H0 h
/-- the script: its length and its values, as they stood at the start -/
def Script (Z : State) (H0 : Heap) (sc : Nat) (z : Int32) (f : Int → Int32) : Prop := ∃ c : Cell, Arr Z H0 sc c .int ∧ c.slots.size = z.toNatClampNeg ∧ 0 ≤ z.toInt ∧ ∀ i : Nat, i < z.toNatClampNeg → c.slots[i]? = some (.int (f (i : Int)))
def CtxL (X : Cx (List (St × Nat))) (Z : State) (a0 : Array Value) (C : String) (FS : List FSpec) (FA : List ASpec) (nA kk : Nat) (l0 : Launch) (n1 : Nat) (sc : Nat) (H0 : Heap) (ce : List (St × Nat) → Nat × Nat) (rm : Room) (kc1 ks1 : Nat) (own nm : String) (code : ByteArray) (ml : Nat) (ret : Option FieldType) : Prop :=
  Ctx X Z own nm code ml ret ∧ LayW Z a0 C FS kk ∧ layGood FS FA nA = true ∧
  match X with
  | (p, l, e, R, s, m, args, below, meth, c, ad, INV, CE, n0, kc, ks) => ad = adL sc n1 nA ∧ INV = INVl Z C FS FA nA n1 H0 ∧ CE = ce ∧ n0 = n1 ∧ H0.size = n1 ∧ l = l0 ∧ R = rm ∧ kc = kc1 ∧ ks = ks1
def ceJ (kk : Nat) (FA : List ASpec) (js : List Nat) : Nat × Nat := ((js.map fun j => 1 + j).sum, (js.map fun j => kk + (ceI FA j).2).sum)
def ceL (kk : Nat) (FA : List ASpec) : List (St × Nat) → Nat × Nat := fun W => ceJ kk FA (W.map Prod.snd)
theorem ceL_1 (kk : Nat) (FA : List ASpec) (W : List (St × Nat)) : (ceL kk FA W).1 = sizeW W := by simp [ceL, ceJ, sizeW, Function.comp_def]
theorem ceL_eq {kk : Nat} {FA : List ASpec} {W W' : List (St × Nat)} (h : W'.map Prod.snd = W.map Prod.snd) : ceL kk FA W' = ceL kk FA W := congrArg (ceJ kk FA) h
theorem capJ1 {kk c d : Nat} {FA : List ASpec} {W : List (St × Nat)} {js : List Nat} (h : (ceJ kk FA js).1 ≤ c ∧ (ceJ kk FA js).2 ≤ d) (hj : W.map Prod.snd = js) : (ceL kk FA W).1 ≤ c := by subst hj; exact h.1
theorem capJ2 {kk c d : Nat} {FA : List ASpec} {W : List (St × Nat)} {js : List Nat} (h : (ceJ kk FA js).1 ≤ c ∧ (ceJ kk FA js).2 ≤ d) (hj : W.map Prod.snd = js) : (ceL kk FA W).2 ≤ d := by subst hj; exact h.2
theorem capN1 {kk c d : Nat} {FA : List ASpec} {W : List (St × Nat)} {js : List Nat} (h : (ceJ kk FA js).1 + 1 ≤ c ∧ (ceJ kk FA js).2 + kk ≤ d) (hj : W.map Prod.snd = js) : (ceL kk FA W).1 + 1 ≤ c := by subst hj; exact h.1
theorem capN2 {kk c d : Nat} {FA : List ASpec} {W : List (St × Nat)} {js : List Nat} (h : (ceJ kk FA js).1 + 1 ≤ c ∧ (ceJ kk FA js).2 + kk ≤ d) (hj : W.map Prod.snd = js) : (ceL kk FA W).2 + kk ≤ d := by subst hj; exact h.2
/-- a static method of the law's class -/
def ConL (l : Launch) (Z : State) (C : String) (FS : List FSpec) (FA : List ASpec) (nA : Nat) (n0 : Nat) (sc : Nat) (H0 : Heap) (y : MethodName) (code : ByteArray) (ml : Nat) (ret : Option FieldType) (rm : Room) (vs : List Value) (W : List (St × Nat)) (v : Option Value) (W' : List (St × Nat)) : Prop :=
  ∀ (ws : List Jvm.Cond) (h1 : Heap), INVl Z C FS FA nA n0 H0 W h1 → MetP l Z y code ml ret rm ws n0 h1 (vs.map (up (adL sc n0 nA))).toArray (v.map (up (adL sc n0 nA))) (INVl Z C FS FA nA n0 H0 W')
def ceS : List (St × Nat) → Nat × Nat := fun _ => (0, 0)
theorem conl_of_go {l : Launch} {Z : State} {a0 : Array Value} {C : String} {FS : List FSpec} {FA : List ASpec} {nA kk n0 : Nat} {sc : Nat} {H0 : Heap} {own n d : String} {code : ByteArray} {ml : Nat} {ret : Option FieldType} {fr lo : Nat} {vs : List Value} {W : List (St × Nat)} {v : Option Value} {W' : List (St × Nat)} {L : List (Option Value)}
    (hp : plainName own = true) (hL : ent vs ml = L) (lw : LayW Z a0 C FS kk) (lg : layGood FS FA nA = true) (hH : H0.size = n0)
    (H : ∀ (X : Cx (List (St × Nat))), CtxL X Z a0 C FS FA nA kk l n0 sc H0 ceS ⟨fr, 0, 0, lo⟩ 0 0 own n code ml ret → Go X (v, W') 0 L [] W) :
    ConL l Z C FS FA nA n0 sc H0 ⟨own, n, d⟩ code ml ret ⟨fr, 0, 0, lo⟩ vs W v W' := by
  intro ws h1 hR
  refine met_of_go (S := List (St × Nat)) (INV := INVl Z C FS FA nA n0 H0) (CE := ceS) (x := W) (x' := W') hp hL hR rfl ?_
  intro p e s m below meth c hs K
  exact H _ ⟨K, lw, lg, rfl, rfl, rfl, rfl, hH, rfl, rfl, rfl, rfl⟩
section RulesL
variable {X : Cx (List (St × Nat))} {Z : State} {a0 : Array Value} {C : String} {FS : List FSpec} {FA : List ASpec} {nA kk : Nat} {l0 : Launch} {n1 : Nat} {sc : Nat} {H0 : Heap} {ce : List (St × Nat) → Nat × Nat} {rm rm' : Room} {kc1 ks1 : Nat} {own nm : String} {code code' : ByteArray} {ml ml' : Nat} {ret ret' : Option FieldType} {r : Option Value × List (St × Nat)} {pc : Nat} {L : List (Option Value)} {st st0 : List Value} {W W' : List (St × Nat)}
theorem capL (K : CtxL X Z a0 C FS FA nA kk l0 n1 sc H0 ce rm kc1 ks1 own nm code ml ret) (h1 : (ce W).1 ≤ kc1) (h2 : (ce W).2 ≤ ks1) : Cap X W := by
  obtain ⟨p, l, e, R, s, m, args, below, meth, c, ad, INV, CE, n0, kc, ks⟩ := X
  obtain ⟨-, -, -, rfl, rfl, rfl, rfl, -, rfl, rfl, rfl, rfl⟩ := K
  exact ⟨h1, h2⟩
theorem ctxl_sz (K : CtxL X Z a0 C FS FA nA kk l0 n1 sc H0 ce rm kc1 ks1 own nm code ml ret) : H0.size = n1 := by
  obtain ⟨p, l, e, R, s, m, args, below, meth, c, ad, INV, CE, n0, kc, ks⟩ := X
  obtain ⟨-, -, -, rfl, rfl, rfl, rfl, hH, -⟩ := K
  exact hH
theorem ws_ne {n0 nA i i' k x : Nat} (hi : i ≠ i') (hk : k ≤ nA) (hx : x ∈ wsOf (n0 + i' * (nA + 1)) nA) : n0 + i * (nA + 1) + k ≠ x := by
  have := of_ws hx
  intro e
  subst e
  rcases Nat.lt_or_gt_of_ne hi with q | q
  · have : (i + 1) * (nA + 1) ≤ i' * (nA + 1) := Nat.mul_le_mul_right _ q
    rw [Nat.add_mul] at this; omega
  · have : (i' + 1) * (nA + 1) ≤ i * (nA + 1) := Nat.mul_le_mul_right _ q
    rw [Nat.add_mul] at this; omega
theorem sizeW_set {i : Nat} {x y : St × Nat} (hi : W[i]? = some x) (hxy : y.2 = x.2) : sizeW (W.set i y) = sizeW W := by
  induction W generalizing i with
  | nil => simp at hi
  | cons w r ih =>
    cases i with
    | zero => simp at hi; subst hi; simp [sizeW, hxy]
    | succ i => simp at hi; have := ih hi; simp [sizeW] at this ⊢; omega
/-- object i, at its last stage or in the making, is changed by a call that keeps to its own cells -/
theorem INVl.upd (G : layGood FS FA nA = true) {h h' : Heap} (I : INVl Z C FS FA nA n1 H0 W h) {i : Nat} {x y : St × Nat} (hi : W[i]? = some x) (hR : Rep Z C FS FA (n1 + i * (nA + 1)) y.2 h' y.1) (hK : Keep h h' (wsOf (n1 + i * (nA + 1)) nA)) (hs : h'.size = n1 + sizeW (W.set i y)) (hH : H0.size = n1) : INVl Z C FS FA nA n1 H0 (W.set i y) h' := by
  obtain ⟨g1, g2, g3⟩ := I
  refine ⟨fun k z hz => ?_, hs, ?_⟩
  · by_cases e : k = i
    · subst e
      rw [List.getElem?_set_self (List.getElem?_eq_some_iff.mp hi).1] at hz
      cases hz; exact hR
    · rw [List.getElem?_set_ne (Ne.symm e)] at hz
      exact (g1 k z hz).keep' G hK fun q hq hm => ws_ne e hq hm rfl
  · refine ⟨Nat.le_trans g3.1 hK.1, fun x c hx => hK.2.1 x c (g3.2 x c hx) fun hm => ?_⟩
    have := of_ws hm
    have := (Array.getElem?_eq_some_iff.mp hx).1
    have : n1 ≤ n1 + i * (nA + 1) := Nat.le_add_right _ _
    omega
theorem l_new (K : CtxL X Z a0 C FS FA nA kk l0 n1 sc H0 (ceL kk FA) rm kc1 ks1 own nm code ml ret) {idx : Nat} (hd : decode code pc = .ok (.new idx, 3)) (w : (Cond.classLink own idx C).before a0 Z = true) (hW : sizeW W = W.length * (nA + 1)) (hl : W.length ≠ 100) (hs : hsz X = n1)
    (hc0 : (ceI FA 0).2 = 0) (hr1 : (ceL kk FA W).1 + 1 ≤ rm.cells) (hr2 : (ceL kk FA W).2 + kk ≤ rm.slots) {i : Nat} (hi : W.length = i) (h : Go X r (pc + 3) L (.ref i :: st) (W ++ [(z0, 0)])) : Go X r pc L st W := by
  obtain ⟨p, l, e, R, s, m, args, below, meth, c, ad, INV, CE, n0, kc, ks⟩ := X
  have hs0 : s.heap.size = n1 := hs
  obtain ⟨⟨hx, hby, hcm, hown, hZ, -⟩, hL, G, rfl, rfl, rfl, rfl, hH, rfl, rfl, rfl, rfl⟩ := K
  subst hi
  intro T locs A Y N I LO
  obtain ⟨T', h', Y', e', E', A', D', -, st'⟩ := newO Y hx hZ hown w hL.2.1 hL.2.2 rfl (g := mkF m pc A (st.map (up (adL sc n0 nA)))) rfl (hb hby hd) hr1 hr2
  have hsz : T.heap.size = n0 + W.length * (nA + 1) := by rw [← hW]; exact I.2.1
  rw [hsz] at A' D' st'
  have hR : Rep Z C FS FA (n0 + W.length * (nA + 1)) 0 h' z0 := by
    refine ⟨A', fun f hf => ?_, fun q hq hq0 => absurd (lay_pos G hq).1 (by omega)⟩
    obtain ⟨t, ht, hdv⟩ := lay_desc G hf
    have := D' (hL.1 f hf) ht
    rw [hdv] at this
    have e1 : fval (n0 + W.length * (nA + 1)) 0 z0 f = fval 0 0 z0 f := by
      unfold fval
      split
      · rfl
      · rfl
      · rename_i hk0 hk1
        by_cases z : f.1 ≤ 0
        · exfalso
          have hd2 := lay_desc G hf
          obtain ⟨t2, ht2, hv2⟩ := hd2
          unfold fval at hv2
          split at hv2
          · contradiction
          · contradiction
          · rw [if_pos z] at hv2; cases t2 <;> simp [defaultValue] at hv2
        · rw [if_neg z, if_neg z]
    rw [e1]; exact this
  have hs2 : h'.size = n0 + sizeW (W ++ [(z0, 0)]) := by
    have q1 : T'.heap.size ≤ s.heap.size + ((ceL kk FA W).1 + 1) := Y'.heapSize
    have q2 : n0 + W.length * (nA + 1) < h'.size := A'.lt
    have q3 : (ceL kk FA W).1 = W.length * (nA + 1) := (ceL_1 _ _ _).trans hW
    rw [e', hs0, q3] at q1
    have q4 : sizeW (W ++ [(z0, 0)]) = sizeW W + 1 := by simp [sizeW]
    rw [q4, hW]
    generalize W.length * (nA + 1) = P at q1 q2 ⊢
    have q5 : h'.size ≤ n0 + (P + 1) := q1
    omega
  obtain ⟨s₂, h1, h2⟩ := h T' locs A (by
      have q1 : (ceL kk FA (W ++ [(z0, 0)])) = ((ceL kk FA W).1 + 1, (ceL kk FA W).2 + kk) := by simp [ceL, ceJ, hc0]
      rw [q1]; exact Y') N (by
      rw [e']
      refine ⟨fun k z hz => ?_, hs2, ⟨Nat.le_trans I.2.2.1 E'.1, fun x c hx => E'.2 x c (I.2.2.2 x c hx)⟩⟩
      by_cases q : k < W.length
      · rw [List.getElem?_append_left q] at hz; exact (I.1 k z hz).ext E'
      · rw [List.getElem?_append_right (Nat.le_of_not_lt q)] at hz
        have : k - W.length = 0 := by
          have := (List.getElem?_eq_some_iff.mp hz).1; simpa using this
        have hk : k = W.length := by omega
        subst hk
        simp at hz; subst hz; exact hR) LO
  refine ⟨s₂, st' _ ?_, h2⟩
  have e2 : up (adL sc n0 nA) (.ref W.length) = .ref (n0 + W.length * (nA + 1)) := by simp [up, adL, hl]
  rw [List.map_cons, e2] at h1
  exact h1
theorem l_init (K : CtxL X Z a0 C FS FA nA kk l0 n1 sc H0 (ceL kk FA) rm kc1 ks1 own nm code ml ret) {idx : Nat} {d : String} {ps : List FieldType} {rt : Option FieldType} (hd : decode code pc = .ok (.invokespecial idx, 3)) (w1 : (Cond.methodLink own idx ⟨C, "<init>", d⟩).before a0 Z = true) (w2 : (Cond.instanceMethod ⟨C, "<init>", d⟩).before a0 Z = true)
    (w4 : (Jvm.Cond.code ⟨C, "<init>", d⟩ code' ml' none).before a0 Z = true) (hy : C ≠ "java/lang/invoke/MethodHandle" ∧ C ≠ "java/lang/invoke/VarHandle") (hpd : parseMethodDescriptor d = some ⟨ps, rt⟩) {vs : List Value} (hvs : ∀ v ∈ vs, v.isRef = false) {i : Nat} (hst : vs.reverse ++ .ref i :: st = st0) (hlen : vs.length = ps.length) {σ' : St} {W0 : List (St × Nat)} (hW : W = W0 ++ [(z0, 0)]) (hi : W0.length = i) (hi' : i ≠ 100) (hsz : sizeW W0 = i * (nA + 1)) (hW' : W0 ++ [(σ', nA)] = W')
    (con : ConI l0 Z C FS FA nA n1 (n1 + i * (nA + 1)) ⟨C, "<init>", d⟩ code' ml' rm' (.ref 0 :: vs) σ') (hml : L.length = ml) (hr1 : rm'.frames + 1 ≤ rm.frames) (hr2 : (st.map fun v => v.category).sum + (ml' + 11) + rm'.locals ≤ rm.locals) (hr3 : rm'.cells = nA) (hr4 : rm'.slots = (ceI FA nA).2) (hc0 : (ceI FA 0).2 = 0) (hr5 : (ceL kk FA W').1 ≤ rm.cells) (hr6 : (ceL kk FA W').2 ≤ rm.slots)
    (h : Go X r (pc + 3) L st W') : Go X r pc L st0 W := by
  obtain ⟨p, l, e, R, s, m, args, below, meth, c, ad, INV, CE, n0, kc, ks⟩ := X
  obtain ⟨⟨hx, hby, hcm, hown, hZ, -⟩, hL, G, rfl, rfl, rfl, rfl, hH, rfl, rfl, rfl, rfl⟩ := K
  subst hi hW hst hW'
  intro T locs A Y N I LO
  have hWi : (W0 ++ [(z0, 0)])[W0.length]? = some (z0, 0) := by simp
  have hR := I.1 _ _ hWi
  have hT : T.heap.size = n0 + W0.length * (nA + 1) + 1 := by
    have q1 := I.2.1
    have q4 : sizeW (W0 ++ [(z0, 0)]) = sizeW W0 + 1 := by simp [sizeW]
    omega
  have c1 : ceL kk FA (W0 ++ [(σ', nA)]) = ((ceL kk FA (W0 ++ [(z0, 0)])).1 + nA, (ceL kk FA (W0 ++ [(z0, 0)])).2 + (ceI FA nA).2) := by
    simp [ceL, ceJ, hc0]; omega
  have hup : ∀ v ∈ vs, up (adL sc n0 nA) v = up (fun k => n0 + W0.length * (nA + 1) + k) v := fun v hv => by
    have := hvs v hv
    cases v <;> simp [Value.isRef, up] at this ⊢
  have eup : vs.map (up (adL sc n0 nA)) = vs.map (up (fun k => n0 + W0.length * (nA + 1) + k)) := List.map_congr_left hup
  have e0 : up (adL sc n0 nA) (.ref W0.length) = .ref (n0 + W0.length * (nA + 1)) := by simp [up, adL, hi']
  obtain ⟨w, vm₁, ⟨T', L', k', n'⟩, -, Y', ⟨Lc, ⟨q1, q2, q3, q4, q5⟩, l', y', z'⟩, st'⟩ := Y.specialBack hx (y := ⟨C, "<init>", d⟩) rfl hown (mvT hZ w1) (mvT hZ w2) (mvT hZ w4) hy
    (MetP.back (W := (st.map fun v => v.category).sum) (con [] T.heap hT hR) hZ w4 hL.2.2 hr1 hr2) (g := mkF m pc A ((vs.reverse ++ .ref W0.length :: st).map (up (adL sc n0 nA)))) rfl (by rw [hcm, ← hml]; exact LO.1) (Steps.refl _) (a := n0 + W0.length * (nA + 1))
    (argsL := vs.map (up (adL sc n0 nA))) (rest := st.map (up (adL sc n0 nA))) (lenOf hpd (by rw [List.length_map]; exact hlen)) (by simp [e0]) (by rw [up_cats]; show 2 * 0 + _ ≤ _; omega) (hb hby hd) (fun _ _ => ⟨by rw [eup]; simp [up], rfl, by show _ + rm'.cells ≤ _; rw [hr3]; rw [c1] at hr5; exact hr5, by show _ + rm'.slots ≤ _; rw [hr4]; rw [c1] at hr6; exact hr6⟩)
  dsimp only [Pt.U, Pt.locs, Pt.cells, Pt.slots] at Y' l' y' z' st' q1 q3 q4 q5
  subst l' y' z' q1
  have eW : (W0 ++ [(z0, 0)]).set W0.length (σ', nA) = W0 ++ [(σ', nA)] := by simp
  obtain ⟨s₂, h1, h2⟩ := h T' _ A (by rw [c1]; simpa [hr3, hr4] using Y') (N.app q2) (by
      have := I.upd G hWi (y := (σ', nA)) q3 q4 (by rw [q5, hT, eW]; simp [sizeW] at hsz ⊢; omega) hH
      rw [eW] at this; exact this) LO
  exact ⟨s₂, st'.trans h1, h2⟩
theorem l_call (K : CtxL X Z a0 C FS FA nA kk l0 n1 sc H0 ce rm kc1 ks1 own nm code ml ret) {idx : Nat} {n d : String} {ps : List FieldType} {rt : Option FieldType} (hd : decode code pc = .ok (.invokevirtual idx, 3)) (w1 : (Cond.methodLink own idx ⟨C, n, d⟩).before a0 Z = true) (w2 : (Cond.instanceMethod ⟨C, n, d⟩).before a0 Z = true)
    (w3 : (Cond.declares ⟨C, n, d⟩).before a0 Z = true) (w3' : (Cond.selects C ⟨C, n, d⟩ ⟨C, n, d⟩).before a0 Z = true) (w4 : (Jvm.Cond.code ⟨C, n, d⟩ code' ml' ret').before a0 Z = true) (hy : C ≠ "java/lang/invoke/MethodHandle" ∧ C ≠ "java/lang/invoke/VarHandle") (hpd : parseMethodDescriptor d = some ⟨ps, rt⟩) {vs : List Value} (hvs : ∀ v ∈ vs, v.isRef = false) {i : Nat} (hi' : i ≠ 100) (hst : vs.reverse ++ .ref i :: st = st0) (hlen : vs.length = ps.length)
    {v : Option Value} (hv : ∀ u, v = some u → u.isRef = false) {σ σ' : St} (hi : W[i]? = some (σ, nA)) (hW' : W.set i (σ', nA) = W') (con : Con l0 Z C FS FA nA n1 (n1 + i * (nA + 1)) ⟨C, n, d⟩ code' ml' ret' rm' (.ref 0 :: vs) σ v σ') (hml : L.length = ml) (hr1 : rm'.frames + 1 ≤ rm.frames) (hr2 : (st.map fun v => v.category).sum + (ml' + 11) + rm'.locals ≤ rm.locals) (hr3 : rm'.cells = 0) (hr4 : rm'.slots = 0)
    (hce : ce W' = ce W) (hr5 : (ce W).1 ≤ rm.cells) (hr6 : (ce W).2 ≤ rm.slots) (h : Go X r (pc + 3) L (v.toList ++ st) W') : Go X r pc L st0 W := by
  obtain ⟨p, l, e, R, s, m, args, below, meth, c, ad, INV, CE, n0, kc, ks⟩ := X
  obtain ⟨⟨hx, hby, hcm, hown, hZ, -⟩, hL, G, rfl, rfl, rfl, rfl, hH, rfl, rfl, rfl, rfl⟩ := K
  subst hst hW'
  intro T locs A Y N I LO
  have hR := I.1 _ _ hi
  obtain ⟨cq, kq, qa, qb, qc⟩ := isOf hZ rfl hR.1
  have hup : ∀ v ∈ vs, up (adL sc n0 nA) v = up (fun k => n0 + i * (nA + 1) + k) v := fun v hv => by
    have := hvs v hv
    cases v <;> simp [Value.isRef, up] at this ⊢
  have eup : vs.map (up (adL sc n0 nA)) = vs.map (up (fun k => n0 + i * (nA + 1) + k)) := List.map_congr_left hup
  have e0 : up (adL sc n0 nA) (.ref i) = .ref (n0 + i * (nA + 1)) := by simp [up, adL, hi']
  obtain ⟨w, vm₁, ⟨T', L', k', n'⟩, -, Y', ⟨Lc, ⟨q1, q2, q3, q4, q5⟩, l', y', z'⟩, st'⟩ := Y.virtualBack hx (y := ⟨C, n, d⟩) (z := ⟨C, n, d⟩) hown (mvT hZ w1) (mvT hZ w3) (notFace_of_selects (args := #[]) (mvT hZ w3')) (mvT hZ w3') (mvT hZ w2) hy
    (MetP.back (W := (st.map fun v => v.category).sum) (con [] T.heap hR) hZ w4 hL.2.2 hr1 hr2) qa qc (g := mkF m pc A ((vs.reverse ++ .ref i :: st).map (up (adL sc n0 nA)))) rfl (by rw [hcm, ← hml]; exact LO.1) (Steps.refl _)
    (argsL := vs.map (up (adL sc n0 nA))) (rest := st.map (up (adL sc n0 nA))) (lenOf hpd (by rw [List.length_map]; exact hlen)) (by simp [e0]) (by rw [up_cats]; show 2 * 0 + _ ≤ _; omega) (hb hby hd) (fun _ _ => ⟨by rw [eup]; simp [up], rfl, by show _ + rm'.cells ≤ _; rw [hr3]; exact hr5, by show _ + rm'.slots ≤ _; rw [hr4]; exact hr6⟩)
  dsimp only [Pt.U, Pt.locs, Pt.cells, Pt.slots] at Y' l' y' z' st' q1 q3 q4 q5
  subst l' y' z' q1
  obtain ⟨s₂, h1, h2⟩ := h T' _ A (by rw [hce]; simpa [hr3, hr4] using Y') (N.app q2) (I.upd G hi (y := (σ', nA)) q3 q4 (by rw [q5, sizeW_set (y := (σ', nA)) hi rfl]; exact I.2.1) hH) LO
  refine ⟨s₂, st'.trans ?_, h2⟩
  have e1 : (v.toList ++ st).map (up (adL sc n0 nA)) = (v.map (up fun k => n0 + i * (nA + 1) + k)).toList ++ st.map (up (adL sc n0 nA)) := by
    cases v with
    | none => simp
    | some u => have := hv u rfl; cases u <;> simp [Value.isRef, up] at this ⊢
  rw [e1] at h1
  exact h1
theorem l_static (K : CtxL X Z a0 C FS FA nA kk l0 n1 sc H0 ce rm kc1 ks1 own nm code ml ret) {idx : Nat} {n d : String} {ps : List FieldType} {rt : Option FieldType} (hd : decode code pc = .ok (.invokestatic idx, 3)) (w1 : (Cond.methodLink own idx ⟨own, n, d⟩).before a0 Z = true) (w2 : (Cond.static ⟨own, n, d⟩).before a0 Z = true)
    (wz : (Cond.initialized own).before a0 Z = true) (w4 : (Jvm.Cond.code ⟨own, n, d⟩ code' ml' ret').before a0 Z = true) (hy : own ≠ "java/lang/invoke/MethodHandle" ∧ own ≠ "java/lang/invoke/VarHandle") (hpd : parseMethodDescriptor d = some ⟨ps, rt⟩) {vs : List Value} (hst : vs.reverse ++ st = st0) (hlen : vs.length = ps.length)
    {v : Option Value} (con : ConL l0 Z C FS FA nA n1 sc H0 ⟨own, n, d⟩ code' ml' ret' rm' vs W v W') (hml : L.length = ml) (hr1 : rm'.frames + 1 ≤ rm.frames) (hr2 : (st.map fun v => v.category).sum + (ml' + 11) + rm'.locals ≤ rm.locals) (hr3 : rm'.cells = 0) (hr4 : rm'.slots = 0)
    (hce : ce W' = ce W) (hr5 : (ce W).1 ≤ rm.cells) (hr6 : (ce W).2 ≤ rm.slots) (h : Go X r (pc + 3) L (v.toList ++ st) W') : Go X r pc L st0 W := by
  obtain ⟨p, l, e, R, s, m, args, below, meth, c, ad, INV, CE, n0, kc, ks⟩ := X
  obtain ⟨⟨hx, hby, hcm, hown, hZ, -⟩, hL, G, rfl, rfl, rfl, rfl, hH, rfl, rfl, rfl, rfl⟩ := K
  subst hst
  intro T locs A Y N I LO
  obtain ⟨w, vm₁, ⟨T', L', k', n'⟩, -, Y', ⟨Lc, ⟨q1, q2, q3⟩, l', y', z'⟩, st'⟩ := Jvm.LawKit.callS Y hx (y := ⟨own, n, d⟩) hown (mvT hZ w1) (mvT hZ w2) (mvT hZ wz) (mvT hZ w4) hy
    (MetP.back (W := (st.map fun v => v.category).sum) (con [] T.heap I) hZ w4 wz hr1 hr2) (g := mkF m pc A ((vs.reverse ++ st).map (up (adL sc n0 nA)))) rfl (by rw [hcm, ← hml]; exact LO.1)
    (argsL := vs.map (up (adL sc n0 nA))) (rest := st.map (up (adL sc n0 nA))) (lenOf hpd (by rw [List.length_map]; exact hlen)) (by simp) (by rw [up_cats]; show 2 * 0 + _ ≤ _; omega) (hb hby hd) (fun _ _ => ⟨rfl, rfl, by show _ + rm'.cells ≤ _; rw [hr3]; exact hr5, by show _ + rm'.slots ≤ _; rw [hr4]; exact hr6⟩)
  dsimp only [Pt.U, Pt.locs, Pt.cells, Pt.slots] at Y' l' y' z' st' q1 q3
  subst l' y' z' q1
  obtain ⟨s₂, h1, h2⟩ := h T' _ A (by rw [hce]; simpa [hr3, hr4] using Y') (N.app q2) q3 LO
  refine ⟨s₂, st' _ ?_, h2⟩
  have e1 : (v.toList ++ st).map (up (adL sc n0 nA)) = (v.map (up (adL sc n0 nA))).toList ++ st.map (up (adL sc n0 nA)) := by cases v <;> simp
  rw [e1] at h1
  exact h1
theorem l_len (K : CtxL X Z a0 C FS FA nA kk l0 n1 sc H0 ce rm kc1 ks1 own nm code ml ret) {z : Int32} {f : Int → Int32} (hS : Script Z H0 sc z f) (hd : decode code pc = .ok (.arraylength, 1)) (h : Go X r (pc + 1) L (.int z :: st) W) : Go X r pc L (.ref 100 :: st) W := by
  obtain ⟨p, l, e, R, s, m, args, below, meth, c, ad, INV, CE, n0, kc, ks⟩ := X
  obtain ⟨⟨hx, hby, hcm, hown, hZ, -⟩, hL, G, rfl, rfl, rfl, rfl, hH, rfl, rfl, rfl, rfl⟩ := K
  intro T locs A Y N I LO
  obtain ⟨cl, F1, F2, F3, F4⟩ := hS
  obtain ⟨s₂, h1, h2⟩ := h T locs A Y N I LO
  have ez : cl.slots.size.toInt32 = z := by
    rw [F2]; exact (back32 (by rw [Int32.lt_iff_toInt_lt]; have e0 : (0 : Int32).toInt = 0 := rfl; omega)).1
  refine ⟨s₂, Y.arraylength hx (I.2.2.2 _ _ F1.1) (State.isArrayOf_alike hZ.alike F1.2.1) (g := mkF m pc A ((Value.ref 100 :: st).map (up (adL sc n0 nA)))) rfl rfl (hb hby hd) _ ?_, h2⟩
  rw [ez]; exact h1
theorem l_iaload (K : CtxL X Z a0 C FS FA nA kk l0 n1 sc H0 ce rm kc1 ks1 own nm code ml ret) {z i : Int32} {f : Int → Int32} (hS : Script Z H0 sc z f) (hd : decode code pc = .ok (.iaload, 1)) (hi : 0 ≤ i.toInt ∧ i.toInt < z.toInt) (h : Go X r (pc + 1) L (.int (f i.toInt) :: st) W) : Go X r pc L (.int i :: .ref 100 :: st) W := by
  obtain ⟨p, l, e, R, s, m, args, below, meth, c, ad, INV, CE, n0, kc, ks⟩ := X
  obtain ⟨⟨hx, hby, hcm, hown, hZ, -⟩, hL, G, rfl, rfl, rfl, rfl, hH, rfl, rfl, rfl, rfl⟩ := K
  intro T locs A Y N I LO
  obtain ⟨cl, F1, F2, F3, F4⟩ := hS
  obtain ⟨s₂, h1, h2⟩ := h T locs A Y N I LO
  have hz : (z.toNatClampNeg : Int) = z.toInt := by simp only [Int32.toNatClampNeg]; omega
  exact ⟨s₂, Y.iaload hx (I.2.2.2 _ _ F1.1) (State.isArrayOf_alike hZ.alike F1.2.1) F1.2.2 (inb F2 hi.1 (by omega)) (at_arr F4 hi.1 (by omega)) (g := mkF m pc A ((Value.int i :: .ref 100 :: st).map (up (adL sc n0 nA)))) rfl rfl (hb hby hd) _ h1, h2⟩
end RulesL
theorem Script.le0 {Z : State} {H0 : Heap} {sc : Nat} {z : Int32} {f : Int → Int32} (h : Script Z H0 sc z f) : 0 ≤ z.toInt := by obtain ⟨_, -, -, q, -⟩ := h; exact q
theorem script_start {s : State} {args : Array Value} {sc : Nat} {n : Int32} (hf : Fit s) (esc : (Term.arg 0).eval args s none [] s = some (.ref sc)) (nA : (Cond.arrayOf (.arg 0) .int).value args s none s [] = some true) (nL : (Cond.le (.length (.arg 0)) (.int n)).value args s none s [] = some true) :
    ∃ (z : Int32) (f : Int → Int32), Script s s.heap sc z f ∧ z.toInt ≤ n.toInt := by
  obtain ⟨cl, A⟩ := Arr.start esc nA
  obtain ⟨x, y, ex, ey, -, -⟩ := cmp_v (r := true) (Or.inr (Or.inr nL))
  obtain ⟨sd, SA, hev, harrAt, -⟩ := Term.length_spec ex
  cases esc.symm.trans hev
  have h31 := SBG.length_lt hev harrAt ex
  have e1 := A.fin (Vm.Alike.refl _)
  cases e1.symm.trans harrAt
  obtain ⟨z, hz, S⟩ := Scr.start hf A h31
  obtain ⟨-, S2, S3, S4⟩ := S
  have e0 : (0 : Int32).toInt = 0 := rfl
  rw [Int32.lt_iff_toInt_lt, e0] at S3
  refine ⟨z, fun i => atv cl (Int32.ofInt i), ⟨cl, A, S2, by omega, fun i hi => ?_⟩, ?_⟩
  · have hi2 : (i : Int) < 2 ^ 31 := by have := z.toInt_lt; simp only [Int32.toNatClampNeg] at hi; omega
    have e2 : (Int32.ofInt (i : Int)).toInt = i := Int32.toInt_ofInt_of_le (by omega) (by omega)
    have e3 : (Int32.ofInt (i : Int)).toNatClampNeg = i := by simp [Int32.toNatClampNeg, e2]
    have := S4 (Int32.ofInt (i : Int)) (by rw [Int32.lt_iff_toInt_lt, e0, e2, e3]; omega)
    rw [e3] at this; exact this
  · have q1 := len_f hev harrAt h31
    have q2 := gotT (Cond.le_ints q1 (Term.int_eval n)) nL
    rw [← hz] at q2
    exact Int32.le_iff_toInt_le.mp q2
end Jvm.OwnFlat
namespace Jvm.OwnFlat
open Jvm Jvm.ClassFile Jvm.RoadKit
/-! ## 8. ints -/
theorem lt_i {x y : Int32} : x < y ↔ x.toInt < y.toInt := Int32.lt_iff_toInt_lt
theorem eq_i32 {x y : Int32} : x = y ↔ x.toInt = y.toInt := Int32.toInt_inj.symm
theorem i_add {x y : Int32} (h1 : -2147483648 ≤ x.toInt + y.toInt) (h2 : x.toInt + y.toInt < 2147483648) : (x + y).toInt = x.toInt + y.toInt := by
  have q := c_iadd x y; have r := rng32 (x + y); omega
theorem i_sub {x y : Int32} (h1 : -2147483648 ≤ x.toInt - y.toInt) (h2 : x.toInt - y.toInt < 2147483648) : (x - y).toInt = x.toInt - y.toInt := by
  have q := c_isub x y; have r := rng32 (x - y); omega
theorem i_inc {x : Int32} (h : x.toInt < 2147483647) : (x + 1).toInt = x.toInt + 1 := by
  have e : (1 : Int32).toInt = 1 := rfl
  have r := rng32 x
  rw [i_add (by omega) (by omega), e]
theorem nar0 : nar .boolean 0 = 0 := by decide
theorem nar1 : nar .boolean 1 = 1 := by decide
theorem narc0 : nar .char 0 = 0 := by decide
/-- a loop that counts up to N -/
theorem loop_up {A R : Type} {l : Nat → Int32 → A → Option R} {w : (Int32 → A → Option R) → Int32 → A → Option R} (hl : ∀ n i x, l (n + 1) i x = w (l n) i x) (N : Int) (hN : N < 2147483648) (P : Int → A → Prop) (Q : Option R → Prop)
    (step : ∀ (k : Int32 → A → Option R) i x, 0 ≤ i.toInt → i.toInt < N → P i.toInt x → (∀ x', P (i.toInt + 1) x' → Q (k (i + 1) x')) → Q (w k i x))
    (done : ∀ (k : Int32 → A → Option R) i x, i.toInt = N → P N x → Q (w k i x)) :
    ∀ (n : Nat) (i : Int32) (x : A), 0 ≤ i.toInt → i.toInt ≤ N → P i.toInt x → N - i.toInt < n → Q (l n i x) := by
  intro n
  induction n with
  | zero => intro i x h0 h1 hp hn; omega
  | succ n ih =>
    intro i x h0 h1 hp hn
    rw [hl]
    by_cases h : i.toInt < N
    · refine step _ i x h0 h hp fun x' hx' => ?_
      have e := i_inc (x := i) (by omega)
      refine ih (i + 1) x' (by omega) (by omega) (by rw [e]; exact hx') (by omega)
    · have : i.toInt = N := by omega
      exact done _ i x this (this ▸ hp)
/-- n rounds of a loop's body -/
def iterS (body : Int → St → St) : Nat → St → St
  | 0, σ => σ
  | n + 1, σ => body n (iterS body n σ)
theorem for_loop {R : Type} {l : Nat → Int32 → St → Option R} {w : (Int32 → St → Option R) → Int32 → St → Option R} (hl : ∀ n i x, l (n + 1) i x = w (l n) i x) (N : Nat) (hN : (N : Int) < 2147483648) (body : Int → St → St) (fin : St → Option R)
    (hw : ∀ (k : Int32 → St → Option R) (i : Int32) (σ : St), 0 ≤ i.toInt → i.toInt < N → w k i σ = k (i + 1) (body i.toInt σ)) (hd : ∀ (k : Int32 → St → Option R) (i : Int32) (σ : St), i.toInt = N → w k i σ = fin σ) (NF : Nat) (hF : N < NF) (σ : St) : l NF 0 σ = fin (iterS body N σ) := by
  refine loop_up hl N hN (fun i x => x = iterS body i.toNat σ) (fun o => o = fin (iterS body N σ)) ?_ ?_ NF 0 σ (by decide) (by have e : (0 : Int32).toInt = 0 := rfl; omega) rfl (by have e : (0 : Int32).toInt = 0 := rfl; omega)
  · intro k i x h0 h1 hp ih
    rw [hw k i x h0 h1]
    refine ih _ ?_
    subst hp
    have e : (i.toInt + 1).toNat = i.toInt.toNat + 1 := by omega
    rw [e]
    show _ = body _ _
    rw [Int.toNat_of_nonneg h0]
  · intro k i x hi hp
    rw [hd k i x hi, hp]; rfl
/-- one array filled from 0 -/
def fillS (σ : St) (k : Nat) (N : Int) (g : Int → Int32) : St := (σ.1, σ.2.1, fun q j => if q = k ∧ 0 ≤ j ∧ j < N then g j else σ.2.2 q j)
theorem gI_fill (σ : St) (k q : Nat) (N : Int) (g : Int → Int32) : gI (fillS σ k N g) q = gI σ q := rfl
theorem gL_fill (σ : St) (k q : Nat) (N : Int) (g : Int → Int32) : gL (fillS σ k N g) q = gL σ q := rfl
theorem gA_fill (σ : St) (k q : Nat) (N j : Int) (g : Int → Int32) : gA (fillS σ k N g) q j = if q = k ∧ 0 ≤ j ∧ j < N then g j else gA σ q j := rfl
theorem fill_iter (σ : St) (k : Nat) (g : Int → Int32) (N : Nat) : iterS (fun i σ => sA σ k i (g i)) N σ = fillS σ k N g := by
  induction N with
  | zero =>
    show σ = _
    obtain ⟨a, b, c⟩ := σ
    simp only [fillS]
    congr 2
    funext q j
    rw [if_neg]; intro h; have := h.2.1; have := h.2.2; omega
  | succ n ih =>
    show sA (iterS _ n σ) k n (g n) = _
    rw [ih]
    simp only [fillS, sA]
    congr 2
    funext q j
    by_cases h1 : q = k
    · subst h1
      by_cases h2 : j = n
      · subst h2; simp; omega
      · simp only [h2, and_false, if_false, true_and]
        by_cases h3 : 0 ≤ j ∧ j < (n : Int)
        · rw [if_pos h3, if_pos (by omega)]
        · rw [if_neg h3, if_neg (by omega)]
    · simp [h1]
theorem fill_loop {R : Type} {l : Nat → Int32 → St → Option R} {w : (Int32 → St → Option R) → Int32 → St → Option R} (hl : ∀ n i x, l (n + 1) i x = w (l n) i x) (N : Nat) (hN : (N : Int) < 2147483648) (k : Nat) (g : Int → Int32) (fin : St → Option R)
    (hw : ∀ (kk : Int32 → St → Option R) (i : Int32) (σ : St), 0 ≤ i.toInt → i.toInt < N → w kk i σ = kk (i + 1) (sA σ k i.toInt (g i.toInt))) (hd : ∀ (kk : Int32 → St → Option R) (i : Int32) (σ : St), i.toInt = N → w kk i σ = fin σ) (NF : Nat) (hF : N < NF) (σ : St) : l NF 0 σ = fin (fillS σ k N g) := by
  rw [for_loop hl N hN (fun i σ => sA σ k i (g i)) fin hw hd NF hF σ, fill_iter]
end Jvm.OwnFlat
namespace Jvm.Pilot.@@N@@
open Jvm Jvm.ClassFile Sem Op Lib Jvm.Free Jvm.Stand Jvm.LawKit Jvm.RoadKit Jvm.OwnFlat Jvm.Pilot.@@N@@.Jvm.D
set_option maxRecDepth 65536
set_option maxHeartbeats 40000000
/-! class WaitFreeUniversal: opKind=1; opArg=2; opThread=3; opStatus=4; opResp=5; opPos=6; thPhase=7; thOwn=8; thP=9; thC=10; thSteps=11; thHelped=12; thLast=13; annId=14; annKind=15; annArg=16; cellPos=17; cellId=18; cellResp=19; cellCounter=20; cellQLen=21; cellQ=22; cellLast=23; n=137; cap=138; opCount=139; tailValue=153 -/
def HW (a0 : Array Value) (Z : State) : Prop := ∀ d ∈ tables_1, d.before a0 Z = true
theorem w0 {a0 : Array Value} {Z : State} (hw : HW a0 Z) : (Jvm.Cond.classLink "WaitFreeUniversalL2" 7 "WaitFreeUniversal").before a0 Z = true := hw _ (List.mem_of_getElem? (i := 0) rfl)
theorem w1 {a0 : Array Value} {Z : State} (hw : HW a0 Z) : (Jvm.Cond.instantiable "WaitFreeUniversal" 27).before a0 Z = true := hw _ (List.mem_of_getElem? (i := 1) rfl)
theorem w2 {a0 : Array Value} {Z : State} (hw : HW a0 Z) : (Jvm.Cond.initialized "WaitFreeUniversal").before a0 Z = true := hw _ (List.mem_of_getElem? (i := 2) rfl)
theorem w3 {a0 : Array Value} {Z : State} (hw : HW a0 Z) : (Jvm.Cond.methodLink "WaitFreeUniversalL2" 9 ⟨"WaitFreeUniversal", "<init>", "(II)V"⟩).before a0 Z = true := hw _ (List.mem_of_getElem? (i := 3) rfl)
theorem w4 {a0 : Array Value} {Z : State} (hw : HW a0 Z) : (Jvm.Cond.instanceMethod ⟨"WaitFreeUniversal", "<init>", "(II)V"⟩).before a0 Z = true := hw _ (List.mem_of_getElem? (i := 4) rfl)
theorem w5 {a0 : Array Value} {Z : State} (hw : HW a0 Z) : (Jvm.Cond.code ⟨"WaitFreeUniversal", "<init>", "(II)V"⟩ prog_1_method_1_code 3 none).before a0 Z = true := hw _ (List.mem_of_getElem? (i := 5) rfl)
theorem w6 {a0 : Array Value} {Z : State} (hw : HW a0 Z) : (Jvm.Cond.methodLink "WaitFreeUniversal" 1 ⟨"java/lang/Object", "<init>", "()V"⟩).before a0 Z = true := hw _ (List.mem_of_getElem? (i := 6) rfl)
theorem w7 {a0 : Array Value} {Z : State} (hw : HW a0 Z) : (Jvm.Cond.instanceMethod ⟨"java/lang/Object", "<init>", "()V"⟩).before a0 Z = true := hw _ (List.mem_of_getElem? (i := 7) rfl)
theorem w8 {a0 : Array Value} {Z : State} (hw : HW a0 Z) : (Jvm.Cond.code ⟨"java/lang/Object", "<init>", "()V"⟩ object_method_1_code 1 none).before a0 Z = true := hw _ (List.mem_of_getElem? (i := 8) rfl)
theorem w9 {a0 : Array Value} {Z : State} (hw : HW a0 Z) : (Jvm.Cond.arrayClass Jvm.ClassFile.FieldType.int).before a0 Z = true := hw _ (List.mem_of_getElem? (i := 9) rfl)
theorem w10 {a0 : Array Value} {Z : State} (hw : HW a0 Z) : (Jvm.Cond.fieldLink "WaitFreeUniversal" 7 "WaitFreeUniversal" "opKind" "[I").before a0 Z = true := hw _ (List.mem_of_getElem? (i := 10) rfl)
theorem w11 {a0 : Array Value} {Z : State} (hw : HW a0 Z) : (Jvm.Cond.lays "WaitFreeUniversal" "WaitFreeUniversal" "opKind" "[I").before a0 Z = true := hw _ (List.mem_of_getElem? (i := 11) rfl)
theorem w12 {a0 : Array Value} {Z : State} (hw : HW a0 Z) : (Jvm.Cond.fieldLink "WaitFreeUniversal" 13 "WaitFreeUniversal" "opArg" "[I").before a0 Z = true := hw _ (List.mem_of_getElem? (i := 12) rfl)
theorem w13 {a0 : Array Value} {Z : State} (hw : HW a0 Z) : (Jvm.Cond.lays "WaitFreeUniversal" "WaitFreeUniversal" "opArg" "[I").before a0 Z = true := hw _ (List.mem_of_getElem? (i := 13) rfl)
theorem w14 {a0 : Array Value} {Z : State} (hw : HW a0 Z) : (Jvm.Cond.fieldLink "WaitFreeUniversal" 16 "WaitFreeUniversal" "opThread" "[I").before a0 Z = true := hw _ (List.mem_of_getElem? (i := 14) rfl)
theorem w15 {a0 : Array Value} {Z : State} (hw : HW a0 Z) : (Jvm.Cond.lays "WaitFreeUniversal" "WaitFreeUniversal" "opThread" "[I").before a0 Z = true := hw _ (List.mem_of_getElem? (i := 15) rfl)
theorem w16 {a0 : Array Value} {Z : State} (hw : HW a0 Z) : (Jvm.Cond.fieldLink "WaitFreeUniversal" 19 "WaitFreeUniversal" "opStatus" "[I").before a0 Z = true := hw _ (List.mem_of_getElem? (i := 16) rfl)
theorem w17 {a0 : Array Value} {Z : State} (hw : HW a0 Z) : (Jvm.Cond.lays "WaitFreeUniversal" "WaitFreeUniversal" "opStatus" "[I").before a0 Z = true := hw _ (List.mem_of_getElem? (i := 17) rfl)
theorem w18 {a0 : Array Value} {Z : State} (hw : HW a0 Z) : (Jvm.Cond.fieldLink "WaitFreeUniversal" 22 "WaitFreeUniversal" "opResp" "[I").before a0 Z = true := hw _ (List.mem_of_getElem? (i := 18) rfl)
theorem w19 {a0 : Array Value} {Z : State} (hw : HW a0 Z) : (Jvm.Cond.lays "WaitFreeUniversal" "WaitFreeUniversal" "opResp" "[I").before a0 Z = true := hw _ (List.mem_of_getElem? (i := 19) rfl)
theorem w20 {a0 : Array Value} {Z : State} (hw : HW a0 Z) : (Jvm.Cond.fieldLink "WaitFreeUniversal" 25 "WaitFreeUniversal" "opPos" "[I").before a0 Z = true := hw _ (List.mem_of_getElem? (i := 20) rfl)
theorem w21 {a0 : Array Value} {Z : State} (hw : HW a0 Z) : (Jvm.Cond.lays "WaitFreeUniversal" "WaitFreeUniversal" "opPos" "[I").before a0 Z = true := hw _ (List.mem_of_getElem? (i := 21) rfl)
theorem w22 {a0 : Array Value} {Z : State} (hw : HW a0 Z) : (Jvm.Cond.fieldLink "WaitFreeUniversal" 28 "WaitFreeUniversal" "thPhase" "[I").before a0 Z = true := hw _ (List.mem_of_getElem? (i := 22) rfl)
theorem w23 {a0 : Array Value} {Z : State} (hw : HW a0 Z) : (Jvm.Cond.lays "WaitFreeUniversal" "WaitFreeUniversal" "thPhase" "[I").before a0 Z = true := hw _ (List.mem_of_getElem? (i := 23) rfl)
theorem w24 {a0 : Array Value} {Z : State} (hw : HW a0 Z) : (Jvm.Cond.fieldLink "WaitFreeUniversal" 31 "WaitFreeUniversal" "thOwn" "[I").before a0 Z = true := hw _ (List.mem_of_getElem? (i := 24) rfl)
theorem w25 {a0 : Array Value} {Z : State} (hw : HW a0 Z) : (Jvm.Cond.lays "WaitFreeUniversal" "WaitFreeUniversal" "thOwn" "[I").before a0 Z = true := hw _ (List.mem_of_getElem? (i := 25) rfl)
theorem w26 {a0 : Array Value} {Z : State} (hw : HW a0 Z) : (Jvm.Cond.fieldLink "WaitFreeUniversal" 34 "WaitFreeUniversal" "thP" "[I").before a0 Z = true := hw _ (List.mem_of_getElem? (i := 26) rfl)
theorem w27 {a0 : Array Value} {Z : State} (hw : HW a0 Z) : (Jvm.Cond.lays "WaitFreeUniversal" "WaitFreeUniversal" "thP" "[I").before a0 Z = true := hw _ (List.mem_of_getElem? (i := 27) rfl)
theorem w28 {a0 : Array Value} {Z : State} (hw : HW a0 Z) : (Jvm.Cond.fieldLink "WaitFreeUniversal" 37 "WaitFreeUniversal" "thC" "[I").before a0 Z = true := hw _ (List.mem_of_getElem? (i := 28) rfl)
theorem w29 {a0 : Array Value} {Z : State} (hw : HW a0 Z) : (Jvm.Cond.lays "WaitFreeUniversal" "WaitFreeUniversal" "thC" "[I").before a0 Z = true := hw _ (List.mem_of_getElem? (i := 29) rfl)
theorem w30 {a0 : Array Value} {Z : State} (hw : HW a0 Z) : (Jvm.Cond.fieldLink "WaitFreeUniversal" 40 "WaitFreeUniversal" "thSteps" "[I").before a0 Z = true := hw _ (List.mem_of_getElem? (i := 30) rfl)
theorem w31 {a0 : Array Value} {Z : State} (hw : HW a0 Z) : (Jvm.Cond.lays "WaitFreeUniversal" "WaitFreeUniversal" "thSteps" "[I").before a0 Z = true := hw _ (List.mem_of_getElem? (i := 31) rfl)
theorem w32 {a0 : Array Value} {Z : State} (hw : HW a0 Z) : (Jvm.Cond.fieldLink "WaitFreeUniversal" 43 "WaitFreeUniversal" "thHelped" "[I").before a0 Z = true := hw _ (List.mem_of_getElem? (i := 32) rfl)
theorem w33 {a0 : Array Value} {Z : State} (hw : HW a0 Z) : (Jvm.Cond.lays "WaitFreeUniversal" "WaitFreeUniversal" "thHelped" "[I").before a0 Z = true := hw _ (List.mem_of_getElem? (i := 33) rfl)
theorem w34 {a0 : Array Value} {Z : State} (hw : HW a0 Z) : (Jvm.Cond.fieldLink "WaitFreeUniversal" 46 "WaitFreeUniversal" "thLast" "[I").before a0 Z = true := hw _ (List.mem_of_getElem? (i := 34) rfl)
theorem w35 {a0 : Array Value} {Z : State} (hw : HW a0 Z) : (Jvm.Cond.lays "WaitFreeUniversal" "WaitFreeUniversal" "thLast" "[I").before a0 Z = true := hw _ (List.mem_of_getElem? (i := 35) rfl)
theorem w36 {a0 : Array Value} {Z : State} (hw : HW a0 Z) : (Jvm.Cond.fieldLink "WaitFreeUniversal" 49 "WaitFreeUniversal" "annId" "[I").before a0 Z = true := hw _ (List.mem_of_getElem? (i := 36) rfl)
theorem w37 {a0 : Array Value} {Z : State} (hw : HW a0 Z) : (Jvm.Cond.lays "WaitFreeUniversal" "WaitFreeUniversal" "annId" "[I").before a0 Z = true := hw _ (List.mem_of_getElem? (i := 37) rfl)
theorem w38 {a0 : Array Value} {Z : State} (hw : HW a0 Z) : (Jvm.Cond.fieldLink "WaitFreeUniversal" 52 "WaitFreeUniversal" "annKind" "[I").before a0 Z = true := hw _ (List.mem_of_getElem? (i := 38) rfl)
theorem w39 {a0 : Array Value} {Z : State} (hw : HW a0 Z) : (Jvm.Cond.lays "WaitFreeUniversal" "WaitFreeUniversal" "annKind" "[I").before a0 Z = true := hw _ (List.mem_of_getElem? (i := 39) rfl)
theorem w40 {a0 : Array Value} {Z : State} (hw : HW a0 Z) : (Jvm.Cond.fieldLink "WaitFreeUniversal" 55 "WaitFreeUniversal" "annArg" "[I").before a0 Z = true := hw _ (List.mem_of_getElem? (i := 40) rfl)
theorem w41 {a0 : Array Value} {Z : State} (hw : HW a0 Z) : (Jvm.Cond.lays "WaitFreeUniversal" "WaitFreeUniversal" "annArg" "[I").before a0 Z = true := hw _ (List.mem_of_getElem? (i := 41) rfl)
theorem w42 {a0 : Array Value} {Z : State} (hw : HW a0 Z) : (Jvm.Cond.fieldLink "WaitFreeUniversal" 58 "WaitFreeUniversal" "cellPos" "[I").before a0 Z = true := hw _ (List.mem_of_getElem? (i := 42) rfl)
theorem w43 {a0 : Array Value} {Z : State} (hw : HW a0 Z) : (Jvm.Cond.lays "WaitFreeUniversal" "WaitFreeUniversal" "cellPos" "[I").before a0 Z = true := hw _ (List.mem_of_getElem? (i := 43) rfl)
theorem w44 {a0 : Array Value} {Z : State} (hw : HW a0 Z) : (Jvm.Cond.fieldLink "WaitFreeUniversal" 61 "WaitFreeUniversal" "cellId" "[I").before a0 Z = true := hw _ (List.mem_of_getElem? (i := 44) rfl)
theorem w45 {a0 : Array Value} {Z : State} (hw : HW a0 Z) : (Jvm.Cond.lays "WaitFreeUniversal" "WaitFreeUniversal" "cellId" "[I").before a0 Z = true := hw _ (List.mem_of_getElem? (i := 45) rfl)
theorem w46 {a0 : Array Value} {Z : State} (hw : HW a0 Z) : (Jvm.Cond.fieldLink "WaitFreeUniversal" 64 "WaitFreeUniversal" "cellResp" "[I").before a0 Z = true := hw _ (List.mem_of_getElem? (i := 46) rfl)
theorem w47 {a0 : Array Value} {Z : State} (hw : HW a0 Z) : (Jvm.Cond.lays "WaitFreeUniversal" "WaitFreeUniversal" "cellResp" "[I").before a0 Z = true := hw _ (List.mem_of_getElem? (i := 47) rfl)
theorem w48 {a0 : Array Value} {Z : State} (hw : HW a0 Z) : (Jvm.Cond.fieldLink "WaitFreeUniversal" 67 "WaitFreeUniversal" "cellCounter" "[I").before a0 Z = true := hw _ (List.mem_of_getElem? (i := 48) rfl)
theorem w49 {a0 : Array Value} {Z : State} (hw : HW a0 Z) : (Jvm.Cond.lays "WaitFreeUniversal" "WaitFreeUniversal" "cellCounter" "[I").before a0 Z = true := hw _ (List.mem_of_getElem? (i := 49) rfl)
theorem w50 {a0 : Array Value} {Z : State} (hw : HW a0 Z) : (Jvm.Cond.fieldLink "WaitFreeUniversal" 70 "WaitFreeUniversal" "cellQLen" "[I").before a0 Z = true := hw _ (List.mem_of_getElem? (i := 50) rfl)
theorem w51 {a0 : Array Value} {Z : State} (hw : HW a0 Z) : (Jvm.Cond.lays "WaitFreeUniversal" "WaitFreeUniversal" "cellQLen" "[I").before a0 Z = true := hw _ (List.mem_of_getElem? (i := 51) rfl)
theorem w52 {a0 : Array Value} {Z : State} (hw : HW a0 Z) : (Jvm.Cond.fieldLink "WaitFreeUniversal" 73 "WaitFreeUniversal" "cellQ" "[I").before a0 Z = true := hw _ (List.mem_of_getElem? (i := 52) rfl)
theorem w53 {a0 : Array Value} {Z : State} (hw : HW a0 Z) : (Jvm.Cond.lays "WaitFreeUniversal" "WaitFreeUniversal" "cellQ" "[I").before a0 Z = true := hw _ (List.mem_of_getElem? (i := 53) rfl)
theorem w54 {a0 : Array Value} {Z : State} (hw : HW a0 Z) : (Jvm.Cond.fieldLink "WaitFreeUniversal" 76 "WaitFreeUniversal" "cellLast" "[I").before a0 Z = true := hw _ (List.mem_of_getElem? (i := 54) rfl)
theorem w55 {a0 : Array Value} {Z : State} (hw : HW a0 Z) : (Jvm.Cond.lays "WaitFreeUniversal" "WaitFreeUniversal" "cellLast" "[I").before a0 Z = true := hw _ (List.mem_of_getElem? (i := 55) rfl)
theorem w56 {a0 : Array Value} {Z : State} (hw : HW a0 Z) : (Jvm.Cond.methodLink "WaitFreeUniversal" 79 ⟨"WaitFreeUniversal", "clamp", "(III)I"⟩).before a0 Z = true := hw _ (List.mem_of_getElem? (i := 56) rfl)
theorem w57 {a0 : Array Value} {Z : State} (hw : HW a0 Z) : (Jvm.Cond.instanceMethod ⟨"WaitFreeUniversal", "clamp", "(III)I"⟩).before a0 Z = true := hw _ (List.mem_of_getElem? (i := 57) rfl)
theorem w58 {a0 : Array Value} {Z : State} (hw : HW a0 Z) : (Jvm.Cond.privateMethod ⟨"WaitFreeUniversal", "clamp", "(III)I"⟩).before a0 Z = true := hw _ (List.mem_of_getElem? (i := 58) rfl)
theorem w59 {a0 : Array Value} {Z : State} (hw : HW a0 Z) : (Jvm.Cond.code ⟨"WaitFreeUniversal", "clamp", "(III)I"⟩ prog_1_method_18_code 4 (some .int)).before a0 Z = true := hw _ (List.mem_of_getElem? (i := 59) rfl)
theorem w60 {a0 : Array Value} {Z : State} (hw : HW a0 Z) : (Jvm.Cond.fieldLink "WaitFreeUniversal" 83 "WaitFreeUniversal" "n" "I").before a0 Z = true := hw _ (List.mem_of_getElem? (i := 60) rfl)
theorem w61 {a0 : Array Value} {Z : State} (hw : HW a0 Z) : (Jvm.Cond.lays "WaitFreeUniversal" "WaitFreeUniversal" "n" "I").before a0 Z = true := hw _ (List.mem_of_getElem? (i := 61) rfl)
theorem w62 {a0 : Array Value} {Z : State} (hw : HW a0 Z) : (Jvm.Cond.fieldLink "WaitFreeUniversal" 87 "WaitFreeUniversal" "cap" "I").before a0 Z = true := hw _ (List.mem_of_getElem? (i := 62) rfl)
theorem w63 {a0 : Array Value} {Z : State} (hw : HW a0 Z) : (Jvm.Cond.lays "WaitFreeUniversal" "WaitFreeUniversal" "cap" "I").before a0 Z = true := hw _ (List.mem_of_getElem? (i := 63) rfl)
theorem w64 {a0 : Array Value} {Z : State} (hw : HW a0 Z) : (Jvm.Cond.fieldLink "WaitFreeUniversal" 90 "WaitFreeUniversal" "opCount" "I").before a0 Z = true := hw _ (List.mem_of_getElem? (i := 64) rfl)
theorem w65 {a0 : Array Value} {Z : State} (hw : HW a0 Z) : (Jvm.Cond.lays "WaitFreeUniversal" "WaitFreeUniversal" "opCount" "I").before a0 Z = true := hw _ (List.mem_of_getElem? (i := 65) rfl)
theorem w66 {a0 : Array Value} {Z : State} (hw : HW a0 Z) : (Jvm.Cond.fieldLink "WaitFreeUniversal" 93 "WaitFreeUniversal" "tailValue" "I").before a0 Z = true := hw _ (List.mem_of_getElem? (i := 66) rfl)
theorem w67 {a0 : Array Value} {Z : State} (hw : HW a0 Z) : (Jvm.Cond.lays "WaitFreeUniversal" "WaitFreeUniversal" "tailValue" "I").before a0 Z = true := hw _ (List.mem_of_getElem? (i := 67) rfl)
theorem w68 {a0 : Array Value} {Z : State} (hw : HW a0 Z) : (Jvm.Cond.methodLink "WaitFreeUniversal" 96 ⟨"WaitFreeUniversal", "resetRecords", "()V"⟩).before a0 Z = true := hw _ (List.mem_of_getElem? (i := 68) rfl)
theorem w69 {a0 : Array Value} {Z : State} (hw : HW a0 Z) : (Jvm.Cond.instanceMethod ⟨"WaitFreeUniversal", "resetRecords", "()V"⟩).before a0 Z = true := hw _ (List.mem_of_getElem? (i := 69) rfl)
theorem w70 {a0 : Array Value} {Z : State} (hw : HW a0 Z) : (Jvm.Cond.privateMethod ⟨"WaitFreeUniversal", "resetRecords", "()V"⟩).before a0 Z = true := hw _ (List.mem_of_getElem? (i := 70) rfl)
theorem w71 {a0 : Array Value} {Z : State} (hw : HW a0 Z) : (Jvm.Cond.code ⟨"WaitFreeUniversal", "resetRecords", "()V"⟩ prog_1_method_27_code 2 none).before a0 Z = true := hw _ (List.mem_of_getElem? (i := 71) rfl)
theorem w72 {a0 : Array Value} {Z : State} (hw : HW a0 Z) : (Jvm.Cond.methodLink "WaitFreeUniversal" 99 ⟨"WaitFreeUniversal", "resetThreads", "()V"⟩).before a0 Z = true := hw _ (List.mem_of_getElem? (i := 72) rfl)
theorem w73 {a0 : Array Value} {Z : State} (hw : HW a0 Z) : (Jvm.Cond.instanceMethod ⟨"WaitFreeUniversal", "resetThreads", "()V"⟩).before a0 Z = true := hw _ (List.mem_of_getElem? (i := 73) rfl)
theorem w74 {a0 : Array Value} {Z : State} (hw : HW a0 Z) : (Jvm.Cond.privateMethod ⟨"WaitFreeUniversal", "resetThreads", "()V"⟩).before a0 Z = true := hw _ (List.mem_of_getElem? (i := 74) rfl)
theorem w75 {a0 : Array Value} {Z : State} (hw : HW a0 Z) : (Jvm.Cond.code ⟨"WaitFreeUniversal", "resetThreads", "()V"⟩ prog_1_method_28_code 2 none).before a0 Z = true := hw _ (List.mem_of_getElem? (i := 75) rfl)
theorem w76 {a0 : Array Value} {Z : State} (hw : HW a0 Z) : (Jvm.Cond.methodLink "WaitFreeUniversal" 154 ⟨"WaitFreeUniversal", "clearThreadLast", "(I)V"⟩).before a0 Z = true := hw _ (List.mem_of_getElem? (i := 76) rfl)
theorem w77 {a0 : Array Value} {Z : State} (hw : HW a0 Z) : (Jvm.Cond.instanceMethod ⟨"WaitFreeUniversal", "clearThreadLast", "(I)V"⟩).before a0 Z = true := hw _ (List.mem_of_getElem? (i := 77) rfl)
theorem w78 {a0 : Array Value} {Z : State} (hw : HW a0 Z) : (Jvm.Cond.privateMethod ⟨"WaitFreeUniversal", "clearThreadLast", "(I)V"⟩).before a0 Z = true := hw _ (List.mem_of_getElem? (i := 78) rfl)
theorem w79 {a0 : Array Value} {Z : State} (hw : HW a0 Z) : (Jvm.Cond.code ⟨"WaitFreeUniversal", "clearThreadLast", "(I)V"⟩ prog_1_method_45_code 3 none).before a0 Z = true := hw _ (List.mem_of_getElem? (i := 79) rfl)
theorem w80 {a0 : Array Value} {Z : State} (hw : HW a0 Z) : (Jvm.Cond.methodLink "WaitFreeUniversal" 218 ⟨"WaitFreeUniversal", "setThreadLast", "(III)V"⟩).before a0 Z = true := hw _ (List.mem_of_getElem? (i := 80) rfl)
theorem w81 {a0 : Array Value} {Z : State} (hw : HW a0 Z) : (Jvm.Cond.instanceMethod ⟨"WaitFreeUniversal", "setThreadLast", "(III)V"⟩).before a0 Z = true := hw _ (List.mem_of_getElem? (i := 81) rfl)
theorem w82 {a0 : Array Value} {Z : State} (hw : HW a0 Z) : (Jvm.Cond.privateMethod ⟨"WaitFreeUniversal", "setThreadLast", "(III)V"⟩).before a0 Z = true := hw _ (List.mem_of_getElem? (i := 82) rfl)
theorem w83 {a0 : Array Value} {Z : State} (hw : HW a0 Z) : (Jvm.Cond.code ⟨"WaitFreeUniversal", "setThreadLast", "(III)V"⟩ prog_1_method_47_code 4 none).before a0 Z = true := hw _ (List.mem_of_getElem? (i := 83) rfl)
theorem w84 {a0 : Array Value} {Z : State} (hw : HW a0 Z) : (Jvm.Cond.methodLink "WaitFreeUniversal" 102 ⟨"WaitFreeUniversal", "resetAnnounces", "()V"⟩).before a0 Z = true := hw _ (List.mem_of_getElem? (i := 84) rfl)
theorem w85 {a0 : Array Value} {Z : State} (hw : HW a0 Z) : (Jvm.Cond.instanceMethod ⟨"WaitFreeUniversal", "resetAnnounces", "()V"⟩).before a0 Z = true := hw _ (List.mem_of_getElem? (i := 85) rfl)
theorem w86 {a0 : Array Value} {Z : State} (hw : HW a0 Z) : (Jvm.Cond.privateMethod ⟨"WaitFreeUniversal", "resetAnnounces", "()V"⟩).before a0 Z = true := hw _ (List.mem_of_getElem? (i := 86) rfl)
theorem w87 {a0 : Array Value} {Z : State} (hw : HW a0 Z) : (Jvm.Cond.code ⟨"WaitFreeUniversal", "resetAnnounces", "()V"⟩ prog_1_method_29_code 2 none).before a0 Z = true := hw _ (List.mem_of_getElem? (i := 87) rfl)
theorem w88 {a0 : Array Value} {Z : State} (hw : HW a0 Z) : (Jvm.Cond.methodLink "WaitFreeUniversal" 105 ⟨"WaitFreeUniversal", "resetCells", "()V"⟩).before a0 Z = true := hw _ (List.mem_of_getElem? (i := 88) rfl)
theorem w89 {a0 : Array Value} {Z : State} (hw : HW a0 Z) : (Jvm.Cond.instanceMethod ⟨"WaitFreeUniversal", "resetCells", "()V"⟩).before a0 Z = true := hw _ (List.mem_of_getElem? (i := 89) rfl)
theorem w90 {a0 : Array Value} {Z : State} (hw : HW a0 Z) : (Jvm.Cond.privateMethod ⟨"WaitFreeUniversal", "resetCells", "()V"⟩).before a0 Z = true := hw _ (List.mem_of_getElem? (i := 90) rfl)
theorem w91 {a0 : Array Value} {Z : State} (hw : HW a0 Z) : (Jvm.Cond.code ⟨"WaitFreeUniversal", "resetCells", "()V"⟩ prog_1_method_30_code 2 none).before a0 Z = true := hw _ (List.mem_of_getElem? (i := 91) rfl)
theorem w92 {a0 : Array Value} {Z : State} (hw : HW a0 Z) : (Jvm.Cond.methodLink "WaitFreeUniversal" 158 ⟨"WaitFreeUniversal", "clearCellQueue", "(I)V"⟩).before a0 Z = true := hw _ (List.mem_of_getElem? (i := 92) rfl)
theorem w93 {a0 : Array Value} {Z : State} (hw : HW a0 Z) : (Jvm.Cond.instanceMethod ⟨"WaitFreeUniversal", "clearCellQueue", "(I)V"⟩).before a0 Z = true := hw _ (List.mem_of_getElem? (i := 93) rfl)
theorem w94 {a0 : Array Value} {Z : State} (hw : HW a0 Z) : (Jvm.Cond.privateMethod ⟨"WaitFreeUniversal", "clearCellQueue", "(I)V"⟩).before a0 Z = true := hw _ (List.mem_of_getElem? (i := 94) rfl)
theorem w95 {a0 : Array Value} {Z : State} (hw : HW a0 Z) : (Jvm.Cond.code ⟨"WaitFreeUniversal", "clearCellQueue", "(I)V"⟩ prog_1_method_31_code 3 none).before a0 Z = true := hw _ (List.mem_of_getElem? (i := 95) rfl)
theorem w96 {a0 : Array Value} {Z : State} (hw : HW a0 Z) : (Jvm.Cond.methodLink "WaitFreeUniversal" 164 ⟨"WaitFreeUniversal", "writeQueueSlot", "(III)V"⟩).before a0 Z = true := hw _ (List.mem_of_getElem? (i := 96) rfl)
theorem w97 {a0 : Array Value} {Z : State} (hw : HW a0 Z) : (Jvm.Cond.instanceMethod ⟨"WaitFreeUniversal", "writeQueueSlot", "(III)V"⟩).before a0 Z = true := hw _ (List.mem_of_getElem? (i := 97) rfl)
theorem w98 {a0 : Array Value} {Z : State} (hw : HW a0 Z) : (Jvm.Cond.privateMethod ⟨"WaitFreeUniversal", "writeQueueSlot", "(III)V"⟩).before a0 Z = true := hw _ (List.mem_of_getElem? (i := 98) rfl)
theorem w99 {a0 : Array Value} {Z : State} (hw : HW a0 Z) : (Jvm.Cond.code ⟨"WaitFreeUniversal", "writeQueueSlot", "(III)V"⟩ prog_1_method_57_code 4 none).before a0 Z = true := hw _ (List.mem_of_getElem? (i := 99) rfl)
theorem w100 {a0 : Array Value} {Z : State} (hw : HW a0 Z) : (Jvm.Cond.methodLink "WaitFreeUniversal" 161 ⟨"WaitFreeUniversal", "clearCellLast", "(I)V"⟩).before a0 Z = true := hw _ (List.mem_of_getElem? (i := 100) rfl)
theorem w101 {a0 : Array Value} {Z : State} (hw : HW a0 Z) : (Jvm.Cond.instanceMethod ⟨"WaitFreeUniversal", "clearCellLast", "(I)V"⟩).before a0 Z = true := hw _ (List.mem_of_getElem? (i := 101) rfl)
theorem w102 {a0 : Array Value} {Z : State} (hw : HW a0 Z) : (Jvm.Cond.privateMethod ⟨"WaitFreeUniversal", "clearCellLast", "(I)V"⟩).before a0 Z = true := hw _ (List.mem_of_getElem? (i := 102) rfl)
theorem w103 {a0 : Array Value} {Z : State} (hw : HW a0 Z) : (Jvm.Cond.code ⟨"WaitFreeUniversal", "clearCellLast", "(I)V"⟩ prog_1_method_32_code 3 none).before a0 Z = true := hw _ (List.mem_of_getElem? (i := 103) rfl)
theorem w104 {a0 : Array Value} {Z : State} (hw : HW a0 Z) : (Jvm.Cond.methodLink "WaitFreeUniversal" 168 ⟨"WaitFreeUniversal", "setCellLast", "(III)V"⟩).before a0 Z = true := hw _ (List.mem_of_getElem? (i := 104) rfl)
theorem w105 {a0 : Array Value} {Z : State} (hw : HW a0 Z) : (Jvm.Cond.instanceMethod ⟨"WaitFreeUniversal", "setCellLast", "(III)V"⟩).before a0 Z = true := hw _ (List.mem_of_getElem? (i := 105) rfl)
theorem w106 {a0 : Array Value} {Z : State} (hw : HW a0 Z) : (Jvm.Cond.privateMethod ⟨"WaitFreeUniversal", "setCellLast", "(III)V"⟩).before a0 Z = true := hw _ (List.mem_of_getElem? (i := 106) rfl)
theorem w107 {a0 : Array Value} {Z : State} (hw : HW a0 Z) : (Jvm.Cond.code ⟨"WaitFreeUniversal", "setCellLast", "(III)V"⟩ prog_1_method_59_code 4 none).before a0 Z = true := hw _ (List.mem_of_getElem? (i := 107) rfl)
theorem w108 {a0 : Array Value} {Z : State} (hw : HW a0 Z) : (Jvm.Cond.methodLink "WaitFreeUniversalL2" 12 ⟨"WaitFreeUniversal", "invoke", "(III)I"⟩).before a0 Z = true := hw _ (List.mem_of_getElem? (i := 108) rfl)
theorem w109 {a0 : Array Value} {Z : State} (hw : HW a0 Z) : (Jvm.Cond.declares ⟨"WaitFreeUniversal", "invoke", "(III)I"⟩).before a0 Z = true := hw _ (List.mem_of_getElem? (i := 109) rfl)
theorem w110 {a0 : Array Value} {Z : State} (hw : HW a0 Z) : (Jvm.Cond.instanceMethod ⟨"WaitFreeUniversal", "invoke", "(III)I"⟩).before a0 Z = true := hw _ (List.mem_of_getElem? (i := 110) rfl)
theorem w111 {a0 : Array Value} {Z : State} (hw : HW a0 Z) : (Jvm.Cond.selects "WaitFreeUniversal" ⟨"WaitFreeUniversal", "invoke", "(III)I"⟩ ⟨"WaitFreeUniversal", "invoke", "(III)I"⟩).before a0 Z = true := hw _ (List.mem_of_getElem? (i := 111) rfl)
theorem w112 {a0 : Array Value} {Z : State} (hw : HW a0 Z) : (Jvm.Cond.code ⟨"WaitFreeUniversal", "invoke", "(III)I"⟩ prog_1_method_2_code 4 (some .int)).before a0 Z = true := hw _ (List.mem_of_getElem? (i := 112) rfl)
theorem w113 {a0 : Array Value} {Z : State} (hw : HW a0 Z) : (Jvm.Cond.methodLink "WaitFreeUniversal" 108 ⟨"WaitFreeUniversal", "validThread", "(I)Z"⟩).before a0 Z = true := hw _ (List.mem_of_getElem? (i := 113) rfl)
theorem w114 {a0 : Array Value} {Z : State} (hw : HW a0 Z) : (Jvm.Cond.instanceMethod ⟨"WaitFreeUniversal", "validThread", "(I)Z"⟩).before a0 Z = true := hw _ (List.mem_of_getElem? (i := 114) rfl)
theorem w115 {a0 : Array Value} {Z : State} (hw : HW a0 Z) : (Jvm.Cond.privateMethod ⟨"WaitFreeUniversal", "validThread", "(I)Z"⟩).before a0 Z = true := hw _ (List.mem_of_getElem? (i := 115) rfl)
theorem w116 {a0 : Array Value} {Z : State} (hw : HW a0 Z) : (Jvm.Cond.code ⟨"WaitFreeUniversal", "validThread", "(I)Z"⟩ prog_1_method_19_code 2 (some .boolean)).before a0 Z = true := hw _ (List.mem_of_getElem? (i := 116) rfl)
theorem w117 {a0 : Array Value} {Z : State} (hw : HW a0 Z) : (Jvm.Cond.methodLink "WaitFreeUniversalL2" 16 ⟨"WaitFreeUniversal", "step", "(I)I"⟩).before a0 Z = true := hw _ (List.mem_of_getElem? (i := 117) rfl)
theorem w118 {a0 : Array Value} {Z : State} (hw : HW a0 Z) : (Jvm.Cond.declares ⟨"WaitFreeUniversal", "step", "(I)I"⟩).before a0 Z = true := hw _ (List.mem_of_getElem? (i := 118) rfl)
theorem w119 {a0 : Array Value} {Z : State} (hw : HW a0 Z) : (Jvm.Cond.instanceMethod ⟨"WaitFreeUniversal", "step", "(I)I"⟩).before a0 Z = true := hw _ (List.mem_of_getElem? (i := 119) rfl)
theorem w120 {a0 : Array Value} {Z : State} (hw : HW a0 Z) : (Jvm.Cond.selects "WaitFreeUniversal" ⟨"WaitFreeUniversal", "step", "(I)I"⟩ ⟨"WaitFreeUniversal", "step", "(I)I"⟩).before a0 Z = true := hw _ (List.mem_of_getElem? (i := 120) rfl)
theorem w121 {a0 : Array Value} {Z : State} (hw : HW a0 Z) : (Jvm.Cond.code ⟨"WaitFreeUniversal", "step", "(I)I"⟩ prog_1_method_3_code 3 (some .int)).before a0 Z = true := hw _ (List.mem_of_getElem? (i := 121) rfl)
theorem w122 {a0 : Array Value} {Z : State} (hw : HW a0 Z) : (Jvm.Cond.methodLink "WaitFreeUniversalL2" 20 ⟨"WaitFreeUniversal", "announcedId", "(I)I"⟩).before a0 Z = true := hw _ (List.mem_of_getElem? (i := 122) rfl)
theorem w123 {a0 : Array Value} {Z : State} (hw : HW a0 Z) : (Jvm.Cond.declares ⟨"WaitFreeUniversal", "announcedId", "(I)I"⟩).before a0 Z = true := hw _ (List.mem_of_getElem? (i := 123) rfl)
theorem w124 {a0 : Array Value} {Z : State} (hw : HW a0 Z) : (Jvm.Cond.instanceMethod ⟨"WaitFreeUniversal", "announcedId", "(I)I"⟩).before a0 Z = true := hw _ (List.mem_of_getElem? (i := 124) rfl)
theorem w125 {a0 : Array Value} {Z : State} (hw : HW a0 Z) : (Jvm.Cond.selects "WaitFreeUniversal" ⟨"WaitFreeUniversal", "announcedId", "(I)I"⟩ ⟨"WaitFreeUniversal", "announcedId", "(I)I"⟩).before a0 Z = true := hw _ (List.mem_of_getElem? (i := 125) rfl)
theorem w126 {a0 : Array Value} {Z : State} (hw : HW a0 Z) : (Jvm.Cond.code ⟨"WaitFreeUniversal", "announcedId", "(I)I"⟩ prog_1_method_8_code 2 (some .int)).before a0 Z = true := hw _ (List.mem_of_getElem? (i := 126) rfl)
theorem w127 {a0 : Array Value} {Z : State} (hw : HW a0 Z) : (Jvm.Cond.methodLink "WaitFreeUniversalL2" 23 ⟨"WaitFreeUniversal", "phase", "(I)I"⟩).before a0 Z = true := hw _ (List.mem_of_getElem? (i := 127) rfl)
theorem w128 {a0 : Array Value} {Z : State} (hw : HW a0 Z) : (Jvm.Cond.declares ⟨"WaitFreeUniversal", "phase", "(I)I"⟩).before a0 Z = true := hw _ (List.mem_of_getElem? (i := 128) rfl)
theorem w129 {a0 : Array Value} {Z : State} (hw : HW a0 Z) : (Jvm.Cond.instanceMethod ⟨"WaitFreeUniversal", "phase", "(I)I"⟩).before a0 Z = true := hw _ (List.mem_of_getElem? (i := 129) rfl)
theorem w130 {a0 : Array Value} {Z : State} (hw : HW a0 Z) : (Jvm.Cond.selects "WaitFreeUniversal" ⟨"WaitFreeUniversal", "phase", "(I)I"⟩ ⟨"WaitFreeUniversal", "phase", "(I)I"⟩).before a0 Z = true := hw _ (List.mem_of_getElem? (i := 130) rfl)
theorem w131 {a0 : Array Value} {Z : State} (hw : HW a0 Z) : (Jvm.Cond.code ⟨"WaitFreeUniversal", "phase", "(I)I"⟩ prog_1_method_5_code 2 (some .int)).before a0 Z = true := hw _ (List.mem_of_getElem? (i := 131) rfl)
theorem w132 {a0 : Array Value} {Z : State} (hw : HW a0 Z) : (Jvm.Cond.methodLink "WaitFreeUniversalL2" 26 ⟨"WaitFreeUniversal", "ownSteps", "(I)I"⟩).before a0 Z = true := hw _ (List.mem_of_getElem? (i := 132) rfl)
theorem w133 {a0 : Array Value} {Z : State} (hw : HW a0 Z) : (Jvm.Cond.declares ⟨"WaitFreeUniversal", "ownSteps", "(I)I"⟩).before a0 Z = true := hw _ (List.mem_of_getElem? (i := 133) rfl)
theorem w134 {a0 : Array Value} {Z : State} (hw : HW a0 Z) : (Jvm.Cond.instanceMethod ⟨"WaitFreeUniversal", "ownSteps", "(I)I"⟩).before a0 Z = true := hw _ (List.mem_of_getElem? (i := 134) rfl)
theorem w135 {a0 : Array Value} {Z : State} (hw : HW a0 Z) : (Jvm.Cond.selects "WaitFreeUniversal" ⟨"WaitFreeUniversal", "ownSteps", "(I)I"⟩ ⟨"WaitFreeUniversal", "ownSteps", "(I)I"⟩).before a0 Z = true := hw _ (List.mem_of_getElem? (i := 135) rfl)
theorem w136 {a0 : Array Value} {Z : State} (hw : HW a0 Z) : (Jvm.Cond.code ⟨"WaitFreeUniversal", "ownSteps", "(I)I"⟩ prog_1_method_9_code 2 (some .int)).before a0 Z = true := hw _ (List.mem_of_getElem? (i := 136) rfl)
theorem w137 {a0 : Array Value} {Z : State} (hw : HW a0 Z) : (Jvm.Cond.methodLink "WaitFreeUniversalL2" 29 ⟨"WaitFreeUniversal", "operationCount", "()I"⟩).before a0 Z = true := hw _ (List.mem_of_getElem? (i := 137) rfl)
theorem w138 {a0 : Array Value} {Z : State} (hw : HW a0 Z) : (Jvm.Cond.declares ⟨"WaitFreeUniversal", "operationCount", "()I"⟩).before a0 Z = true := hw _ (List.mem_of_getElem? (i := 138) rfl)
theorem w139 {a0 : Array Value} {Z : State} (hw : HW a0 Z) : (Jvm.Cond.instanceMethod ⟨"WaitFreeUniversal", "operationCount", "()I"⟩).before a0 Z = true := hw _ (List.mem_of_getElem? (i := 139) rfl)
theorem w140 {a0 : Array Value} {Z : State} (hw : HW a0 Z) : (Jvm.Cond.selects "WaitFreeUniversal" ⟨"WaitFreeUniversal", "operationCount", "()I"⟩ ⟨"WaitFreeUniversal", "operationCount", "()I"⟩).before a0 Z = true := hw _ (List.mem_of_getElem? (i := 140) rfl)
theorem w141 {a0 : Array Value} {Z : State} (hw : HW a0 Z) : (Jvm.Cond.code ⟨"WaitFreeUniversal", "operationCount", "()I"⟩ prog_1_method_17_code 1 (some .int)).before a0 Z = true := hw _ (List.mem_of_getElem? (i := 141) rfl)
theorem w142 {a0 : Array Value} {Z : State} (hw : HW a0 Z) : (Jvm.Cond.methodLink "WaitFreeUniversalL2" 33 ⟨"WaitFreeUniversal", "tail", "()I"⟩).before a0 Z = true := hw _ (List.mem_of_getElem? (i := 142) rfl)
theorem w143 {a0 : Array Value} {Z : State} (hw : HW a0 Z) : (Jvm.Cond.declares ⟨"WaitFreeUniversal", "tail", "()I"⟩).before a0 Z = true := hw _ (List.mem_of_getElem? (i := 143) rfl)
theorem w144 {a0 : Array Value} {Z : State} (hw : HW a0 Z) : (Jvm.Cond.instanceMethod ⟨"WaitFreeUniversal", "tail", "()I"⟩).before a0 Z = true := hw _ (List.mem_of_getElem? (i := 144) rfl)
theorem w145 {a0 : Array Value} {Z : State} (hw : HW a0 Z) : (Jvm.Cond.selects "WaitFreeUniversal" ⟨"WaitFreeUniversal", "tail", "()I"⟩ ⟨"WaitFreeUniversal", "tail", "()I"⟩).before a0 Z = true := hw _ (List.mem_of_getElem? (i := 145) rfl)
theorem w146 {a0 : Array Value} {Z : State} (hw : HW a0 Z) : (Jvm.Cond.code ⟨"WaitFreeUniversal", "tail", "()I"⟩ prog_1_method_10_code 1 (some .int)).before a0 Z = true := hw _ (List.mem_of_getElem? (i := 146) rfl)
theorem w147 {a0 : Array Value} {Z : State} (hw : HW a0 Z) : (Jvm.Cond.methodLink "WaitFreeUniversalL2" 36 ⟨"WaitFreeUniversal", "statusOf", "(I)I"⟩).before a0 Z = true := hw _ (List.mem_of_getElem? (i := 147) rfl)
theorem w148 {a0 : Array Value} {Z : State} (hw : HW a0 Z) : (Jvm.Cond.declares ⟨"WaitFreeUniversal", "statusOf", "(I)I"⟩).before a0 Z = true := hw _ (List.mem_of_getElem? (i := 148) rfl)
theorem w149 {a0 : Array Value} {Z : State} (hw : HW a0 Z) : (Jvm.Cond.instanceMethod ⟨"WaitFreeUniversal", "statusOf", "(I)I"⟩).before a0 Z = true := hw _ (List.mem_of_getElem? (i := 149) rfl)
theorem w150 {a0 : Array Value} {Z : State} (hw : HW a0 Z) : (Jvm.Cond.selects "WaitFreeUniversal" ⟨"WaitFreeUniversal", "statusOf", "(I)I"⟩ ⟨"WaitFreeUniversal", "statusOf", "(I)I"⟩).before a0 Z = true := hw _ (List.mem_of_getElem? (i := 150) rfl)
theorem w151 {a0 : Array Value} {Z : State} (hw : HW a0 Z) : (Jvm.Cond.code ⟨"WaitFreeUniversal", "statusOf", "(I)I"⟩ prog_1_method_14_code 2 (some .int)).before a0 Z = true := hw _ (List.mem_of_getElem? (i := 151) rfl)
theorem w152 {a0 : Array Value} {Z : State} (hw : HW a0 Z) : (Jvm.Cond.methodLink "WaitFreeUniversal" 146 ⟨"WaitFreeUniversal", "isId", "(I)Z"⟩).before a0 Z = true := hw _ (List.mem_of_getElem? (i := 152) rfl)
theorem w153 {a0 : Array Value} {Z : State} (hw : HW a0 Z) : (Jvm.Cond.instanceMethod ⟨"WaitFreeUniversal", "isId", "(I)Z"⟩).before a0 Z = true := hw _ (List.mem_of_getElem? (i := 153) rfl)
theorem w154 {a0 : Array Value} {Z : State} (hw : HW a0 Z) : (Jvm.Cond.privateMethod ⟨"WaitFreeUniversal", "isId", "(I)Z"⟩).before a0 Z = true := hw _ (List.mem_of_getElem? (i := 154) rfl)
theorem w155 {a0 : Array Value} {Z : State} (hw : HW a0 Z) : (Jvm.Cond.code ⟨"WaitFreeUniversal", "isId", "(I)Z"⟩ prog_1_method_22_code 2 (some .boolean)).before a0 Z = true := hw _ (List.mem_of_getElem? (i := 155) rfl)
theorem w156 {a0 : Array Value} {Z : State} (hw : HW a0 Z) : (Jvm.Cond.methodLink "WaitFreeUniversalL2" 39 ⟨"WaitFreeUniversalL2", "fresh", "(ZII)I"⟩).before a0 Z = true := hw _ (List.mem_of_getElem? (i := 156) rfl)
theorem w157 {a0 : Array Value} {Z : State} (hw : HW a0 Z) : (Jvm.Cond.static ⟨"WaitFreeUniversalL2", "fresh", "(ZII)I"⟩).before a0 Z = true := hw _ (List.mem_of_getElem? (i := 157) rfl)
theorem w158 {a0 : Array Value} {Z : State} (hw : HW a0 Z) : (Jvm.Cond.initialized "WaitFreeUniversalL2").before a0 Z = true := hw _ (List.mem_of_getElem? (i := 158) rfl)
theorem w159 {a0 : Array Value} {Z : State} (hw : HW a0 Z) : (Jvm.Cond.code ⟨"WaitFreeUniversalL2", "fresh", "(ZII)I"⟩ method_3_code 3 (some .int)).before a0 Z = true := hw _ (List.mem_of_getElem? (i := 159) rfl)
theorem w160 {a0 : Array Value} {Z : State} (hw : HW a0 Z) : (Jvm.Cond.methodLink "WaitFreeUniversal" 112 ⟨"WaitFreeUniversal", "validKind", "(I)Z"⟩).before a0 Z = true := hw _ (List.mem_of_getElem? (i := 160) rfl)
theorem w161 {a0 : Array Value} {Z : State} (hw : HW a0 Z) : (Jvm.Cond.instanceMethod ⟨"WaitFreeUniversal", "validKind", "(I)Z"⟩).before a0 Z = true := hw _ (List.mem_of_getElem? (i := 161) rfl)
theorem w162 {a0 : Array Value} {Z : State} (hw : HW a0 Z) : (Jvm.Cond.privateMethod ⟨"WaitFreeUniversal", "validKind", "(I)Z"⟩).before a0 Z = true := hw _ (List.mem_of_getElem? (i := 162) rfl)
theorem w163 {a0 : Array Value} {Z : State} (hw : HW a0 Z) : (Jvm.Cond.code ⟨"WaitFreeUniversal", "validKind", "(I)Z"⟩ prog_1_method_20_code 2 (some .boolean)).before a0 Z = true := hw _ (List.mem_of_getElem? (i := 163) rfl)
theorem w164 {a0 : Array Value} {Z : State} (hw : HW a0 Z) : (Jvm.Cond.methodLink "WaitFreeUniversal" 115 ⟨"WaitFreeUniversal", "validEnqValue", "(I)Z"⟩).before a0 Z = true := hw _ (List.mem_of_getElem? (i := 164) rfl)
theorem w165 {a0 : Array Value} {Z : State} (hw : HW a0 Z) : (Jvm.Cond.instanceMethod ⟨"WaitFreeUniversal", "validEnqValue", "(I)Z"⟩).before a0 Z = true := hw _ (List.mem_of_getElem? (i := 165) rfl)
theorem w166 {a0 : Array Value} {Z : State} (hw : HW a0 Z) : (Jvm.Cond.privateMethod ⟨"WaitFreeUniversal", "validEnqValue", "(I)Z"⟩).before a0 Z = true := hw _ (List.mem_of_getElem? (i := 166) rfl)
theorem w167 {a0 : Array Value} {Z : State} (hw : HW a0 Z) : (Jvm.Cond.code ⟨"WaitFreeUniversal", "validEnqValue", "(I)Z"⟩ prog_1_method_21_code 2 (some .boolean)).before a0 Z = true := hw _ (List.mem_of_getElem? (i := 167) rfl)
theorem w168 {a0 : Array Value} {Z : State} (hw : HW a0 Z) : (Jvm.Cond.methodLink "WaitFreeUniversal" 118 ⟨"WaitFreeUniversal", "acceptInvoke", "(III)I"⟩).before a0 Z = true := hw _ (List.mem_of_getElem? (i := 168) rfl)
theorem w169 {a0 : Array Value} {Z : State} (hw : HW a0 Z) : (Jvm.Cond.instanceMethod ⟨"WaitFreeUniversal", "acceptInvoke", "(III)I"⟩).before a0 Z = true := hw _ (List.mem_of_getElem? (i := 169) rfl)
theorem w170 {a0 : Array Value} {Z : State} (hw : HW a0 Z) : (Jvm.Cond.privateMethod ⟨"WaitFreeUniversal", "acceptInvoke", "(III)I"⟩).before a0 Z = true := hw _ (List.mem_of_getElem? (i := 170) rfl)
theorem w171 {a0 : Array Value} {Z : State} (hw : HW a0 Z) : (Jvm.Cond.code ⟨"WaitFreeUniversal", "acceptInvoke", "(III)I"⟩ prog_1_method_33_code 5 (some .int)).before a0 Z = true := hw _ (List.mem_of_getElem? (i := 171) rfl)
theorem w172 {a0 : Array Value} {Z : State} (hw : HW a0 Z) : (Jvm.Cond.methodLink "WaitFreeUniversal" 171 ⟨"WaitFreeUniversal", "recordOperation", "(IIII)V"⟩).before a0 Z = true := hw _ (List.mem_of_getElem? (i := 172) rfl)
theorem w173 {a0 : Array Value} {Z : State} (hw : HW a0 Z) : (Jvm.Cond.instanceMethod ⟨"WaitFreeUniversal", "recordOperation", "(IIII)V"⟩).before a0 Z = true := hw _ (List.mem_of_getElem? (i := 173) rfl)
theorem w174 {a0 : Array Value} {Z : State} (hw : HW a0 Z) : (Jvm.Cond.privateMethod ⟨"WaitFreeUniversal", "recordOperation", "(IIII)V"⟩).before a0 Z = true := hw _ (List.mem_of_getElem? (i := 174) rfl)
theorem w175 {a0 : Array Value} {Z : State} (hw : HW a0 Z) : (Jvm.Cond.code ⟨"WaitFreeUniversal", "recordOperation", "(IIII)V"⟩ prog_1_method_34_code 5 none).before a0 Z = true := hw _ (List.mem_of_getElem? (i := 175) rfl)
theorem w176 {a0 : Array Value} {Z : State} (hw : HW a0 Z) : (Jvm.Cond.methodLink "WaitFreeUniversal" 121 ⟨"WaitFreeUniversal", "dispatch", "(II)I"⟩).before a0 Z = true := hw _ (List.mem_of_getElem? (i := 176) rfl)
theorem w177 {a0 : Array Value} {Z : State} (hw : HW a0 Z) : (Jvm.Cond.instanceMethod ⟨"WaitFreeUniversal", "dispatch", "(II)I"⟩).before a0 Z = true := hw _ (List.mem_of_getElem? (i := 177) rfl)
theorem w178 {a0 : Array Value} {Z : State} (hw : HW a0 Z) : (Jvm.Cond.privateMethod ⟨"WaitFreeUniversal", "dispatch", "(II)I"⟩).before a0 Z = true := hw _ (List.mem_of_getElem? (i := 178) rfl)
theorem w179 {a0 : Array Value} {Z : State} (hw : HW a0 Z) : (Jvm.Cond.code ⟨"WaitFreeUniversal", "dispatch", "(II)I"⟩ prog_1_method_37_code 3 (some .int)).before a0 Z = true := hw _ (List.mem_of_getElem? (i := 179) rfl)
theorem w180 {a0 : Array Value} {Z : State} (hw : HW a0 Z) : (Jvm.Cond.methodLink "WaitFreeUniversal" 175 ⟨"WaitFreeUniversal", "stepAnnounce", "(I)I"⟩).before a0 Z = true := hw _ (List.mem_of_getElem? (i := 180) rfl)
theorem w181 {a0 : Array Value} {Z : State} (hw : HW a0 Z) : (Jvm.Cond.instanceMethod ⟨"WaitFreeUniversal", "stepAnnounce", "(I)I"⟩).before a0 Z = true := hw _ (List.mem_of_getElem? (i := 181) rfl)
theorem w182 {a0 : Array Value} {Z : State} (hw : HW a0 Z) : (Jvm.Cond.privateMethod ⟨"WaitFreeUniversal", "stepAnnounce", "(I)I"⟩).before a0 Z = true := hw _ (List.mem_of_getElem? (i := 182) rfl)
theorem w183 {a0 : Array Value} {Z : State} (hw : HW a0 Z) : (Jvm.Cond.code ⟨"WaitFreeUniversal", "stepAnnounce", "(I)I"⟩ prog_1_method_38_code 3 (some .int)).before a0 Z = true := hw _ (List.mem_of_getElem? (i := 183) rfl)
theorem w184 {a0 : Array Value} {Z : State} (hw : HW a0 Z) : (Jvm.Cond.methodLink "WaitFreeUniversal" 190 ⟨"WaitFreeUniversal", "kindOf", "(I)I"⟩).before a0 Z = true := hw _ (List.mem_of_getElem? (i := 184) rfl)
theorem w185 {a0 : Array Value} {Z : State} (hw : HW a0 Z) : (Jvm.Cond.instanceMethod ⟨"WaitFreeUniversal", "kindOf", "(I)I"⟩).before a0 Z = true := hw _ (List.mem_of_getElem? (i := 185) rfl)
theorem w186 {a0 : Array Value} {Z : State} (hw : HW a0 Z) : (Jvm.Cond.privateMethod ⟨"WaitFreeUniversal", "kindOf", "(I)I"⟩).before a0 Z = true := hw _ (List.mem_of_getElem? (i := 186) rfl)
theorem w187 {a0 : Array Value} {Z : State} (hw : HW a0 Z) : (Jvm.Cond.code ⟨"WaitFreeUniversal", "kindOf", "(I)I"⟩ prog_1_method_35_code 2 (some .int)).before a0 Z = true := hw _ (List.mem_of_getElem? (i := 187) rfl)
theorem w188 {a0 : Array Value} {Z : State} (hw : HW a0 Z) : (Jvm.Cond.methodLink "WaitFreeUniversal" 193 ⟨"WaitFreeUniversal", "argOf", "(I)I"⟩).before a0 Z = true := hw _ (List.mem_of_getElem? (i := 188) rfl)
theorem w189 {a0 : Array Value} {Z : State} (hw : HW a0 Z) : (Jvm.Cond.instanceMethod ⟨"WaitFreeUniversal", "argOf", "(I)I"⟩).before a0 Z = true := hw _ (List.mem_of_getElem? (i := 189) rfl)
theorem w190 {a0 : Array Value} {Z : State} (hw : HW a0 Z) : (Jvm.Cond.privateMethod ⟨"WaitFreeUniversal", "argOf", "(I)I"⟩).before a0 Z = true := hw _ (List.mem_of_getElem? (i := 190) rfl)
theorem w191 {a0 : Array Value} {Z : State} (hw : HW a0 Z) : (Jvm.Cond.code ⟨"WaitFreeUniversal", "argOf", "(I)I"⟩ prog_1_method_36_code 2 (some .int)).before a0 Z = true := hw _ (List.mem_of_getElem? (i := 191) rfl)
abbrev cC : String := "WaitFreeUniversal"
def cFS : List FSpec := [(1, "opKind", "[I", 2), (2, "opArg", "[I", 2), (3, "opThread", "[I", 2), (4, "opStatus", "[I", 2), (5, "opResp", "[I", 2), (6, "opPos", "[I", 2), (7, "thPhase", "[I", 2), (8, "thOwn", "[I", 2), (9, "thP", "[I", 2), (10, "thC", "[I", 2), (11, "thSteps", "[I", 2), (12, "thHelped", "[I", 2), (13, "thLast", "[I", 2), (14, "annId", "[I", 2), (15, "annKind", "[I", 2), (16, "annArg", "[I", 2), (17, "cellPos", "[I", 2), (18, "cellId", "[I", 2), (19, "cellResp", "[I", 2), (20, "cellCounter", "[I", 2), (21, "cellQLen", "[I", 2), (22, "cellQ", "[I", 2), (23, "cellLast", "[I", 2), (137, "n", "I", 0), (138, "cap", "I", 0), (139, "opCount", "I", 0), (153, "tailValue", "I", 0)]
def cFA : List ASpec := [(1, .int, 241), (2, .int, 241), (3, .int, 241), (4, .int, 241), (5, .int, 241), (6, .int, 241), (7, .int, 6), (8, .int, 6), (9, .int, 6), (10, .int, 6), (11, .int, 6), (12, .int, 6), (13, .int, 36), (14, .int, 6), (15, .int, 6), (16, .int, 6), (17, .int, 8), (18, .int, 8), (19, .int, 8), (20, .int, 8), (21, .int, 8), (22, .int, 32), (23, .int, 48)]
theorem mf_opKind : (1, "opKind", "[I", 2) ∈ cFS := List.mem_of_getElem? (i := 0) rfl
theorem mf_opArg : (2, "opArg", "[I", 2) ∈ cFS := List.mem_of_getElem? (i := 1) rfl
theorem mf_opThread : (3, "opThread", "[I", 2) ∈ cFS := List.mem_of_getElem? (i := 2) rfl
theorem mf_opStatus : (4, "opStatus", "[I", 2) ∈ cFS := List.mem_of_getElem? (i := 3) rfl
theorem mf_opResp : (5, "opResp", "[I", 2) ∈ cFS := List.mem_of_getElem? (i := 4) rfl
theorem mf_opPos : (6, "opPos", "[I", 2) ∈ cFS := List.mem_of_getElem? (i := 5) rfl
theorem mf_thPhase : (7, "thPhase", "[I", 2) ∈ cFS := List.mem_of_getElem? (i := 6) rfl
theorem mf_thOwn : (8, "thOwn", "[I", 2) ∈ cFS := List.mem_of_getElem? (i := 7) rfl
theorem mf_thP : (9, "thP", "[I", 2) ∈ cFS := List.mem_of_getElem? (i := 8) rfl
theorem mf_thC : (10, "thC", "[I", 2) ∈ cFS := List.mem_of_getElem? (i := 9) rfl
theorem mf_thSteps : (11, "thSteps", "[I", 2) ∈ cFS := List.mem_of_getElem? (i := 10) rfl
theorem mf_thHelped : (12, "thHelped", "[I", 2) ∈ cFS := List.mem_of_getElem? (i := 11) rfl
theorem mf_thLast : (13, "thLast", "[I", 2) ∈ cFS := List.mem_of_getElem? (i := 12) rfl
theorem mf_annId : (14, "annId", "[I", 2) ∈ cFS := List.mem_of_getElem? (i := 13) rfl
theorem mf_annKind : (15, "annKind", "[I", 2) ∈ cFS := List.mem_of_getElem? (i := 14) rfl
theorem mf_annArg : (16, "annArg", "[I", 2) ∈ cFS := List.mem_of_getElem? (i := 15) rfl
theorem mf_cellPos : (17, "cellPos", "[I", 2) ∈ cFS := List.mem_of_getElem? (i := 16) rfl
theorem mf_cellId : (18, "cellId", "[I", 2) ∈ cFS := List.mem_of_getElem? (i := 17) rfl
theorem mf_cellResp : (19, "cellResp", "[I", 2) ∈ cFS := List.mem_of_getElem? (i := 18) rfl
theorem mf_cellCounter : (20, "cellCounter", "[I", 2) ∈ cFS := List.mem_of_getElem? (i := 19) rfl
theorem mf_cellQLen : (21, "cellQLen", "[I", 2) ∈ cFS := List.mem_of_getElem? (i := 20) rfl
theorem mf_cellQ : (22, "cellQ", "[I", 2) ∈ cFS := List.mem_of_getElem? (i := 21) rfl
theorem mf_cellLast : (23, "cellLast", "[I", 2) ∈ cFS := List.mem_of_getElem? (i := 22) rfl
theorem mf_n : (137, "n", "I", 0) ∈ cFS := List.mem_of_getElem? (i := 23) rfl
theorem mf_cap : (138, "cap", "I", 0) ∈ cFS := List.mem_of_getElem? (i := 24) rfl
theorem mf_opCount : (139, "opCount", "I", 0) ∈ cFS := List.mem_of_getElem? (i := 25) rfl
theorem mf_tailValue : (153, "tailValue", "I", 0) ∈ cFS := List.mem_of_getElem? (i := 26) rfl
theorem ma_opKind : ((1, .int, 241) : ASpec) ∈ cFA := List.mem_of_getElem? (i := 0) rfl
theorem ma_opArg : ((2, .int, 241) : ASpec) ∈ cFA := List.mem_of_getElem? (i := 1) rfl
theorem ma_opThread : ((3, .int, 241) : ASpec) ∈ cFA := List.mem_of_getElem? (i := 2) rfl
theorem ma_opStatus : ((4, .int, 241) : ASpec) ∈ cFA := List.mem_of_getElem? (i := 3) rfl
theorem ma_opResp : ((5, .int, 241) : ASpec) ∈ cFA := List.mem_of_getElem? (i := 4) rfl
theorem ma_opPos : ((6, .int, 241) : ASpec) ∈ cFA := List.mem_of_getElem? (i := 5) rfl
theorem ma_thPhase : ((7, .int, 6) : ASpec) ∈ cFA := List.mem_of_getElem? (i := 6) rfl
theorem ma_thOwn : ((8, .int, 6) : ASpec) ∈ cFA := List.mem_of_getElem? (i := 7) rfl
theorem ma_thP : ((9, .int, 6) : ASpec) ∈ cFA := List.mem_of_getElem? (i := 8) rfl
theorem ma_thC : ((10, .int, 6) : ASpec) ∈ cFA := List.mem_of_getElem? (i := 9) rfl
theorem ma_thSteps : ((11, .int, 6) : ASpec) ∈ cFA := List.mem_of_getElem? (i := 10) rfl
theorem ma_thHelped : ((12, .int, 6) : ASpec) ∈ cFA := List.mem_of_getElem? (i := 11) rfl
theorem ma_thLast : ((13, .int, 36) : ASpec) ∈ cFA := List.mem_of_getElem? (i := 12) rfl
theorem ma_annId : ((14, .int, 6) : ASpec) ∈ cFA := List.mem_of_getElem? (i := 13) rfl
theorem ma_annKind : ((15, .int, 6) : ASpec) ∈ cFA := List.mem_of_getElem? (i := 14) rfl
theorem ma_annArg : ((16, .int, 6) : ASpec) ∈ cFA := List.mem_of_getElem? (i := 15) rfl
theorem ma_cellPos : ((17, .int, 8) : ASpec) ∈ cFA := List.mem_of_getElem? (i := 16) rfl
theorem ma_cellId : ((18, .int, 8) : ASpec) ∈ cFA := List.mem_of_getElem? (i := 17) rfl
theorem ma_cellResp : ((19, .int, 8) : ASpec) ∈ cFA := List.mem_of_getElem? (i := 18) rfl
theorem ma_cellCounter : ((20, .int, 8) : ASpec) ∈ cFA := List.mem_of_getElem? (i := 19) rfl
theorem ma_cellQLen : ((21, .int, 8) : ASpec) ∈ cFA := List.mem_of_getElem? (i := 20) rfl
theorem ma_cellQ : ((22, .int, 32) : ASpec) ∈ cFA := List.mem_of_getElem? (i := 21) rfl
theorem ma_cellLast : ((23, .int, 48) : ASpec) ∈ cFA := List.mem_of_getElem? (i := 22) rfl
theorem lgood : layGood cFS cFA 23 = true := by decide +kernel
theorem cj_23 : (ceJ 27 cFA [23]).1 ≤ 56 ∧ (ceJ 27 cFA [23]).2 ≤ 3456 := by decide +kernel
theorem cn_ : (ceJ 27 cFA []).1 + 1 ≤ 56 ∧ (ceJ 27 cFA []).2 + 27 ≤ 3456 := by decide +kernel
theorem ceI_nA : (1656 : Nat) = (ceI cFA 23).2 := by decide +kernel
theorem ceI_0 : (ceI cFA 0).2 = 0 := by decide +kernel
theorem layW {a0 : Array Value} {Z : State} (hw : HW a0 Z) : LayW Z a0 cC cFS 27 := by
  refine ⟨fun f hf => ?_, w1 hw, w2 hw⟩
  simp only [cFS, List.mem_cons, List.not_mem_nil, or_false] at hf
  rcases hf with rfl | rfl | rfl | rfl | rfl | rfl | rfl | rfl | rfl | rfl | rfl | rfl | rfl | rfl | rfl | rfl | rfl | rfl | rfl | rfl | rfl | rfl | rfl | rfl | rfl | rfl | rfl
  · exact Or.inl (w11 hw)
  · exact Or.inl (w13 hw)
  · exact Or.inl (w15 hw)
  · exact Or.inl (w17 hw)
  · exact Or.inl (w19 hw)
  · exact Or.inl (w21 hw)
  · exact Or.inl (w23 hw)
  · exact Or.inl (w25 hw)
  · exact Or.inl (w27 hw)
  · exact Or.inl (w29 hw)
  · exact Or.inl (w31 hw)
  · exact Or.inl (w33 hw)
  · exact Or.inl (w35 hw)
  · exact Or.inl (w37 hw)
  · exact Or.inl (w39 hw)
  · exact Or.inl (w41 hw)
  · exact Or.inl (w43 hw)
  · exact Or.inl (w45 hw)
  · exact Or.inl (w47 hw)
  · exact Or.inl (w49 hw)
  · exact Or.inl (w51 hw)
  · exact Or.inl (w53 hw)
  · exact Or.inl (w55 hw)
  · exact Or.inl (w61 hw)
  · exact Or.inl (w63 hw)
  · exact Or.inl (w65 hw)
  · exact Or.inl (w67 hw)
theorem pnC : plainName cC = true := by first | (simp [plainName, overriddenIn]; done) | decide +kernel
theorem pnL : plainName "WaitFreeUniversalL2" = true := by first | (simp [plainName, overriddenIn]; done) | decide +kernel
theorem hyC : cC ≠ "java/lang/invoke/MethodHandle" ∧ cC ≠ "java/lang/invoke/VarHandle" := by decide
theorem hyL : "WaitFreeUniversalL2" ≠ "java/lang/invoke/MethodHandle" ∧ "WaitFreeUniversalL2" ≠ "java/lang/invoke/VarHandle" := by decide
theorem pfd_I : parseFieldDescriptor "I" = some .int := by decide +kernel
theorem pfd_Z : parseFieldDescriptor "Z" = some .boolean := by decide +kernel
theorem pfd_J : parseFieldDescriptor "J" = some .long := by decide +kernel
theorem pfd_AI : parseFieldDescriptor "[I" = some (.array .int) := by decide +kernel
theorem pfd_AZ : parseFieldDescriptor "[Z" = some (.array .boolean) := by decide +kernel
theorem pfd_AC : parseFieldDescriptor "[C" = some (.array .char) := by decide +kernel
theorem pd_0 : parseMethodDescriptor "(ZII)I" = some ⟨[.boolean, .int, .int], some .int⟩ := by decide +kernel
theorem pd_1 : parseMethodDescriptor "(III)V" = some ⟨[.int, .int, .int], none⟩ := by decide +kernel
theorem pd_2 : parseMethodDescriptor "(I)V" = some ⟨[.int], none⟩ := by decide +kernel
theorem pd_3 : parseMethodDescriptor "()V" = some ⟨[], none⟩ := by decide +kernel
theorem pd_4 : parseMethodDescriptor "(III)I" = some ⟨[.int, .int, .int], some .int⟩ := by decide +kernel
theorem pd_5 : parseMethodDescriptor "(IIII)V" = some ⟨[.int, .int, .int, .int], none⟩ := by decide +kernel
theorem pd_6 : parseMethodDescriptor "(I)Z" = some ⟨[.int], some .boolean⟩ := by decide +kernel
theorem pd_7 : parseMethodDescriptor "(I)I" = some ⟨[.int], some .int⟩ := by decide +kernel
theorem pd_8 : parseMethodDescriptor "(II)I" = some ⟨[.int, .int], some .int⟩ := by decide +kernel
theorem pd_9 : parseMethodDescriptor "()I" = some ⟨[], some .int⟩ := by decide +kernel
theorem pd_10 : parseMethodDescriptor "(II)V" = some ⟨[.int, .int], none⟩ := by decide +kernel
abbrev c2 : ByteArray := method_3_code
theorem d2_0 : decode c2 0 = .ok (.iload_n 0, 1) := by decide +kernel
theorem d2_1 : decode c2 1 = .ok (.ifCond .ne 5, 3) := by decide +kernel
theorem d2_6 : decode c2 6 = .ok (.iload_n 1, 1) := by decide +kernel
theorem d2_7 : decode c2 7 = .ok (.iconst 1, 1) := by decide +kernel
theorem d2_8 : decode c2 8 = .ok (.if_icmp .eq 16, 3) := by decide +kernel
theorem d2_11 : decode c2 11 = .ok (.iload_n 1, 1) := by decide +kernel
theorem d2_12 : decode c2 12 = .ok (.iconst 2, 1) := by decide +kernel
theorem d2_13 : decode c2 13 = .ok (.if_icmp .eq 11, 3) := by decide +kernel
theorem d2_16 : decode c2 16 = .ok (.iload_n 1, 1) := by decide +kernel
theorem d2_17 : decode c2 17 = .ok (.iconst 3, 1) := by decide +kernel
theorem d2_18 : decode c2 18 = .ok (.if_icmp .eq 6, 3) := by decide +kernel
theorem d2_24 : decode c2 24 = .ok (.iload_n 1, 1) := by decide +kernel
theorem d2_25 : decode c2 25 = .ok (.iconst 2, 1) := by decide +kernel
theorem d2_26 : decode c2 26 = .ok (.if_icmp .ne 17, 3) := by decide +kernel
theorem d2_29 : decode c2 29 = .ok (.iload_n 2, 1) := by decide +kernel
theorem d2_30 : decode c2 30 = .ok (.ifCond .lt 10, 3) := by decide +kernel
theorem d2_33 : decode c2 33 = .ok (.iload_n 2, 1) := by decide +kernel
theorem d2_34 : decode c2 34 = .ok (.sipush 32767, 3) := by decide +kernel
theorem d2_37 : decode c2 37 = .ok (.if_icmp .le 6, 3) := by decide +kernel
theorem d2_43 : decode c2 43 = .ok (.iconst 1, 1) := by decide +kernel
theorem d2_44 : decode c2 44 = .ok (.ireturn, 1) := by decide +kernel
theorem d2_40 : decode c2 40 = .ok (.bipush (-4), 2) := by decide +kernel
theorem d2_42 : decode c2 42 = .ok (.ireturn, 1) := by decide +kernel
theorem d2_21 : decode c2 21 = .ok (.bipush (-3), 2) := by decide +kernel
theorem d2_23 : decode c2 23 = .ok (.ireturn, 1) := by decide +kernel
theorem d2_4 : decode c2 4 = .ok (.iconst (-1), 1) := by decide +kernel
theorem d2_5 : decode c2 5 = .ok (.ireturn, 1) := by decide +kernel
abbrev c4 : ByteArray := prog_1_method_18_code
theorem d4_0 : decode c4 0 = .ok (.iload_n 1, 1) := by decide +kernel
theorem d4_1 : decode c4 1 = .ok (.iload_n 2, 1) := by decide +kernel
theorem d4_2 : decode c4 2 = .ok (.if_icmp .ge 5, 3) := by decide +kernel
theorem d4_7 : decode c4 7 = .ok (.iload_n 1, 1) := by decide +kernel
theorem d4_8 : decode c4 8 = .ok (.iload_n 3, 1) := by decide +kernel
theorem d4_9 : decode c4 9 = .ok (.if_icmp .le 5, 3) := by decide +kernel
theorem d4_14 : decode c4 14 = .ok (.iload_n 1, 1) := by decide +kernel
theorem d4_15 : decode c4 15 = .ok (.ireturn, 1) := by decide +kernel
theorem d4_12 : decode c4 12 = .ok (.iload_n 3, 1) := by decide +kernel
theorem d4_13 : decode c4 13 = .ok (.ireturn, 1) := by decide +kernel
theorem d4_5 : decode c4 5 = .ok (.iload_n 2, 1) := by decide +kernel
theorem d4_6 : decode c4 6 = .ok (.ireturn, 1) := by decide +kernel
abbrev c5 : ByteArray := prog_1_method_27_code
theorem d5_0 : decode c5 0 = .ok (.iconst 0, 1) := by decide +kernel
theorem d5_1 : decode c5 1 = .ok (.istore_n 1, 1) := by decide +kernel
theorem d5_2 : decode c5 2 = .ok (.iload_n 1, 1) := by decide +kernel
theorem d5_3 : decode c5 3 = .ok (.sipush 240, 3) := by decide +kernel
theorem d5_6 : decode c5 6 = .ok (.if_icmp .gt 51, 3) := by decide +kernel
theorem d5_57 : decode c5 57 = .ok (.return_, 1) := by decide +kernel
theorem d5_9 : decode c5 9 = .ok (.aload_n 0, 1) := by decide +kernel
theorem d5_10 : decode c5 10 = .ok (.getfield 7, 3) := by decide +kernel
theorem d5_13 : decode c5 13 = .ok (.iload_n 1, 1) := by decide +kernel
theorem d5_14 : decode c5 14 = .ok (.iconst 0, 1) := by decide +kernel
theorem d5_15 : decode c5 15 = .ok (.iastore, 1) := by decide +kernel
theorem d5_16 : decode c5 16 = .ok (.aload_n 0, 1) := by decide +kernel
theorem d5_17 : decode c5 17 = .ok (.getfield 13, 3) := by decide +kernel
theorem d5_20 : decode c5 20 = .ok (.iload_n 1, 1) := by decide +kernel
theorem d5_21 : decode c5 21 = .ok (.iconst 0, 1) := by decide +kernel
theorem d5_22 : decode c5 22 = .ok (.iastore, 1) := by decide +kernel
theorem d5_23 : decode c5 23 = .ok (.aload_n 0, 1) := by decide +kernel
theorem d5_24 : decode c5 24 = .ok (.getfield 16, 3) := by decide +kernel
theorem d5_27 : decode c5 27 = .ok (.iload_n 1, 1) := by decide +kernel
theorem d5_28 : decode c5 28 = .ok (.iconst (-1), 1) := by decide +kernel
theorem d5_29 : decode c5 29 = .ok (.iastore, 1) := by decide +kernel
theorem d5_30 : decode c5 30 = .ok (.aload_n 0, 1) := by decide +kernel
theorem d5_31 : decode c5 31 = .ok (.getfield 19, 3) := by decide +kernel
theorem d5_34 : decode c5 34 = .ok (.iload_n 1, 1) := by decide +kernel
theorem d5_35 : decode c5 35 = .ok (.iconst 0, 1) := by decide +kernel
theorem d5_36 : decode c5 36 = .ok (.iastore, 1) := by decide +kernel
theorem d5_37 : decode c5 37 = .ok (.aload_n 0, 1) := by decide +kernel
theorem d5_38 : decode c5 38 = .ok (.getfield 22, 3) := by decide +kernel
theorem d5_41 : decode c5 41 = .ok (.iload_n 1, 1) := by decide +kernel
theorem d5_42 : decode c5 42 = .ok (.iconst 0, 1) := by decide +kernel
theorem d5_43 : decode c5 43 = .ok (.iastore, 1) := by decide +kernel
theorem d5_44 : decode c5 44 = .ok (.aload_n 0, 1) := by decide +kernel
theorem d5_45 : decode c5 45 = .ok (.getfield 25, 3) := by decide +kernel
theorem d5_48 : decode c5 48 = .ok (.iload_n 1, 1) := by decide +kernel
theorem d5_49 : decode c5 49 = .ok (.iconst 0, 1) := by decide +kernel
theorem d5_50 : decode c5 50 = .ok (.iastore, 1) := by decide +kernel
theorem d5_51 : decode c5 51 = .ok (.iinc 1 1, 3) := by decide +kernel
theorem d5_54 : decode c5 54 = .ok (.goto (-52), 3) := by decide +kernel
abbrev c8 : ByteArray := prog_1_method_47_code
theorem d8_0 : decode c8 0 = .ok (.iload_n 1, 1) := by decide +kernel
theorem d8_1 : decode c8 1 = .ok (.ifCond .lt 19, 3) := by decide +kernel
theorem d8_4 : decode c8 4 = .ok (.iload_n 1, 1) := by decide +kernel
theorem d8_5 : decode c8 5 = .ok (.bipush 6, 2) := by decide +kernel
theorem d8_7 : decode c8 7 = .ok (.if_icmp .ge 13, 3) := by decide +kernel
theorem d8_10 : decode c8 10 = .ok (.iload_n 2, 1) := by decide +kernel
theorem d8_11 : decode c8 11 = .ok (.ifCond .lt 9, 3) := by decide +kernel
theorem d8_14 : decode c8 14 = .ok (.iload_n 2, 1) := by decide +kernel
theorem d8_15 : decode c8 15 = .ok (.bipush 6, 2) := by decide +kernel
theorem d8_17 : decode c8 17 = .ok (.if_icmp .lt 4, 3) := by decide +kernel
theorem d8_21 : decode c8 21 = .ok (.aload_n 0, 1) := by decide +kernel
theorem d8_22 : decode c8 22 = .ok (.getfield 46, 3) := by decide +kernel
theorem d8_25 : decode c8 25 = .ok (.iload_n 1, 1) := by decide +kernel
theorem d8_26 : decode c8 26 = .ok (.bipush 6, 2) := by decide +kernel
theorem d8_28 : decode c8 28 = .ok (.imul, 1) := by decide +kernel
theorem d8_29 : decode c8 29 = .ok (.iload_n 2, 1) := by decide +kernel
theorem d8_30 : decode c8 30 = .ok (.iadd, 1) := by decide +kernel
theorem d8_31 : decode c8 31 = .ok (.iload_n 3, 1) := by decide +kernel
theorem d8_32 : decode c8 32 = .ok (.iastore, 1) := by decide +kernel
theorem d8_33 : decode c8 33 = .ok (.return_, 1) := by decide +kernel
theorem d8_20 : decode c8 20 = .ok (.return_, 1) := by decide +kernel
abbrev c7 : ByteArray := prog_1_method_45_code
theorem d7_0 : decode c7 0 = .ok (.iconst 0, 1) := by decide +kernel
theorem d7_1 : decode c7 1 = .ok (.istore_n 2, 1) := by decide +kernel
theorem d7_2 : decode c7 2 = .ok (.iload_n 2, 1) := by decide +kernel
theorem d7_3 : decode c7 3 = .ok (.bipush 6, 2) := by decide +kernel
theorem d7_5 : decode c7 5 = .ok (.if_icmp .ge 16, 3) := by decide +kernel
theorem d7_21 : decode c7 21 = .ok (.return_, 1) := by decide +kernel
theorem d7_8 : decode c7 8 = .ok (.aload_n 0, 1) := by decide +kernel
theorem d7_9 : decode c7 9 = .ok (.iload_n 1, 1) := by decide +kernel
theorem d7_10 : decode c7 10 = .ok (.iload_n 2, 1) := by decide +kernel
theorem d7_11 : decode c7 11 = .ok (.iconst 0, 1) := by decide +kernel
theorem d7_12 : decode c7 12 = .ok (.invokevirtual 218, 3) := by decide +kernel
theorem d7_15 : decode c7 15 = .ok (.iinc 2 1, 3) := by decide +kernel
theorem d7_18 : decode c7 18 = .ok (.goto (-16), 3) := by decide +kernel
abbrev c6 : ByteArray := prog_1_method_28_code
theorem d6_0 : decode c6 0 = .ok (.iconst 0, 1) := by decide +kernel
theorem d6_1 : decode c6 1 = .ok (.istore_n 1, 1) := by decide +kernel
theorem d6_2 : decode c6 2 = .ok (.iload_n 1, 1) := by decide +kernel
theorem d6_3 : decode c6 3 = .ok (.bipush 6, 2) := by decide +kernel
theorem d6_5 : decode c6 5 = .ok (.if_icmp .ge 56, 3) := by decide +kernel
theorem d6_61 : decode c6 61 = .ok (.return_, 1) := by decide +kernel
theorem d6_8 : decode c6 8 = .ok (.aload_n 0, 1) := by decide +kernel
theorem d6_9 : decode c6 9 = .ok (.getfield 28, 3) := by decide +kernel
theorem d6_12 : decode c6 12 = .ok (.iload_n 1, 1) := by decide +kernel
theorem d6_13 : decode c6 13 = .ok (.iconst 0, 1) := by decide +kernel
theorem d6_14 : decode c6 14 = .ok (.iastore, 1) := by decide +kernel
theorem d6_15 : decode c6 15 = .ok (.aload_n 0, 1) := by decide +kernel
theorem d6_16 : decode c6 16 = .ok (.getfield 31, 3) := by decide +kernel
theorem d6_19 : decode c6 19 = .ok (.iload_n 1, 1) := by decide +kernel
theorem d6_20 : decode c6 20 = .ok (.iconst 0, 1) := by decide +kernel
theorem d6_21 : decode c6 21 = .ok (.iastore, 1) := by decide +kernel
theorem d6_22 : decode c6 22 = .ok (.aload_n 0, 1) := by decide +kernel
theorem d6_23 : decode c6 23 = .ok (.getfield 34, 3) := by decide +kernel
theorem d6_26 : decode c6 26 = .ok (.iload_n 1, 1) := by decide +kernel
theorem d6_27 : decode c6 27 = .ok (.iconst 0, 1) := by decide +kernel
theorem d6_28 : decode c6 28 = .ok (.iastore, 1) := by decide +kernel
theorem d6_29 : decode c6 29 = .ok (.aload_n 0, 1) := by decide +kernel
theorem d6_30 : decode c6 30 = .ok (.getfield 37, 3) := by decide +kernel
theorem d6_33 : decode c6 33 = .ok (.iload_n 1, 1) := by decide +kernel
theorem d6_34 : decode c6 34 = .ok (.iconst 0, 1) := by decide +kernel
theorem d6_35 : decode c6 35 = .ok (.iastore, 1) := by decide +kernel
theorem d6_36 : decode c6 36 = .ok (.aload_n 0, 1) := by decide +kernel
theorem d6_37 : decode c6 37 = .ok (.getfield 40, 3) := by decide +kernel
theorem d6_40 : decode c6 40 = .ok (.iload_n 1, 1) := by decide +kernel
theorem d6_41 : decode c6 41 = .ok (.iconst 0, 1) := by decide +kernel
theorem d6_42 : decode c6 42 = .ok (.iastore, 1) := by decide +kernel
theorem d6_43 : decode c6 43 = .ok (.aload_n 0, 1) := by decide +kernel
theorem d6_44 : decode c6 44 = .ok (.getfield 43, 3) := by decide +kernel
theorem d6_47 : decode c6 47 = .ok (.iload_n 1, 1) := by decide +kernel
theorem d6_48 : decode c6 48 = .ok (.iconst 0, 1) := by decide +kernel
theorem d6_49 : decode c6 49 = .ok (.iastore, 1) := by decide +kernel
theorem d6_50 : decode c6 50 = .ok (.aload_n 0, 1) := by decide +kernel
theorem d6_51 : decode c6 51 = .ok (.iload_n 1, 1) := by decide +kernel
theorem d6_52 : decode c6 52 = .ok (.invokevirtual 154, 3) := by decide +kernel
theorem d6_55 : decode c6 55 = .ok (.iinc 1 1, 3) := by decide +kernel
theorem d6_58 : decode c6 58 = .ok (.goto (-56), 3) := by decide +kernel
abbrev c9 : ByteArray := prog_1_method_29_code
theorem d9_0 : decode c9 0 = .ok (.iconst 0, 1) := by decide +kernel
theorem d9_1 : decode c9 1 = .ok (.istore_n 1, 1) := by decide +kernel
theorem d9_2 : decode c9 2 = .ok (.iload_n 1, 1) := by decide +kernel
theorem d9_3 : decode c9 3 = .ok (.bipush 6, 2) := by decide +kernel
theorem d9_5 : decode c9 5 = .ok (.if_icmp .ge 30, 3) := by decide +kernel
theorem d9_35 : decode c9 35 = .ok (.return_, 1) := by decide +kernel
theorem d9_8 : decode c9 8 = .ok (.aload_n 0, 1) := by decide +kernel
theorem d9_9 : decode c9 9 = .ok (.getfield 49, 3) := by decide +kernel
theorem d9_12 : decode c9 12 = .ok (.iload_n 1, 1) := by decide +kernel
theorem d9_13 : decode c9 13 = .ok (.iconst 0, 1) := by decide +kernel
theorem d9_14 : decode c9 14 = .ok (.iastore, 1) := by decide +kernel
theorem d9_15 : decode c9 15 = .ok (.aload_n 0, 1) := by decide +kernel
theorem d9_16 : decode c9 16 = .ok (.getfield 52, 3) := by decide +kernel
theorem d9_19 : decode c9 19 = .ok (.iload_n 1, 1) := by decide +kernel
theorem d9_20 : decode c9 20 = .ok (.iconst 0, 1) := by decide +kernel
theorem d9_21 : decode c9 21 = .ok (.iastore, 1) := by decide +kernel
theorem d9_22 : decode c9 22 = .ok (.aload_n 0, 1) := by decide +kernel
theorem d9_23 : decode c9 23 = .ok (.getfield 55, 3) := by decide +kernel
theorem d9_26 : decode c9 26 = .ok (.iload_n 1, 1) := by decide +kernel
theorem d9_27 : decode c9 27 = .ok (.iconst 0, 1) := by decide +kernel
theorem d9_28 : decode c9 28 = .ok (.iastore, 1) := by decide +kernel
theorem d9_29 : decode c9 29 = .ok (.iinc 1 1, 3) := by decide +kernel
theorem d9_32 : decode c9 32 = .ok (.goto (-30), 3) := by decide +kernel
abbrev c12 : ByteArray := prog_1_method_57_code
theorem d12_0 : decode c12 0 = .ok (.iload_n 1, 1) := by decide +kernel
theorem d12_1 : decode c12 1 = .ok (.ifCond .lt 18, 3) := by decide +kernel
theorem d12_4 : decode c12 4 = .ok (.iload_n 1, 1) := by decide +kernel
theorem d12_5 : decode c12 5 = .ok (.bipush 8, 2) := by decide +kernel
theorem d12_7 : decode c12 7 = .ok (.if_icmp .ge 12, 3) := by decide +kernel
theorem d12_10 : decode c12 10 = .ok (.iload_n 2, 1) := by decide +kernel
theorem d12_11 : decode c12 11 = .ok (.ifCond .lt 8, 3) := by decide +kernel
theorem d12_14 : decode c12 14 = .ok (.iload_n 2, 1) := by decide +kernel
theorem d12_15 : decode c12 15 = .ok (.iconst 4, 1) := by decide +kernel
theorem d12_16 : decode c12 16 = .ok (.if_icmp .lt 4, 3) := by decide +kernel
theorem d12_20 : decode c12 20 = .ok (.aload_n 0, 1) := by decide +kernel
theorem d12_21 : decode c12 21 = .ok (.getfield 73, 3) := by decide +kernel
theorem d12_24 : decode c12 24 = .ok (.iload_n 1, 1) := by decide +kernel
theorem d12_25 : decode c12 25 = .ok (.iconst 4, 1) := by decide +kernel
theorem d12_26 : decode c12 26 = .ok (.imul, 1) := by decide +kernel
theorem d12_27 : decode c12 27 = .ok (.iload_n 2, 1) := by decide +kernel
theorem d12_28 : decode c12 28 = .ok (.iadd, 1) := by decide +kernel
theorem d12_29 : decode c12 29 = .ok (.iload_n 3, 1) := by decide +kernel
theorem d12_30 : decode c12 30 = .ok (.iastore, 1) := by decide +kernel
theorem d12_31 : decode c12 31 = .ok (.return_, 1) := by decide +kernel
theorem d12_19 : decode c12 19 = .ok (.return_, 1) := by decide +kernel
abbrev c11 : ByteArray := prog_1_method_31_code
theorem d11_0 : decode c11 0 = .ok (.iconst 0, 1) := by decide +kernel
theorem d11_1 : decode c11 1 = .ok (.istore_n 2, 1) := by decide +kernel
theorem d11_2 : decode c11 2 = .ok (.iload_n 2, 1) := by decide +kernel
theorem d11_3 : decode c11 3 = .ok (.iconst 4, 1) := by decide +kernel
theorem d11_4 : decode c11 4 = .ok (.if_icmp .ge 16, 3) := by decide +kernel
theorem d11_20 : decode c11 20 = .ok (.return_, 1) := by decide +kernel
theorem d11_7 : decode c11 7 = .ok (.aload_n 0, 1) := by decide +kernel
theorem d11_8 : decode c11 8 = .ok (.iload_n 1, 1) := by decide +kernel
theorem d11_9 : decode c11 9 = .ok (.iload_n 2, 1) := by decide +kernel
theorem d11_10 : decode c11 10 = .ok (.iconst 0, 1) := by decide +kernel
theorem d11_11 : decode c11 11 = .ok (.invokevirtual 164, 3) := by decide +kernel
theorem d11_14 : decode c11 14 = .ok (.iinc 2 1, 3) := by decide +kernel
theorem d11_17 : decode c11 17 = .ok (.goto (-15), 3) := by decide +kernel
abbrev c14 : ByteArray := prog_1_method_59_code
theorem d14_0 : decode c14 0 = .ok (.iload_n 1, 1) := by decide +kernel
theorem d14_1 : decode c14 1 = .ok (.ifCond .lt 19, 3) := by decide +kernel
theorem d14_4 : decode c14 4 = .ok (.iload_n 1, 1) := by decide +kernel
theorem d14_5 : decode c14 5 = .ok (.bipush 8, 2) := by decide +kernel
theorem d14_7 : decode c14 7 = .ok (.if_icmp .ge 13, 3) := by decide +kernel
theorem d14_10 : decode c14 10 = .ok (.iload_n 2, 1) := by decide +kernel
theorem d14_11 : decode c14 11 = .ok (.ifCond .lt 9, 3) := by decide +kernel
theorem d14_14 : decode c14 14 = .ok (.iload_n 2, 1) := by decide +kernel
theorem d14_15 : decode c14 15 = .ok (.bipush 6, 2) := by decide +kernel
theorem d14_17 : decode c14 17 = .ok (.if_icmp .lt 4, 3) := by decide +kernel
theorem d14_21 : decode c14 21 = .ok (.aload_n 0, 1) := by decide +kernel
theorem d14_22 : decode c14 22 = .ok (.getfield 76, 3) := by decide +kernel
theorem d14_25 : decode c14 25 = .ok (.iload_n 1, 1) := by decide +kernel
theorem d14_26 : decode c14 26 = .ok (.bipush 6, 2) := by decide +kernel
theorem d14_28 : decode c14 28 = .ok (.imul, 1) := by decide +kernel
theorem d14_29 : decode c14 29 = .ok (.iload_n 2, 1) := by decide +kernel
theorem d14_30 : decode c14 30 = .ok (.iadd, 1) := by decide +kernel
theorem d14_31 : decode c14 31 = .ok (.iload_n 3, 1) := by decide +kernel
theorem d14_32 : decode c14 32 = .ok (.iastore, 1) := by decide +kernel
theorem d14_33 : decode c14 33 = .ok (.return_, 1) := by decide +kernel
theorem d14_20 : decode c14 20 = .ok (.return_, 1) := by decide +kernel
abbrev c13 : ByteArray := prog_1_method_32_code
theorem d13_0 : decode c13 0 = .ok (.iconst 0, 1) := by decide +kernel
theorem d13_1 : decode c13 1 = .ok (.istore_n 2, 1) := by decide +kernel
theorem d13_2 : decode c13 2 = .ok (.iload_n 2, 1) := by decide +kernel
theorem d13_3 : decode c13 3 = .ok (.bipush 6, 2) := by decide +kernel
theorem d13_5 : decode c13 5 = .ok (.if_icmp .ge 16, 3) := by decide +kernel
theorem d13_21 : decode c13 21 = .ok (.return_, 1) := by decide +kernel
theorem d13_8 : decode c13 8 = .ok (.aload_n 0, 1) := by decide +kernel
theorem d13_9 : decode c13 9 = .ok (.iload_n 1, 1) := by decide +kernel
theorem d13_10 : decode c13 10 = .ok (.iload_n 2, 1) := by decide +kernel
theorem d13_11 : decode c13 11 = .ok (.iconst 0, 1) := by decide +kernel
theorem d13_12 : decode c13 12 = .ok (.invokevirtual 168, 3) := by decide +kernel
theorem d13_15 : decode c13 15 = .ok (.iinc 2 1, 3) := by decide +kernel
theorem d13_18 : decode c13 18 = .ok (.goto (-16), 3) := by decide +kernel
abbrev c10 : ByteArray := prog_1_method_30_code
theorem d10_0 : decode c10 0 = .ok (.iconst 0, 1) := by decide +kernel
theorem d10_1 : decode c10 1 = .ok (.istore_n 1, 1) := by decide +kernel
theorem d10_2 : decode c10 2 = .ok (.iload_n 1, 1) := by decide +kernel
theorem d10_3 : decode c10 3 = .ok (.bipush 8, 2) := by decide +kernel
theorem d10_5 : decode c10 5 = .ok (.if_icmp .ge 54, 3) := by decide +kernel
theorem d10_59 : decode c10 59 = .ok (.aload_n 0, 1) := by decide +kernel
theorem d10_60 : decode c10 60 = .ok (.getfield 58, 3) := by decide +kernel
theorem d10_63 : decode c10 63 = .ok (.iconst 0, 1) := by decide +kernel
theorem d10_64 : decode c10 64 = .ok (.iconst 0, 1) := by decide +kernel
theorem d10_65 : decode c10 65 = .ok (.iastore, 1) := by decide +kernel
theorem d10_66 : decode c10 66 = .ok (.return_, 1) := by decide +kernel
theorem d10_8 : decode c10 8 = .ok (.aload_n 0, 1) := by decide +kernel
theorem d10_9 : decode c10 9 = .ok (.getfield 58, 3) := by decide +kernel
theorem d10_12 : decode c10 12 = .ok (.iload_n 1, 1) := by decide +kernel
theorem d10_13 : decode c10 13 = .ok (.iconst (-1), 1) := by decide +kernel
theorem d10_14 : decode c10 14 = .ok (.iastore, 1) := by decide +kernel
theorem d10_15 : decode c10 15 = .ok (.aload_n 0, 1) := by decide +kernel
theorem d10_16 : decode c10 16 = .ok (.getfield 61, 3) := by decide +kernel
theorem d10_19 : decode c10 19 = .ok (.iload_n 1, 1) := by decide +kernel
theorem d10_20 : decode c10 20 = .ok (.iconst 0, 1) := by decide +kernel
theorem d10_21 : decode c10 21 = .ok (.iastore, 1) := by decide +kernel
theorem d10_22 : decode c10 22 = .ok (.aload_n 0, 1) := by decide +kernel
theorem d10_23 : decode c10 23 = .ok (.getfield 64, 3) := by decide +kernel
theorem d10_26 : decode c10 26 = .ok (.iload_n 1, 1) := by decide +kernel
theorem d10_27 : decode c10 27 = .ok (.iconst 0, 1) := by decide +kernel
theorem d10_28 : decode c10 28 = .ok (.iastore, 1) := by decide +kernel
theorem d10_29 : decode c10 29 = .ok (.aload_n 0, 1) := by decide +kernel
theorem d10_30 : decode c10 30 = .ok (.getfield 67, 3) := by decide +kernel
theorem d10_33 : decode c10 33 = .ok (.iload_n 1, 1) := by decide +kernel
theorem d10_34 : decode c10 34 = .ok (.iconst 0, 1) := by decide +kernel
theorem d10_35 : decode c10 35 = .ok (.iastore, 1) := by decide +kernel
theorem d10_36 : decode c10 36 = .ok (.aload_n 0, 1) := by decide +kernel
theorem d10_37 : decode c10 37 = .ok (.getfield 70, 3) := by decide +kernel
theorem d10_40 : decode c10 40 = .ok (.iload_n 1, 1) := by decide +kernel
theorem d10_41 : decode c10 41 = .ok (.iconst 0, 1) := by decide +kernel
theorem d10_42 : decode c10 42 = .ok (.iastore, 1) := by decide +kernel
theorem d10_43 : decode c10 43 = .ok (.aload_n 0, 1) := by decide +kernel
theorem d10_44 : decode c10 44 = .ok (.iload_n 1, 1) := by decide +kernel
theorem d10_45 : decode c10 45 = .ok (.invokevirtual 158, 3) := by decide +kernel
theorem d10_48 : decode c10 48 = .ok (.aload_n 0, 1) := by decide +kernel
theorem d10_49 : decode c10 49 = .ok (.iload_n 1, 1) := by decide +kernel
theorem d10_50 : decode c10 50 = .ok (.invokevirtual 161, 3) := by decide +kernel
theorem d10_53 : decode c10 53 = .ok (.iinc 1 1, 3) := by decide +kernel
theorem d10_56 : decode c10 56 = .ok (.goto (-54), 3) := by decide +kernel
abbrev c3 : ByteArray := prog_1_method_1_code
theorem d3_0 : decode c3 0 = .ok (.aload_n 0, 1) := by decide +kernel
theorem d3_1 : decode c3 1 = .ok (.invokespecial 1, 3) := by decide +kernel
theorem d3_4 : decode c3 4 = .ok (.aload_n 0, 1) := by decide +kernel
theorem d3_5 : decode c3 5 = .ok (.sipush 241, 3) := by decide +kernel
theorem d3_8 : decode c3 8 = .ok (.newarray .int, 2) := by decide +kernel
theorem d3_10 : decode c3 10 = .ok (.putfield 7, 3) := by decide +kernel
theorem d3_13 : decode c3 13 = .ok (.aload_n 0, 1) := by decide +kernel
theorem d3_14 : decode c3 14 = .ok (.sipush 241, 3) := by decide +kernel
theorem d3_17 : decode c3 17 = .ok (.newarray .int, 2) := by decide +kernel
theorem d3_19 : decode c3 19 = .ok (.putfield 13, 3) := by decide +kernel
theorem d3_22 : decode c3 22 = .ok (.aload_n 0, 1) := by decide +kernel
theorem d3_23 : decode c3 23 = .ok (.sipush 241, 3) := by decide +kernel
theorem d3_26 : decode c3 26 = .ok (.newarray .int, 2) := by decide +kernel
theorem d3_28 : decode c3 28 = .ok (.putfield 16, 3) := by decide +kernel
theorem d3_31 : decode c3 31 = .ok (.aload_n 0, 1) := by decide +kernel
theorem d3_32 : decode c3 32 = .ok (.sipush 241, 3) := by decide +kernel
theorem d3_35 : decode c3 35 = .ok (.newarray .int, 2) := by decide +kernel
theorem d3_37 : decode c3 37 = .ok (.putfield 19, 3) := by decide +kernel
theorem d3_40 : decode c3 40 = .ok (.aload_n 0, 1) := by decide +kernel
theorem d3_41 : decode c3 41 = .ok (.sipush 241, 3) := by decide +kernel
theorem d3_44 : decode c3 44 = .ok (.newarray .int, 2) := by decide +kernel
theorem d3_46 : decode c3 46 = .ok (.putfield 22, 3) := by decide +kernel
theorem d3_49 : decode c3 49 = .ok (.aload_n 0, 1) := by decide +kernel
theorem d3_50 : decode c3 50 = .ok (.sipush 241, 3) := by decide +kernel
theorem d3_53 : decode c3 53 = .ok (.newarray .int, 2) := by decide +kernel
theorem d3_55 : decode c3 55 = .ok (.putfield 25, 3) := by decide +kernel
theorem d3_58 : decode c3 58 = .ok (.aload_n 0, 1) := by decide +kernel
theorem d3_59 : decode c3 59 = .ok (.bipush 6, 2) := by decide +kernel
theorem d3_61 : decode c3 61 = .ok (.newarray .int, 2) := by decide +kernel
theorem d3_63 : decode c3 63 = .ok (.putfield 28, 3) := by decide +kernel
theorem d3_66 : decode c3 66 = .ok (.aload_n 0, 1) := by decide +kernel
theorem d3_67 : decode c3 67 = .ok (.bipush 6, 2) := by decide +kernel
theorem d3_69 : decode c3 69 = .ok (.newarray .int, 2) := by decide +kernel
theorem d3_71 : decode c3 71 = .ok (.putfield 31, 3) := by decide +kernel
theorem d3_74 : decode c3 74 = .ok (.aload_n 0, 1) := by decide +kernel
theorem d3_75 : decode c3 75 = .ok (.bipush 6, 2) := by decide +kernel
theorem d3_77 : decode c3 77 = .ok (.newarray .int, 2) := by decide +kernel
theorem d3_79 : decode c3 79 = .ok (.putfield 34, 3) := by decide +kernel
theorem d3_82 : decode c3 82 = .ok (.aload_n 0, 1) := by decide +kernel
theorem d3_83 : decode c3 83 = .ok (.bipush 6, 2) := by decide +kernel
theorem d3_85 : decode c3 85 = .ok (.newarray .int, 2) := by decide +kernel
theorem d3_87 : decode c3 87 = .ok (.putfield 37, 3) := by decide +kernel
theorem d3_90 : decode c3 90 = .ok (.aload_n 0, 1) := by decide +kernel
theorem d3_91 : decode c3 91 = .ok (.bipush 6, 2) := by decide +kernel
theorem d3_93 : decode c3 93 = .ok (.newarray .int, 2) := by decide +kernel
theorem d3_95 : decode c3 95 = .ok (.putfield 40, 3) := by decide +kernel
theorem d3_98 : decode c3 98 = .ok (.aload_n 0, 1) := by decide +kernel
theorem d3_99 : decode c3 99 = .ok (.bipush 6, 2) := by decide +kernel
theorem d3_101 : decode c3 101 = .ok (.newarray .int, 2) := by decide +kernel
theorem d3_103 : decode c3 103 = .ok (.putfield 43, 3) := by decide +kernel
theorem d3_106 : decode c3 106 = .ok (.aload_n 0, 1) := by decide +kernel
theorem d3_107 : decode c3 107 = .ok (.bipush 36, 2) := by decide +kernel
theorem d3_109 : decode c3 109 = .ok (.newarray .int, 2) := by decide +kernel
theorem d3_111 : decode c3 111 = .ok (.putfield 46, 3) := by decide +kernel
theorem d3_114 : decode c3 114 = .ok (.aload_n 0, 1) := by decide +kernel
theorem d3_115 : decode c3 115 = .ok (.bipush 6, 2) := by decide +kernel
theorem d3_117 : decode c3 117 = .ok (.newarray .int, 2) := by decide +kernel
theorem d3_119 : decode c3 119 = .ok (.putfield 49, 3) := by decide +kernel
theorem d3_122 : decode c3 122 = .ok (.aload_n 0, 1) := by decide +kernel
theorem d3_123 : decode c3 123 = .ok (.bipush 6, 2) := by decide +kernel
theorem d3_125 : decode c3 125 = .ok (.newarray .int, 2) := by decide +kernel
theorem d3_127 : decode c3 127 = .ok (.putfield 52, 3) := by decide +kernel
theorem d3_130 : decode c3 130 = .ok (.aload_n 0, 1) := by decide +kernel
theorem d3_131 : decode c3 131 = .ok (.bipush 6, 2) := by decide +kernel
theorem d3_133 : decode c3 133 = .ok (.newarray .int, 2) := by decide +kernel
theorem d3_135 : decode c3 135 = .ok (.putfield 55, 3) := by decide +kernel
theorem d3_138 : decode c3 138 = .ok (.aload_n 0, 1) := by decide +kernel
theorem d3_139 : decode c3 139 = .ok (.bipush 8, 2) := by decide +kernel
theorem d3_141 : decode c3 141 = .ok (.newarray .int, 2) := by decide +kernel
theorem d3_143 : decode c3 143 = .ok (.putfield 58, 3) := by decide +kernel
theorem d3_146 : decode c3 146 = .ok (.aload_n 0, 1) := by decide +kernel
theorem d3_147 : decode c3 147 = .ok (.bipush 8, 2) := by decide +kernel
theorem d3_149 : decode c3 149 = .ok (.newarray .int, 2) := by decide +kernel
theorem d3_151 : decode c3 151 = .ok (.putfield 61, 3) := by decide +kernel
theorem d3_154 : decode c3 154 = .ok (.aload_n 0, 1) := by decide +kernel
theorem d3_155 : decode c3 155 = .ok (.bipush 8, 2) := by decide +kernel
theorem d3_157 : decode c3 157 = .ok (.newarray .int, 2) := by decide +kernel
theorem d3_159 : decode c3 159 = .ok (.putfield 64, 3) := by decide +kernel
theorem d3_162 : decode c3 162 = .ok (.aload_n 0, 1) := by decide +kernel
theorem d3_163 : decode c3 163 = .ok (.bipush 8, 2) := by decide +kernel
theorem d3_165 : decode c3 165 = .ok (.newarray .int, 2) := by decide +kernel
theorem d3_167 : decode c3 167 = .ok (.putfield 67, 3) := by decide +kernel
theorem d3_170 : decode c3 170 = .ok (.aload_n 0, 1) := by decide +kernel
theorem d3_171 : decode c3 171 = .ok (.bipush 8, 2) := by decide +kernel
theorem d3_173 : decode c3 173 = .ok (.newarray .int, 2) := by decide +kernel
theorem d3_175 : decode c3 175 = .ok (.putfield 70, 3) := by decide +kernel
theorem d3_178 : decode c3 178 = .ok (.aload_n 0, 1) := by decide +kernel
theorem d3_179 : decode c3 179 = .ok (.bipush 32, 2) := by decide +kernel
theorem d3_181 : decode c3 181 = .ok (.newarray .int, 2) := by decide +kernel
theorem d3_183 : decode c3 183 = .ok (.putfield 73, 3) := by decide +kernel
theorem d3_186 : decode c3 186 = .ok (.aload_n 0, 1) := by decide +kernel
theorem d3_187 : decode c3 187 = .ok (.bipush 48, 2) := by decide +kernel
theorem d3_189 : decode c3 189 = .ok (.newarray .int, 2) := by decide +kernel
theorem d3_191 : decode c3 191 = .ok (.putfield 76, 3) := by decide +kernel
theorem d3_194 : decode c3 194 = .ok (.aload_n 0, 1) := by decide +kernel
theorem d3_195 : decode c3 195 = .ok (.aload_n 0, 1) := by decide +kernel
theorem d3_196 : decode c3 196 = .ok (.iload_n 1, 1) := by decide +kernel
theorem d3_197 : decode c3 197 = .ok (.iconst 2, 1) := by decide +kernel
theorem d3_198 : decode c3 198 = .ok (.bipush 6, 2) := by decide +kernel
theorem d3_200 : decode c3 200 = .ok (.invokevirtual 79, 3) := by decide +kernel
theorem d3_203 : decode c3 203 = .ok (.putfield 83, 3) := by decide +kernel
theorem d3_206 : decode c3 206 = .ok (.aload_n 0, 1) := by decide +kernel
theorem d3_207 : decode c3 207 = .ok (.aload_n 0, 1) := by decide +kernel
theorem d3_208 : decode c3 208 = .ok (.iload_n 2, 1) := by decide +kernel
theorem d3_209 : decode c3 209 = .ok (.iconst 1, 1) := by decide +kernel
theorem d3_210 : decode c3 210 = .ok (.iconst 4, 1) := by decide +kernel
theorem d3_211 : decode c3 211 = .ok (.invokevirtual 79, 3) := by decide +kernel
theorem d3_214 : decode c3 214 = .ok (.putfield 87, 3) := by decide +kernel
theorem d3_217 : decode c3 217 = .ok (.aload_n 0, 1) := by decide +kernel
theorem d3_218 : decode c3 218 = .ok (.iconst 0, 1) := by decide +kernel
theorem d3_219 : decode c3 219 = .ok (.putfield 90, 3) := by decide +kernel
theorem d3_222 : decode c3 222 = .ok (.aload_n 0, 1) := by decide +kernel
theorem d3_223 : decode c3 223 = .ok (.iconst 0, 1) := by decide +kernel
theorem d3_224 : decode c3 224 = .ok (.putfield 93, 3) := by decide +kernel
theorem d3_227 : decode c3 227 = .ok (.aload_n 0, 1) := by decide +kernel
theorem d3_228 : decode c3 228 = .ok (.invokevirtual 96, 3) := by decide +kernel
theorem d3_231 : decode c3 231 = .ok (.aload_n 0, 1) := by decide +kernel
theorem d3_232 : decode c3 232 = .ok (.invokevirtual 99, 3) := by decide +kernel
theorem d3_235 : decode c3 235 = .ok (.aload_n 0, 1) := by decide +kernel
theorem d3_236 : decode c3 236 = .ok (.invokevirtual 102, 3) := by decide +kernel
theorem d3_239 : decode c3 239 = .ok (.aload_n 0, 1) := by decide +kernel
theorem d3_240 : decode c3 240 = .ok (.invokevirtual 105, 3) := by decide +kernel
theorem d3_243 : decode c3 243 = .ok (.return_, 1) := by decide +kernel
abbrev c17 : ByteArray := prog_1_method_34_code
theorem d17_0 : decode c17 0 = .ok (.iload_n 1, 1) := by decide +kernel
theorem d17_1 : decode c17 1 = .ok (.iconst 1, 1) := by decide +kernel
theorem d17_2 : decode c17 2 = .ok (.if_icmp .lt 10, 3) := by decide +kernel
theorem d17_5 : decode c17 5 = .ok (.iload_n 1, 1) := by decide +kernel
theorem d17_6 : decode c17 6 = .ok (.sipush 240, 3) := by decide +kernel
theorem d17_9 : decode c17 9 = .ok (.if_icmp .le 4, 3) := by decide +kernel
theorem d17_13 : decode c17 13 = .ok (.aload_n 0, 1) := by decide +kernel
theorem d17_14 : decode c17 14 = .ok (.getfield 7, 3) := by decide +kernel
theorem d17_17 : decode c17 17 = .ok (.iload_n 1, 1) := by decide +kernel
theorem d17_18 : decode c17 18 = .ok (.iload_n 3, 1) := by decide +kernel
theorem d17_19 : decode c17 19 = .ok (.iastore, 1) := by decide +kernel
theorem d17_20 : decode c17 20 = .ok (.aload_n 0, 1) := by decide +kernel
theorem d17_21 : decode c17 21 = .ok (.getfield 13, 3) := by decide +kernel
theorem d17_24 : decode c17 24 = .ok (.iload_n 1, 1) := by decide +kernel
theorem d17_25 : decode c17 25 = .ok (.iload_n 3, 1) := by decide +kernel
theorem d17_26 : decode c17 26 = .ok (.iconst 3, 1) := by decide +kernel
theorem d17_27 : decode c17 27 = .ok (.if_icmp .ne 7, 3) := by decide +kernel
theorem d17_34 : decode c17 34 = .ok (.iload 4, 2) := by decide +kernel
theorem d17_30 : decode c17 30 = .ok (.iconst 0, 1) := by decide +kernel
theorem d17_31 : decode c17 31 = .ok (.goto 5, 3) := by decide +kernel
theorem d17_36 : decode c17 36 = .ok (.iastore, 1) := by decide +kernel
theorem d17_37 : decode c17 37 = .ok (.aload_n 0, 1) := by decide +kernel
theorem d17_38 : decode c17 38 = .ok (.getfield 16, 3) := by decide +kernel
theorem d17_41 : decode c17 41 = .ok (.iload_n 1, 1) := by decide +kernel
theorem d17_42 : decode c17 42 = .ok (.iload_n 2, 1) := by decide +kernel
theorem d17_43 : decode c17 43 = .ok (.iastore, 1) := by decide +kernel
theorem d17_44 : decode c17 44 = .ok (.aload_n 0, 1) := by decide +kernel
theorem d17_45 : decode c17 45 = .ok (.getfield 19, 3) := by decide +kernel
theorem d17_48 : decode c17 48 = .ok (.iload_n 1, 1) := by decide +kernel
theorem d17_49 : decode c17 49 = .ok (.iconst 1, 1) := by decide +kernel
theorem d17_50 : decode c17 50 = .ok (.iastore, 1) := by decide +kernel
theorem d17_51 : decode c17 51 = .ok (.aload_n 0, 1) := by decide +kernel
theorem d17_52 : decode c17 52 = .ok (.getfield 22, 3) := by decide +kernel
theorem d17_55 : decode c17 55 = .ok (.iload_n 1, 1) := by decide +kernel
theorem d17_56 : decode c17 56 = .ok (.iconst 0, 1) := by decide +kernel
theorem d17_57 : decode c17 57 = .ok (.iastore, 1) := by decide +kernel
theorem d17_58 : decode c17 58 = .ok (.aload_n 0, 1) := by decide +kernel
theorem d17_59 : decode c17 59 = .ok (.getfield 25, 3) := by decide +kernel
theorem d17_62 : decode c17 62 = .ok (.iload_n 1, 1) := by decide +kernel
theorem d17_63 : decode c17 63 = .ok (.iconst 0, 1) := by decide +kernel
theorem d17_64 : decode c17 64 = .ok (.iastore, 1) := by decide +kernel
theorem d17_65 : decode c17 65 = .ok (.return_, 1) := by decide +kernel
theorem d17_12 : decode c17 12 = .ok (.return_, 1) := by decide +kernel
abbrev c16 : ByteArray := prog_1_method_33_code
theorem d16_0 : decode c16 0 = .ok (.aload_n 0, 1) := by decide +kernel
theorem d16_1 : decode c16 1 = .ok (.getfield 90, 3) := by decide +kernel
theorem d16_4 : decode c16 4 = .ok (.iconst 1, 1) := by decide +kernel
theorem d16_5 : decode c16 5 = .ok (.iadd, 1) := by decide +kernel
theorem d16_6 : decode c16 6 = .ok (.istore 4, 2) := by decide +kernel
theorem d16_8 : decode c16 8 = .ok (.aload_n 0, 1) := by decide +kernel
theorem d16_9 : decode c16 9 = .ok (.iload 4, 2) := by decide +kernel
theorem d16_11 : decode c16 11 = .ok (.putfield 90, 3) := by decide +kernel
theorem d16_14 : decode c16 14 = .ok (.aload_n 0, 1) := by decide +kernel
theorem d16_15 : decode c16 15 = .ok (.iload 4, 2) := by decide +kernel
theorem d16_17 : decode c16 17 = .ok (.iload_n 1, 1) := by decide +kernel
theorem d16_18 : decode c16 18 = .ok (.iload_n 2, 1) := by decide +kernel
theorem d16_19 : decode c16 19 = .ok (.iload_n 3, 1) := by decide +kernel
theorem d16_20 : decode c16 20 = .ok (.invokevirtual 171, 3) := by decide +kernel
theorem d16_23 : decode c16 23 = .ok (.aload_n 0, 1) := by decide +kernel
theorem d16_24 : decode c16 24 = .ok (.getfield 31, 3) := by decide +kernel
theorem d16_27 : decode c16 27 = .ok (.iload_n 1, 1) := by decide +kernel
theorem d16_28 : decode c16 28 = .ok (.iload 4, 2) := by decide +kernel
theorem d16_30 : decode c16 30 = .ok (.iastore, 1) := by decide +kernel
theorem d16_31 : decode c16 31 = .ok (.aload_n 0, 1) := by decide +kernel
theorem d16_32 : decode c16 32 = .ok (.getfield 28, 3) := by decide +kernel
theorem d16_35 : decode c16 35 = .ok (.iload_n 1, 1) := by decide +kernel
theorem d16_36 : decode c16 36 = .ok (.iconst 1, 1) := by decide +kernel
theorem d16_37 : decode c16 37 = .ok (.iastore, 1) := by decide +kernel
theorem d16_38 : decode c16 38 = .ok (.aload_n 0, 1) := by decide +kernel
theorem d16_39 : decode c16 39 = .ok (.getfield 40, 3) := by decide +kernel
theorem d16_42 : decode c16 42 = .ok (.iload_n 1, 1) := by decide +kernel
theorem d16_43 : decode c16 43 = .ok (.iconst 0, 1) := by decide +kernel
theorem d16_44 : decode c16 44 = .ok (.iastore, 1) := by decide +kernel
theorem d16_45 : decode c16 45 = .ok (.aload_n 0, 1) := by decide +kernel
theorem d16_46 : decode c16 46 = .ok (.getfield 34, 3) := by decide +kernel
theorem d16_49 : decode c16 49 = .ok (.iload_n 1, 1) := by decide +kernel
theorem d16_50 : decode c16 50 = .ok (.iconst 0, 1) := by decide +kernel
theorem d16_51 : decode c16 51 = .ok (.iastore, 1) := by decide +kernel
theorem d16_52 : decode c16 52 = .ok (.aload_n 0, 1) := by decide +kernel
theorem d16_53 : decode c16 53 = .ok (.getfield 37, 3) := by decide +kernel
theorem d16_56 : decode c16 56 = .ok (.iload_n 1, 1) := by decide +kernel
theorem d16_57 : decode c16 57 = .ok (.iconst 0, 1) := by decide +kernel
theorem d16_58 : decode c16 58 = .ok (.iastore, 1) := by decide +kernel
theorem d16_59 : decode c16 59 = .ok (.aload_n 0, 1) := by decide +kernel
theorem d16_60 : decode c16 60 = .ok (.getfield 43, 3) := by decide +kernel
theorem d16_63 : decode c16 63 = .ok (.iload_n 1, 1) := by decide +kernel
theorem d16_64 : decode c16 64 = .ok (.iconst 0, 1) := by decide +kernel
theorem d16_65 : decode c16 65 = .ok (.iastore, 1) := by decide +kernel
theorem d16_66 : decode c16 66 = .ok (.aload_n 0, 1) := by decide +kernel
theorem d16_67 : decode c16 67 = .ok (.iload_n 1, 1) := by decide +kernel
theorem d16_68 : decode c16 68 = .ok (.invokevirtual 154, 3) := by decide +kernel
theorem d16_71 : decode c16 71 = .ok (.iload 4, 2) := by decide +kernel
theorem d16_73 : decode c16 73 = .ok (.ireturn, 1) := by decide +kernel
abbrev c18 : ByteArray := prog_1_method_19_code
theorem d18_0 : decode c18 0 = .ok (.iload_n 1, 1) := by decide +kernel
theorem d18_1 : decode c18 1 = .ok (.ifCond .lt 21, 3) := by decide +kernel
theorem d18_4 : decode c18 4 = .ok (.iload_n 1, 1) := by decide +kernel
theorem d18_5 : decode c18 5 = .ok (.aload_n 0, 1) := by decide +kernel
theorem d18_6 : decode c18 6 = .ok (.getfield 83, 3) := by decide +kernel
theorem d18_9 : decode c18 9 = .ok (.if_icmp .ge 13, 3) := by decide +kernel
theorem d18_12 : decode c18 12 = .ok (.iload_n 1, 1) := by decide +kernel
theorem d18_13 : decode c18 13 = .ok (.bipush 6, 2) := by decide +kernel
theorem d18_15 : decode c18 15 = .ok (.if_icmp .ge 7, 3) := by decide +kernel
theorem d18_22 : decode c18 22 = .ok (.iconst 0, 1) := by decide +kernel
theorem d18_18 : decode c18 18 = .ok (.iconst 1, 1) := by decide +kernel
theorem d18_19 : decode c18 19 = .ok (.goto 4, 3) := by decide +kernel
theorem d18_23 : decode c18 23 = .ok (.ireturn, 1) := by decide +kernel
abbrev c19 : ByteArray := prog_1_method_20_code
theorem d19_0 : decode c19 0 = .ok (.iload_n 1, 1) := by decide +kernel
theorem d19_1 : decode c19 1 = .ok (.iconst 1, 1) := by decide +kernel
theorem d19_2 : decode c19 2 = .ok (.if_icmp .eq 13, 3) := by decide +kernel
theorem d19_5 : decode c19 5 = .ok (.iload_n 1, 1) := by decide +kernel
theorem d19_6 : decode c19 6 = .ok (.iconst 2, 1) := by decide +kernel
theorem d19_7 : decode c19 7 = .ok (.if_icmp .eq 8, 3) := by decide +kernel
theorem d19_10 : decode c19 10 = .ok (.iload_n 1, 1) := by decide +kernel
theorem d19_11 : decode c19 11 = .ok (.iconst 3, 1) := by decide +kernel
theorem d19_12 : decode c19 12 = .ok (.if_icmp .ne 7, 3) := by decide +kernel
theorem d19_19 : decode c19 19 = .ok (.iconst 0, 1) := by decide +kernel
theorem d19_15 : decode c19 15 = .ok (.iconst 1, 1) := by decide +kernel
theorem d19_16 : decode c19 16 = .ok (.goto 4, 3) := by decide +kernel
theorem d19_20 : decode c19 20 = .ok (.ireturn, 1) := by decide +kernel
abbrev c20 : ByteArray := prog_1_method_21_code
theorem d20_0 : decode c20 0 = .ok (.iload_n 1, 1) := by decide +kernel
theorem d20_1 : decode c20 1 = .ok (.ifCond .lt 14, 3) := by decide +kernel
theorem d20_4 : decode c20 4 = .ok (.iload_n 1, 1) := by decide +kernel
theorem d20_5 : decode c20 5 = .ok (.sipush 32767, 3) := by decide +kernel
theorem d20_8 : decode c20 8 = .ok (.if_icmp .gt 7, 3) := by decide +kernel
theorem d20_15 : decode c20 15 = .ok (.iconst 0, 1) := by decide +kernel
theorem d20_11 : decode c20 11 = .ok (.iconst 1, 1) := by decide +kernel
theorem d20_12 : decode c20 12 = .ok (.goto 4, 3) := by decide +kernel
theorem d20_16 : decode c20 16 = .ok (.ireturn, 1) := by decide +kernel
abbrev c15 : ByteArray := prog_1_method_2_code
theorem d15_0 : decode c15 0 = .ok (.aload_n 0, 1) := by decide +kernel
theorem d15_1 : decode c15 1 = .ok (.iload_n 1, 1) := by decide +kernel
theorem d15_2 : decode c15 2 = .ok (.invokevirtual 108, 3) := by decide +kernel
theorem d15_5 : decode c15 5 = .ok (.ifCond .ne 5, 3) := by decide +kernel
theorem d15_10 : decode c15 10 = .ok (.aload_n 0, 1) := by decide +kernel
theorem d15_11 : decode c15 11 = .ok (.getfield 28, 3) := by decide +kernel
theorem d15_14 : decode c15 14 = .ok (.iload_n 1, 1) := by decide +kernel
theorem d15_15 : decode c15 15 = .ok (.iaload, 1) := by decide +kernel
theorem d15_16 : decode c15 16 = .ok (.ifCond .eq 6, 3) := by decide +kernel
theorem d15_22 : decode c15 22 = .ok (.aload_n 0, 1) := by decide +kernel
theorem d15_23 : decode c15 23 = .ok (.iload_n 2, 1) := by decide +kernel
theorem d15_24 : decode c15 24 = .ok (.invokevirtual 112, 3) := by decide +kernel
theorem d15_27 : decode c15 27 = .ok (.ifCond .ne 6, 3) := by decide +kernel
theorem d15_33 : decode c15 33 = .ok (.iload_n 2, 1) := by decide +kernel
theorem d15_34 : decode c15 34 = .ok (.iconst 2, 1) := by decide +kernel
theorem d15_35 : decode c15 35 = .ok (.if_icmp .ne 14, 3) := by decide +kernel
theorem d15_38 : decode c15 38 = .ok (.aload_n 0, 1) := by decide +kernel
theorem d15_39 : decode c15 39 = .ok (.iload_n 3, 1) := by decide +kernel
theorem d15_40 : decode c15 40 = .ok (.invokevirtual 115, 3) := by decide +kernel
theorem d15_43 : decode c15 43 = .ok (.ifCond .ne 6, 3) := by decide +kernel
theorem d15_49 : decode c15 49 = .ok (.aload_n 0, 1) := by decide +kernel
theorem d15_50 : decode c15 50 = .ok (.getfield 90, 3) := by decide +kernel
theorem d15_53 : decode c15 53 = .ok (.sipush 240, 3) := by decide +kernel
theorem d15_56 : decode c15 56 = .ok (.if_icmp .lt 6, 3) := by decide +kernel
theorem d15_62 : decode c15 62 = .ok (.aload_n 0, 1) := by decide +kernel
theorem d15_63 : decode c15 63 = .ok (.iload_n 1, 1) := by decide +kernel
theorem d15_64 : decode c15 64 = .ok (.iload_n 2, 1) := by decide +kernel
theorem d15_65 : decode c15 65 = .ok (.iload_n 3, 1) := by decide +kernel
theorem d15_66 : decode c15 66 = .ok (.invokevirtual 118, 3) := by decide +kernel
theorem d15_69 : decode c15 69 = .ok (.ireturn, 1) := by decide +kernel
theorem d15_59 : decode c15 59 = .ok (.bipush (-5), 2) := by decide +kernel
theorem d15_61 : decode c15 61 = .ok (.ireturn, 1) := by decide +kernel
theorem d15_46 : decode c15 46 = .ok (.bipush (-4), 2) := by decide +kernel
theorem d15_48 : decode c15 48 = .ok (.ireturn, 1) := by decide +kernel
theorem d15_30 : decode c15 30 = .ok (.bipush (-3), 2) := by decide +kernel
theorem d15_32 : decode c15 32 = .ok (.ireturn, 1) := by decide +kernel
theorem d15_19 : decode c15 19 = .ok (.bipush (-2), 2) := by decide +kernel
theorem d15_21 : decode c15 21 = .ok (.ireturn, 1) := by decide +kernel
theorem d15_8 : decode c15 8 = .ok (.iconst (-1), 1) := by decide +kernel
theorem d15_9 : decode c15 9 = .ok (.ireturn, 1) := by decide +kernel
abbrev c25 : ByteArray := prog_1_method_22_code
theorem d25_0 : decode c25 0 = .ok (.iload_n 1, 1) := by decide +kernel
theorem d25_1 : decode c25 1 = .ok (.iconst 1, 1) := by decide +kernel
theorem d25_2 : decode c25 2 = .ok (.if_icmp .lt 22, 3) := by decide +kernel
theorem d25_5 : decode c25 5 = .ok (.iload_n 1, 1) := by decide +kernel
theorem d25_6 : decode c25 6 = .ok (.aload_n 0, 1) := by decide +kernel
theorem d25_7 : decode c25 7 = .ok (.getfield 90, 3) := by decide +kernel
theorem d25_10 : decode c25 10 = .ok (.if_icmp .gt 14, 3) := by decide +kernel
theorem d25_13 : decode c25 13 = .ok (.iload_n 1, 1) := by decide +kernel
theorem d25_14 : decode c25 14 = .ok (.sipush 240, 3) := by decide +kernel
theorem d25_17 : decode c25 17 = .ok (.if_icmp .gt 7, 3) := by decide +kernel
theorem d25_24 : decode c25 24 = .ok (.iconst 0, 1) := by decide +kernel
theorem d25_20 : decode c25 20 = .ok (.iconst 1, 1) := by decide +kernel
theorem d25_21 : decode c25 21 = .ok (.goto 4, 3) := by decide +kernel
theorem d25_25 : decode c25 25 = .ok (.ireturn, 1) := by decide +kernel
abbrev c24 : ByteArray := prog_1_method_35_code
theorem d24_0 : decode c24 0 = .ok (.aload_n 0, 1) := by decide +kernel
theorem d24_1 : decode c24 1 = .ok (.iload_n 1, 1) := by decide +kernel
theorem d24_2 : decode c24 2 = .ok (.invokevirtual 146, 3) := by decide +kernel
theorem d24_5 : decode c24 5 = .ok (.ifCond .ne 5, 3) := by decide +kernel
theorem d24_10 : decode c24 10 = .ok (.aload_n 0, 1) := by decide +kernel
theorem d24_11 : decode c24 11 = .ok (.getfield 7, 3) := by decide +kernel
theorem d24_14 : decode c24 14 = .ok (.iload_n 1, 1) := by decide +kernel
theorem d24_15 : decode c24 15 = .ok (.iaload, 1) := by decide +kernel
theorem d24_16 : decode c24 16 = .ok (.ireturn, 1) := by decide +kernel
theorem d24_8 : decode c24 8 = .ok (.iconst 0, 1) := by decide +kernel
theorem d24_9 : decode c24 9 = .ok (.ireturn, 1) := by decide +kernel
abbrev c26 : ByteArray := prog_1_method_36_code
theorem d26_0 : decode c26 0 = .ok (.aload_n 0, 1) := by decide +kernel
theorem d26_1 : decode c26 1 = .ok (.iload_n 1, 1) := by decide +kernel
theorem d26_2 : decode c26 2 = .ok (.invokevirtual 146, 3) := by decide +kernel
theorem d26_5 : decode c26 5 = .ok (.ifCond .ne 5, 3) := by decide +kernel
theorem d26_10 : decode c26 10 = .ok (.aload_n 0, 1) := by decide +kernel
theorem d26_11 : decode c26 11 = .ok (.getfield 13, 3) := by decide +kernel
theorem d26_14 : decode c26 14 = .ok (.iload_n 1, 1) := by decide +kernel
theorem d26_15 : decode c26 15 = .ok (.iaload, 1) := by decide +kernel
theorem d26_16 : decode c26 16 = .ok (.ireturn, 1) := by decide +kernel
theorem d26_8 : decode c26 8 = .ok (.iconst 0, 1) := by decide +kernel
theorem d26_9 : decode c26 9 = .ok (.ireturn, 1) := by decide +kernel
abbrev c23 : ByteArray := prog_1_method_38_code
theorem d23_0 : decode c23 0 = .ok (.aload_n 0, 1) := by decide +kernel
theorem d23_1 : decode c23 1 = .ok (.getfield 31, 3) := by decide +kernel
theorem d23_4 : decode c23 4 = .ok (.iload_n 1, 1) := by decide +kernel
theorem d23_5 : decode c23 5 = .ok (.iaload, 1) := by decide +kernel
theorem d23_6 : decode c23 6 = .ok (.istore_n 2, 1) := by decide +kernel
theorem d23_7 : decode c23 7 = .ok (.aload_n 0, 1) := by decide +kernel
theorem d23_8 : decode c23 8 = .ok (.getfield 49, 3) := by decide +kernel
theorem d23_11 : decode c23 11 = .ok (.iload_n 1, 1) := by decide +kernel
theorem d23_12 : decode c23 12 = .ok (.iload_n 2, 1) := by decide +kernel
theorem d23_13 : decode c23 13 = .ok (.iastore, 1) := by decide +kernel
theorem d23_14 : decode c23 14 = .ok (.aload_n 0, 1) := by decide +kernel
theorem d23_15 : decode c23 15 = .ok (.getfield 52, 3) := by decide +kernel
theorem d23_18 : decode c23 18 = .ok (.iload_n 1, 1) := by decide +kernel
theorem d23_19 : decode c23 19 = .ok (.aload_n 0, 1) := by decide +kernel
theorem d23_20 : decode c23 20 = .ok (.iload_n 2, 1) := by decide +kernel
theorem d23_21 : decode c23 21 = .ok (.invokevirtual 190, 3) := by decide +kernel
theorem d23_24 : decode c23 24 = .ok (.iastore, 1) := by decide +kernel
theorem d23_25 : decode c23 25 = .ok (.aload_n 0, 1) := by decide +kernel
theorem d23_26 : decode c23 26 = .ok (.getfield 55, 3) := by decide +kernel
theorem d23_29 : decode c23 29 = .ok (.iload_n 1, 1) := by decide +kernel
theorem d23_30 : decode c23 30 = .ok (.aload_n 0, 1) := by decide +kernel
theorem d23_31 : decode c23 31 = .ok (.iload_n 2, 1) := by decide +kernel
theorem d23_32 : decode c23 32 = .ok (.invokevirtual 193, 3) := by decide +kernel
theorem d23_35 : decode c23 35 = .ok (.iastore, 1) := by decide +kernel
theorem d23_36 : decode c23 36 = .ok (.aload_n 0, 1) := by decide +kernel
theorem d23_37 : decode c23 37 = .ok (.getfield 28, 3) := by decide +kernel
theorem d23_40 : decode c23 40 = .ok (.iload_n 1, 1) := by decide +kernel
theorem d23_41 : decode c23 41 = .ok (.iconst 2, 1) := by decide +kernel
theorem d23_42 : decode c23 42 = .ok (.iastore, 1) := by decide +kernel
theorem d23_43 : decode c23 43 = .ok (.iconst 1, 1) := by decide +kernel
theorem d23_44 : decode c23 44 = .ok (.ireturn, 1) := by decide +kernel
abbrev c22 : ByteArray := prog_1_method_37_code
theorem d22_0 : decode c22 0 = .ok (.iload_n 2, 1) := by decide +kernel
theorem d22_1 : decode c22 1 = .ok (.iconst 1, 1) := by decide +kernel
theorem d22_2 : decode c22 2 = .ok (.if_icmp .ne 9, 3) := by decide +kernel
theorem d22_11 : decode c22 11 = .ok (.iload_n 2, 1) := by decide +kernel
theorem d22_12 : decode c22 12 = .ok (.iconst 2, 1) := by decide +kernel
theorem d22_13 : decode c22 13 = .ok (.if_icmp .ne 9, 3) := by decide +kernel
theorem d22_22 : decode c22 22 = .ok (.iload_n 2, 1) := by decide +kernel
theorem d22_23 : decode c22 23 = .ok (.iconst 3, 1) := by decide +kernel
theorem d22_24 : decode c22 24 = .ok (.if_icmp .ne 9, 3) := by decide +kernel
theorem d22_33 : decode c22 33 = .ok (.iload_n 2, 1) := by decide +kernel
theorem d22_34 : decode c22 34 = .ok (.iconst 4, 1) := by decide +kernel
theorem d22_35 : decode c22 35 = .ok (.if_icmp .ne 9, 3) := by decide +kernel
theorem d22_44 : decode c22 44 = .ok (.aload_n 0, 1) := by decide +kernel
theorem d22_45 : decode c22 45 = .ok (.iload_n 1, 1) := by decide +kernel
theorem d22_46 : decode c22 46 = .ok (.invokevirtual 187, 3) := by decide +kernel
theorem d22_38 : decode c22 38 = .ok (.aload_n 0, 1) := by decide +kernel
theorem d22_39 : decode c22 39 = .ok (.iload_n 1, 1) := by decide +kernel
theorem d22_40 : decode c22 40 = .ok (.invokevirtual 184, 3) := by decide +kernel
theorem d22_27 : decode c22 27 = .ok (.aload_n 0, 1) := by decide +kernel
theorem d22_28 : decode c22 28 = .ok (.iload_n 1, 1) := by decide +kernel
theorem d22_29 : decode c22 29 = .ok (.invokevirtual 181, 3) := by decide +kernel
theorem d22_16 : decode c22 16 = .ok (.aload_n 0, 1) := by decide +kernel
theorem d22_17 : decode c22 17 = .ok (.iload_n 1, 1) := by decide +kernel
theorem d22_18 : decode c22 18 = .ok (.invokevirtual 178, 3) := by decide +kernel
theorem d22_5 : decode c22 5 = .ok (.aload_n 0, 1) := by decide +kernel
theorem d22_6 : decode c22 6 = .ok (.iload_n 1, 1) := by decide +kernel
theorem d22_7 : decode c22 7 = .ok (.invokevirtual 175, 3) := by decide +kernel
theorem d22_10 : decode c22 10 = .ok (.ireturn, 1) := by decide +kernel
abbrev c21 : ByteArray := prog_1_method_3_code
theorem d21_0 : decode c21 0 = .ok (.aload_n 0, 1) := by decide +kernel
theorem d21_1 : decode c21 1 = .ok (.iload_n 1, 1) := by decide +kernel
theorem d21_2 : decode c21 2 = .ok (.invokevirtual 108, 3) := by decide +kernel
theorem d21_5 : decode c21 5 = .ok (.ifCond .ne 5, 3) := by decide +kernel
theorem d21_10 : decode c21 10 = .ok (.aload_n 0, 1) := by decide +kernel
theorem d21_11 : decode c21 11 = .ok (.getfield 28, 3) := by decide +kernel
theorem d21_14 : decode c21 14 = .ok (.iload_n 1, 1) := by decide +kernel
theorem d21_15 : decode c21 15 = .ok (.iaload, 1) := by decide +kernel
theorem d21_16 : decode c21 16 = .ok (.istore_n 2, 1) := by decide +kernel
theorem d21_17 : decode c21 17 = .ok (.iload_n 2, 1) := by decide +kernel
theorem d21_18 : decode c21 18 = .ok (.ifCond .ne 5, 3) := by decide +kernel
theorem d21_23 : decode c21 23 = .ok (.aload_n 0, 1) := by decide +kernel
theorem d21_24 : decode c21 24 = .ok (.getfield 40, 3) := by decide +kernel
theorem d21_27 : decode c21 27 = .ok (.iload_n 1, 1) := by decide +kernel
theorem d21_28 : decode c21 28 = .ok (.aload_n 0, 1) := by decide +kernel
theorem d21_29 : decode c21 29 = .ok (.getfield 40, 3) := by decide +kernel
theorem d21_32 : decode c21 32 = .ok (.iload_n 1, 1) := by decide +kernel
theorem d21_33 : decode c21 33 = .ok (.iaload, 1) := by decide +kernel
theorem d21_34 : decode c21 34 = .ok (.iconst 1, 1) := by decide +kernel
theorem d21_35 : decode c21 35 = .ok (.iadd, 1) := by decide +kernel
theorem d21_36 : decode c21 36 = .ok (.iastore, 1) := by decide +kernel
theorem d21_37 : decode c21 37 = .ok (.aload_n 0, 1) := by decide +kernel
theorem d21_38 : decode c21 38 = .ok (.iload_n 1, 1) := by decide +kernel
theorem d21_39 : decode c21 39 = .ok (.iload_n 2, 1) := by decide +kernel
theorem d21_40 : decode c21 40 = .ok (.invokevirtual 121, 3) := by decide +kernel
theorem d21_43 : decode c21 43 = .ok (.ireturn, 1) := by decide +kernel
theorem d21_21 : decode c21 21 = .ok (.iconst 0, 1) := by decide +kernel
theorem d21_22 : decode c21 22 = .ok (.ireturn, 1) := by decide +kernel
theorem d21_8 : decode c21 8 = .ok (.iconst (-1), 1) := by decide +kernel
theorem d21_9 : decode c21 9 = .ok (.ireturn, 1) := by decide +kernel
abbrev c27 : ByteArray := prog_1_method_8_code
theorem d27_0 : decode c27 0 = .ok (.aload_n 0, 1) := by decide +kernel
theorem d27_1 : decode c27 1 = .ok (.iload_n 1, 1) := by decide +kernel
theorem d27_2 : decode c27 2 = .ok (.invokevirtual 108, 3) := by decide +kernel
theorem d27_5 : decode c27 5 = .ok (.ifCond .ne 5, 3) := by decide +kernel
theorem d27_10 : decode c27 10 = .ok (.aload_n 0, 1) := by decide +kernel
theorem d27_11 : decode c27 11 = .ok (.getfield 49, 3) := by decide +kernel
theorem d27_14 : decode c27 14 = .ok (.iload_n 1, 1) := by decide +kernel
theorem d27_15 : decode c27 15 = .ok (.iaload, 1) := by decide +kernel
theorem d27_16 : decode c27 16 = .ok (.ireturn, 1) := by decide +kernel
theorem d27_8 : decode c27 8 = .ok (.iconst (-1), 1) := by decide +kernel
theorem d27_9 : decode c27 9 = .ok (.ireturn, 1) := by decide +kernel
abbrev c28 : ByteArray := prog_1_method_5_code
theorem d28_0 : decode c28 0 = .ok (.aload_n 0, 1) := by decide +kernel
theorem d28_1 : decode c28 1 = .ok (.iload_n 1, 1) := by decide +kernel
theorem d28_2 : decode c28 2 = .ok (.invokevirtual 108, 3) := by decide +kernel
theorem d28_5 : decode c28 5 = .ok (.ifCond .ne 5, 3) := by decide +kernel
theorem d28_10 : decode c28 10 = .ok (.aload_n 0, 1) := by decide +kernel
theorem d28_11 : decode c28 11 = .ok (.getfield 28, 3) := by decide +kernel
theorem d28_14 : decode c28 14 = .ok (.iload_n 1, 1) := by decide +kernel
theorem d28_15 : decode c28 15 = .ok (.iaload, 1) := by decide +kernel
theorem d28_16 : decode c28 16 = .ok (.ireturn, 1) := by decide +kernel
theorem d28_8 : decode c28 8 = .ok (.iconst (-1), 1) := by decide +kernel
theorem d28_9 : decode c28 9 = .ok (.ireturn, 1) := by decide +kernel
abbrev c29 : ByteArray := prog_1_method_9_code
theorem d29_0 : decode c29 0 = .ok (.aload_n 0, 1) := by decide +kernel
theorem d29_1 : decode c29 1 = .ok (.iload_n 1, 1) := by decide +kernel
theorem d29_2 : decode c29 2 = .ok (.invokevirtual 108, 3) := by decide +kernel
theorem d29_5 : decode c29 5 = .ok (.ifCond .ne 5, 3) := by decide +kernel
theorem d29_10 : decode c29 10 = .ok (.aload_n 0, 1) := by decide +kernel
theorem d29_11 : decode c29 11 = .ok (.getfield 40, 3) := by decide +kernel
theorem d29_14 : decode c29 14 = .ok (.iload_n 1, 1) := by decide +kernel
theorem d29_15 : decode c29 15 = .ok (.iaload, 1) := by decide +kernel
theorem d29_16 : decode c29 16 = .ok (.ireturn, 1) := by decide +kernel
theorem d29_8 : decode c29 8 = .ok (.iconst (-1), 1) := by decide +kernel
theorem d29_9 : decode c29 9 = .ok (.ireturn, 1) := by decide +kernel
abbrev c30 : ByteArray := prog_1_method_17_code
theorem d30_0 : decode c30 0 = .ok (.aload_n 0, 1) := by decide +kernel
theorem d30_1 : decode c30 1 = .ok (.getfield 90, 3) := by decide +kernel
theorem d30_4 : decode c30 4 = .ok (.ireturn, 1) := by decide +kernel
abbrev c31 : ByteArray := prog_1_method_10_code
theorem d31_0 : decode c31 0 = .ok (.aload_n 0, 1) := by decide +kernel
theorem d31_1 : decode c31 1 = .ok (.getfield 93, 3) := by decide +kernel
theorem d31_4 : decode c31 4 = .ok (.ireturn, 1) := by decide +kernel
abbrev c32 : ByteArray := prog_1_method_14_code
theorem d32_0 : decode c32 0 = .ok (.aload_n 0, 1) := by decide +kernel
theorem d32_1 : decode c32 1 = .ok (.iload_n 1, 1) := by decide +kernel
theorem d32_2 : decode c32 2 = .ok (.invokevirtual 146, 3) := by decide +kernel
theorem d32_5 : decode c32 5 = .ok (.ifCond .ne 5, 3) := by decide +kernel
theorem d32_10 : decode c32 10 = .ok (.aload_n 0, 1) := by decide +kernel
theorem d32_11 : decode c32 11 = .ok (.getfield 19, 3) := by decide +kernel
theorem d32_14 : decode c32 14 = .ok (.iload_n 1, 1) := by decide +kernel
theorem d32_15 : decode c32 15 = .ok (.iaload, 1) := by decide +kernel
theorem d32_16 : decode c32 16 = .ok (.ireturn, 1) := by decide +kernel
theorem d32_8 : decode c32 8 = .ok (.iconst 0, 1) := by decide +kernel
theorem d32_9 : decode c32 9 = .ok (.ireturn, 1) := by decide +kernel
abbrev KM_H_fresh (X : Cx (List (St × Nat))) (Z : State) (a0 : Array Value) (l : Launch) (n1 : Nat) (sc : Addr) (H0 : Heap) : Prop := CtxL X Z a0 cC cFS cFA 23 27 l n1 sc H0 ceS ⟨0, 0, 0, 0⟩ 0 0 "WaitFreeUniversalL2" "fresh" c2 3 (some .int)
def H_fresh_b24  (i1 : Int32) (i2 : Int32) : Option (Int32) :=
  (if i1 = (2 : Int32) then (if i2 < 0 then (some (-4 : Int32)) else (if (32767 : Int32) < i2 then (some (-4 : Int32)) else (some (1 : Int32)))) else (some (1 : Int32)))
theorem ok_H_fresh_b24 {X : Cx (List (St × Nat))} {Z : State} {a0 : Array Value} {l : Launch} {n1 : Nat} {sc : Addr} {H0 : Heap} {y0 : St} (K : KM_H_fresh X Z a0 l n1 sc H0) (hw : HW a0 Z)  {i1 : Int32} {i2 : Int32} {r : Int32}  (h : H_fresh_b24  i1 i2 = some r) : Go X (some (.int r), [(y0, 23)]) 24 [none, some (.int i1), some (.int i2)] [] [(y0, 23)] := by
  unfold H_fresh_b24 at h
  refine g_iloadN (pc := 24) K.1 d2_24 rfl ?_
  refine g_iconst (pc := 25) (v := 2) K.1 d2_25 (by decide) ?_
  rcases ifs h with ⟨hc26, h⟩ | ⟨hc26, h⟩
  · refine g_icF (pc := 26) K.1 d2_26 ((teq hc26).2) ?_
    refine g_iloadN (pc := 29) K.1 d2_29 rfl ?_
    rcases ifs h with ⟨hc30, h⟩ | ⟨hc30, h⟩
    · refine g_ifT (pc := 30) (pc' := 40) K.1 d2_30 (by decide) ((if0 _ _).trans (tlt hc30).1) ?_
      refine g_bipush (pc := 40) (v := -4) K.1 d2_40 (by decide) ?_
      cases h; exact g_ireturn K.1 d2_42 (capL K (ble rfl) (ble rfl))
    refine g_ifF (pc := 30) K.1 d2_30 ((if0 _ _).trans (flt hc30).1) ?_
    refine g_iloadN (pc := 33) K.1 d2_33 rfl ?_
    refine g_sipush (pc := 34) (v := 32767) K.1 d2_34 (by decide) ?_
    rcases ifs h with ⟨hc37, h⟩ | ⟨hc37, h⟩
    · refine g_icF (pc := 37) K.1 d2_37 ((tlt hc37).2.2.2) ?_
      refine g_bipush (pc := 40) (v := -4) K.1 d2_40 (by decide) ?_
      cases h; exact g_ireturn K.1 d2_42 (capL K (ble rfl) (ble rfl))
    refine g_icT (pc := 37) (pc' := 43) K.1 d2_37 (by decide) ((flt hc37).2.2.2) ?_
    refine g_iconst (pc := 43) (v := 1) K.1 d2_43 (by decide) ?_
    cases h; exact g_ireturn K.1 d2_44 (capL K (ble rfl) (ble rfl))
  refine g_icT (pc := 26) (pc' := 43) K.1 d2_26 (by decide) ((feq hc26).2) ?_
  refine g_iconst (pc := 43) (v := 1) K.1 d2_43 (by decide) ?_
  cases h; exact g_ireturn K.1 d2_44 (capL K (ble rfl) (ble rfl))
def H_fresh (v0 : Int32) (v1 : Int32) (v2 : Int32) : Option (Int32) :=
  (if v0 = 0 then (some (-1 : Int32)) else (if v1 = (1 : Int32) then H_fresh_b24 v1 v2 else (if v1 = (2 : Int32) then H_fresh_b24 v1 v2 else (if v1 = (3 : Int32) then H_fresh_b24 v1 v2 else (some (-3 : Int32))))))
theorem ok_H_fresh {X : Cx (List (St × Nat))} {Z : State} {a0 : Array Value} {l : Launch} {n1 : Nat} {sc : Addr} {H0 : Heap} {y0 : St} (K : KM_H_fresh X Z a0 l n1 sc H0) (hw : HW a0 Z) {v0 : Int32} {v1 : Int32} {v2 : Int32} {r : Int32} (h : H_fresh v0 v1 v2 = some r) : Go X (some (.int r), [(y0, 23)]) 0 [some (.int v0), some (.int v1), some (.int v2)] [] [(y0, 23)] := by
  unfold H_fresh at h
  refine g_iloadN (pc := 0) K.1 d2_0 rfl ?_
  rcases ifs h with ⟨hc1, h⟩ | ⟨hc1, h⟩
  · refine g_ifF (pc := 1) K.1 d2_1 ((if0 _ _).trans (teq hc1).2) ?_
    refine g_iconst (pc := 4) (v := -1) K.1 d2_4 (by decide) ?_
    cases h; exact g_ireturn K.1 d2_5 (capL K (ble rfl) (ble rfl))
  refine g_ifT (pc := 1) (pc' := 6) K.1 d2_1 (by decide) ((if0 _ _).trans (feq hc1).2) ?_
  refine g_iloadN (pc := 6) K.1 d2_6 rfl ?_
  refine g_iconst (pc := 7) (v := 1) K.1 d2_7 (by decide) ?_
  rcases ifs h with ⟨hc8, h⟩ | ⟨hc8, h⟩
  · refine g_icT (pc := 8) (pc' := 24) K.1 d2_8 (by decide) ((teq hc8).1) ?_
    exact g_less (ok_H_fresh_b24 K hw  h) (ln (ls (ls l0)))
  refine g_icF (pc := 8) K.1 d2_8 ((feq hc8).1) ?_
  refine g_iloadN (pc := 11) K.1 d2_11 rfl ?_
  refine g_iconst (pc := 12) (v := 2) K.1 d2_12 (by decide) ?_
  rcases ifs h with ⟨hc13, h⟩ | ⟨hc13, h⟩
  · refine g_icT (pc := 13) (pc' := 24) K.1 d2_13 (by decide) ((teq hc13).1) ?_
    exact g_less (ok_H_fresh_b24 K hw  h) (ln (ls (ls l0)))
  refine g_icF (pc := 13) K.1 d2_13 ((feq hc13).1) ?_
  refine g_iloadN (pc := 16) K.1 d2_16 rfl ?_
  refine g_iconst (pc := 17) (v := 3) K.1 d2_17 (by decide) ?_
  rcases ifs h with ⟨hc18, h⟩ | ⟨hc18, h⟩
  · refine g_icT (pc := 18) (pc' := 24) K.1 d2_18 (by decide) ((teq hc18).1) ?_
    exact g_less (ok_H_fresh_b24 K hw  h) (ln (ls (ls l0)))
  refine g_icF (pc := 18) K.1 d2_18 ((feq hc18).1) ?_
  refine g_bipush (pc := 21) (v := -3) K.1 d2_21 (by decide) ?_
  cases h; exact g_ireturn K.1 d2_23 (capL K (ble rfl) (ble rfl))
theorem con_H_fresh (l : Launch) (Z : State) (a0 : Array Value) (hw : HW a0 Z) (n1 : Nat) (sc : Addr) (H0 : Heap) (hH : H0.size = n1) {y0 : St} {v0 : Int32} {v1 : Int32} {v2 : Int32} {r : Int32} (h : H_fresh v0 v1 v2 = some r) : ConL l Z cC cFS cFA 23 n1 sc H0 ⟨"WaitFreeUniversalL2", "fresh", "(ZII)I"⟩ c2 3 (some .int) ⟨0, 0, 0, 0⟩ [.int v0, .int v1, .int v2] [(y0, 23)] (some (.int r)) [(y0, 23)] :=
  conl_of_go pnL rfl (layW hw) lgood hH (fun X K => ok_H_fresh K hw h)
abbrev KM_M_clamp (X : Cx (St × Nat)) (Z : State) (a0 : Array Value) (l : Launch) (n1 : Nat) (a : Addr) (h0 : Heap) : Prop := CtxC X Z a0 cC cFS cFA 23 27 l n1 a h0 ce0 ⟨0, 0, 0, 0⟩ "clamp" c4 4 (some .int)
def M_clamp (σ : St) (v1 : Int32) (v2 : Int32) (v3 : Int32) : Option (Int32 × St) :=
  (if v1 < v2 then (some (v2, σ)) else (if v3 < v1 then (some (v3, σ)) else (some (v1, σ))))
theorem ok_M_clamp {X : Cx (St × Nat)} {Z : State} {a0 : Array Value} {l : Launch} {n1 : Nat} {a : Addr} {h0 : Heap} (K : KM_M_clamp X Z a0 l n1 a h0) (hw : HW a0 Z) {σ : St} {v1 : Int32} {v2 : Int32} {v3 : Int32} {r : Int32 × St} (h : M_clamp σ v1 v2 v3 = some r) : Go X (some (.int r.1), (r.2, 23)) 0 [some (.ref 0), some (.int v1), some (.int v2), some (.int v3)] [] (σ, 23) := by
  unfold M_clamp at h
  refine g_iloadN (pc := 0) K.1 d4_0 rfl ?_
  refine g_iloadN (pc := 1) K.1 d4_1 rfl ?_
  rcases ifs h with ⟨hc2, h⟩ | ⟨hc2, h⟩
  · refine g_icF (pc := 2) K.1 d4_2 ((tlt hc2).2.1) ?_
    refine g_iloadN (pc := 5) K.1 d4_5 rfl ?_
    cases h; exact g_ireturn K.1 d4_6 (capC K)
  refine g_icT (pc := 2) (pc' := 7) K.1 d4_2 (by decide) ((flt hc2).2.1) ?_
  refine g_iloadN (pc := 7) K.1 d4_7 rfl ?_
  refine g_iloadN (pc := 8) K.1 d4_8 rfl ?_
  rcases ifs h with ⟨hc9, h⟩ | ⟨hc9, h⟩
  · refine g_icF (pc := 9) K.1 d4_9 ((tlt hc9).2.2.2) ?_
    refine g_iloadN (pc := 12) K.1 d4_12 rfl ?_
    cases h; exact g_ireturn K.1 d4_13 (capC K)
  refine g_icT (pc := 9) (pc' := 14) K.1 d4_9 (by decide) ((flt hc9).2.2.2) ?_
  refine g_iloadN (pc := 14) K.1 d4_14 rfl ?_
  cases h; exact g_ireturn K.1 d4_15 (capC K)
theorem con_M_clamp (l : Launch) (Z : State) (a0 : Array Value) (hw : HW a0 Z) (n1 : Nat) (a : Addr) (ha : n1 ≤ a) {σ : St} {v1 : Int32} {v2 : Int32} {v3 : Int32} {r : Int32 × St} (h : M_clamp σ v1 v2 v3 = some r) : Con l Z cC cFS cFA 23 n1 a ⟨cC, "clamp", "(III)I"⟩ c4 4 (some .int) ⟨0, 0, 0, 0⟩ [.ref 0, .int v1, .int v2, .int v3] σ (some (.int r.1)) r.2 :=
  con_of_go pnC rfl (layW hw) lgood ha (fun X h1 K => ok_M_clamp K hw h)
abbrev KM_M_resetRecords (X : Cx (St × Nat)) (Z : State) (a0 : Array Value) (l : Launch) (n1 : Nat) (a : Addr) (h0 : Heap) : Prop := CtxC X Z a0 cC cFS cFA 23 27 l n1 a h0 ce0 ⟨0, 0, 0, 0⟩ "resetRecords" c5 2 none
def M_resetRecords_w2 (NF : Nat) (k2 : Int32 → St → Option (St)) (i1 : Int32) (σ : St) : Option (St) :=
  (if (240 : Int32) < i1 then (some σ) else (if 0 ≤ (i1).toInt ∧ (i1).toInt < 241 then (if 0 ≤ (i1).toInt ∧ (i1).toInt < 241 then (if 0 ≤ (i1).toInt ∧ (i1).toInt < 241 then (if 0 ≤ (i1).toInt ∧ (i1).toInt < 241 then (if 0 ≤ (i1).toInt ∧ (i1).toInt < 241 then (if 0 ≤ (i1).toInt ∧ (i1).toInt < 241 then k2 (i1 + (1 : Int32)) (sA (sA (sA (sA (sA (sA σ 1 (i1).toInt (0 : Int32)) 2 (i1).toInt (0 : Int32)) 3 (i1).toInt (-1 : Int32)) 4 (i1).toInt (0 : Int32)) 5 (i1).toInt (0 : Int32)) 6 (i1).toInt (0 : Int32)) else none) else none) else none) else none) else none) else none))
theorem ok_M_resetRecords_w2 {X : Cx (St × Nat)} {Z : State} {a0 : Array Value} {l : Launch} {n1 : Nat} {a : Addr} {h0 : Heap} {NF : Nat} (K : KM_M_resetRecords X Z a0 l n1 a h0) (hw : HW a0 Z) {k2 : Int32 → St → Option (St)} {i1 : Int32} {σ : St} {r : St} (hk2 : ∀ (i1 : Int32) (σ : St) (h : k2 i1 σ = some r), Go X (none, (r, 23)) 2 [some (.ref 0), some (.int i1)] [] (σ, 23)) (h : M_resetRecords_w2 NF k2 i1 σ = some r) : Go X (none, (r, 23)) 2 [some (.ref 0), some (.int i1)] [] (σ, 23) := by
  unfold M_resetRecords_w2 at h
  refine g_iloadN (pc := 2) K.1 d5_2 rfl ?_
  refine g_sipush (pc := 3) (v := 240) K.1 d5_3 (by decide) ?_
  rcases ifs h with ⟨hc6, h⟩ | ⟨hc6, h⟩
  · refine g_icT (pc := 6) (pc' := 57) K.1 d5_6 (by decide) ((tlt hc6).2.2.1) ?_
    cases h; exact g_return K.1 d5_57 (capC K)
  refine g_icF (pc := 6) K.1 d5_6 ((flt hc6).2.2.1) ?_
  refine g_aloadN (pc := 9) K.1 d5_9 rfl ?_
  refine g_getA (pc := 10) K d5_10 (w10 hw) mf_opKind rfl ?_
  refine g_iloadN (pc := 13) K.1 d5_13 rfl ?_
  refine g_iconst (pc := 14) (v := 0) K.1 d5_14 (by decide) ?_
  obtain ⟨hc15, h⟩ := ifn h
  refine g_iastore (pc := 15) K d5_15 ma_opKind rfl hc15 ?_
  refine g_aloadN (pc := 16) K.1 d5_16 rfl ?_
  refine g_getA (pc := 17) K d5_17 (w12 hw) mf_opArg rfl ?_
  refine g_iloadN (pc := 20) K.1 d5_20 rfl ?_
  refine g_iconst (pc := 21) (v := 0) K.1 d5_21 (by decide) ?_
  obtain ⟨hc22, h⟩ := ifn h
  refine g_iastore (pc := 22) K d5_22 ma_opArg rfl hc22 ?_
  refine g_aloadN (pc := 23) K.1 d5_23 rfl ?_
  refine g_getA (pc := 24) K d5_24 (w14 hw) mf_opThread rfl ?_
  refine g_iloadN (pc := 27) K.1 d5_27 rfl ?_
  refine g_iconst (pc := 28) (v := -1) K.1 d5_28 (by decide) ?_
  obtain ⟨hc29, h⟩ := ifn h
  refine g_iastore (pc := 29) K d5_29 ma_opThread rfl hc29 ?_
  refine g_aloadN (pc := 30) K.1 d5_30 rfl ?_
  refine g_getA (pc := 31) K d5_31 (w16 hw) mf_opStatus rfl ?_
  refine g_iloadN (pc := 34) K.1 d5_34 rfl ?_
  refine g_iconst (pc := 35) (v := 0) K.1 d5_35 (by decide) ?_
  obtain ⟨hc36, h⟩ := ifn h
  refine g_iastore (pc := 36) K d5_36 ma_opStatus rfl hc36 ?_
  refine g_aloadN (pc := 37) K.1 d5_37 rfl ?_
  refine g_getA (pc := 38) K d5_38 (w18 hw) mf_opResp rfl ?_
  refine g_iloadN (pc := 41) K.1 d5_41 rfl ?_
  refine g_iconst (pc := 42) (v := 0) K.1 d5_42 (by decide) ?_
  obtain ⟨hc43, h⟩ := ifn h
  refine g_iastore (pc := 43) K d5_43 ma_opResp rfl hc43 ?_
  refine g_aloadN (pc := 44) K.1 d5_44 rfl ?_
  refine g_getA (pc := 45) K d5_45 (w20 hw) mf_opPos rfl ?_
  refine g_iloadN (pc := 48) K.1 d5_48 rfl ?_
  refine g_iconst (pc := 49) (v := 0) K.1 d5_49 (by decide) ?_
  obtain ⟨hc50, h⟩ := ifn h
  refine g_iastore (pc := 50) K d5_50 ma_opPos rfl hc50 ?_
  refine g_iinc (pc := 51) (w := 1) (L' := [some (.ref 0), some (.int (i1 + (1 : Int32)))]) K.1 d5_51 rfl (by decide) rfl ?_
  refine g_goto (pc := 54) (pc' := 2) K.1 d5_54 (by decide) ?_
  exact hk2 _ _ h
def M_resetRecords_l2 (NF : Nat)  : Nat → Int32 → St → Option (St)
  | 0 => fun _ _ => none
  | n + 1 => fun i1 σ => M_resetRecords_w2 NF  (M_resetRecords_l2 NF  n) i1 σ
theorem ok_M_resetRecords_l2 {X : Cx (St × Nat)} {Z : State} {a0 : Array Value} {l : Launch} {n1 : Nat} {a : Addr} {h0 : Heap} {NF : Nat} (K : KM_M_resetRecords X Z a0 l n1 a h0) (hw : HW a0 Z) (n : Nat)  {r : St}  : ∀ (i1 : Int32) (σ : St) (h : M_resetRecords_l2 NF  n i1 σ = some r), Go X (none, (r, 23)) 2 [some (.ref 0), some (.int i1)] [] (σ, 23) := by
  induction n with
  | zero => intro i1 σ h; cases h
  | succ n ih => intro i1 σ h; exact ok_M_resetRecords_w2 (NF := NF) K hw  ih h
def M_resetRecords (NF : Nat) (σ : St) : Option (St) :=
  M_resetRecords_l2 NF NF (0 : Int32) σ
theorem ok_M_resetRecords {X : Cx (St × Nat)} {Z : State} {a0 : Array Value} {l : Launch} {n1 : Nat} {a : Addr} {h0 : Heap} {NF : Nat} (K : KM_M_resetRecords X Z a0 l n1 a h0) (hw : HW a0 Z) {σ : St} {r : St} (h : M_resetRecords NF σ = some r) : Go X (none, (r, 23)) 0 [some (.ref 0), none] [] (σ, 23) := by
  unfold M_resetRecords at h
  refine g_iconst (pc := 0) (v := 0) K.1 d5_0 (by decide) ?_
  refine g_istoreN (pc := 1) (L' := [some (.ref 0), some (.int (0 : Int32))]) K.1 d5_1 (blt rfl) rfl ?_
  exact ok_M_resetRecords_l2 K hw NF  _ _ h
theorem con_M_resetRecords (l : Launch) (Z : State) (a0 : Array Value) (hw : HW a0 Z) (n1 : Nat) (a : Addr) (ha : n1 ≤ a) {NF : Nat} {σ : St} {r : St} (h : M_resetRecords NF σ = some r) : Con l Z cC cFS cFA 23 n1 a ⟨cC, "resetRecords", "()V"⟩ c5 2 none ⟨0, 0, 0, 0⟩ [.ref 0] σ none r :=
  con_of_go pnC rfl (layW hw) lgood ha (fun X h1 K => ok_M_resetRecords K hw h)
abbrev KM_M_setThreadLast (X : Cx (St × Nat)) (Z : State) (a0 : Array Value) (l : Launch) (n1 : Nat) (a : Addr) (h0 : Heap) : Prop := CtxC X Z a0 cC cFS cFA 23 27 l n1 a h0 ce0 ⟨0, 0, 0, 0⟩ "setThreadLast" c8 4 none
def M_setThreadLast (σ : St) (v1 : Int32) (v2 : Int32) (v3 : Int32) : Option (St) :=
  (if v1 < 0 then (some σ) else (if v1 < (6 : Int32) then (if v2 < 0 then (some σ) else (if v2 < (6 : Int32) then (if 0 ≤ (((v1 * (6 : Int32)) + v2)).toInt ∧ (((v1 * (6 : Int32)) + v2)).toInt < 36 then (some (sA σ 13 (((v1 * (6 : Int32)) + v2)).toInt v3)) else none) else (some σ))) else (some σ)))
theorem ok_M_setThreadLast {X : Cx (St × Nat)} {Z : State} {a0 : Array Value} {l : Launch} {n1 : Nat} {a : Addr} {h0 : Heap} (K : KM_M_setThreadLast X Z a0 l n1 a h0) (hw : HW a0 Z) {σ : St} {v1 : Int32} {v2 : Int32} {v3 : Int32} {r : St} (h : M_setThreadLast σ v1 v2 v3 = some r) : Go X (none, (r, 23)) 0 [some (.ref 0), some (.int v1), some (.int v2), some (.int v3)] [] (σ, 23) := by
  unfold M_setThreadLast at h
  refine g_iloadN (pc := 0) K.1 d8_0 rfl ?_
  rcases ifs h with ⟨hc1, h⟩ | ⟨hc1, h⟩
  · refine g_ifT (pc := 1) (pc' := 20) K.1 d8_1 (by decide) ((if0 _ _).trans (tlt hc1).1) ?_
    cases h; exact g_return K.1 d8_20 (capC K)
  refine g_ifF (pc := 1) K.1 d8_1 ((if0 _ _).trans (flt hc1).1) ?_
  refine g_iloadN (pc := 4) K.1 d8_4 rfl ?_
  refine g_bipush (pc := 5) (v := 6) K.1 d8_5 (by decide) ?_
  rcases ifs h with ⟨hc7, h⟩ | ⟨hc7, h⟩
  · refine g_icF (pc := 7) K.1 d8_7 ((tlt hc7).2.1) ?_
    refine g_iloadN (pc := 10) K.1 d8_10 rfl ?_
    rcases ifs h with ⟨hc11, h⟩ | ⟨hc11, h⟩
    · refine g_ifT (pc := 11) (pc' := 20) K.1 d8_11 (by decide) ((if0 _ _).trans (tlt hc11).1) ?_
      cases h; exact g_return K.1 d8_20 (capC K)
    refine g_ifF (pc := 11) K.1 d8_11 ((if0 _ _).trans (flt hc11).1) ?_
    refine g_iloadN (pc := 14) K.1 d8_14 rfl ?_
    refine g_bipush (pc := 15) (v := 6) K.1 d8_15 (by decide) ?_
    rcases ifs h with ⟨hc17, h⟩ | ⟨hc17, h⟩
    · refine g_icT (pc := 17) (pc' := 21) K.1 d8_17 (by decide) ((tlt hc17).1) ?_
      refine g_aloadN (pc := 21) K.1 d8_21 rfl ?_
      refine g_getA (pc := 22) K d8_22 (w34 hw) mf_thLast rfl ?_
      refine g_iloadN (pc := 25) K.1 d8_25 rfl ?_
      refine g_bipush (pc := 26) (v := 6) K.1 d8_26 (by decide) ?_
      refine g_imul (pc := 28) K.1 d8_28 ?_
      refine g_iloadN (pc := 29) K.1 d8_29 rfl ?_
      refine g_iadd (pc := 30) K.1 d8_30 ?_
      refine g_iloadN (pc := 31) K.1 d8_31 rfl ?_
      obtain ⟨hc32, h⟩ := ifn h
      refine g_iastore (pc := 32) K d8_32 ma_thLast rfl hc32 ?_
      cases h; exact g_return K.1 d8_33 (capC K)
    refine g_icF (pc := 17) K.1 d8_17 ((flt hc17).1) ?_
    cases h; exact g_return K.1 d8_20 (capC K)
  refine g_icT (pc := 7) (pc' := 20) K.1 d8_7 (by decide) ((flt hc7).2.1) ?_
  cases h; exact g_return K.1 d8_20 (capC K)
theorem con_M_setThreadLast (l : Launch) (Z : State) (a0 : Array Value) (hw : HW a0 Z) (n1 : Nat) (a : Addr) (ha : n1 ≤ a) {σ : St} {v1 : Int32} {v2 : Int32} {v3 : Int32} {r : St} (h : M_setThreadLast σ v1 v2 v3 = some r) : Con l Z cC cFS cFA 23 n1 a ⟨cC, "setThreadLast", "(III)V"⟩ c8 4 none ⟨0, 0, 0, 0⟩ [.ref 0, .int v1, .int v2, .int v3] σ none r :=
  con_of_go pnC rfl (layW hw) lgood ha (fun X h1 K => ok_M_setThreadLast K hw h)
abbrev KM_M_clearThreadLast (X : Cx (St × Nat)) (Z : State) (a0 : Array Value) (l : Launch) (n1 : Nat) (a : Addr) (h0 : Heap) : Prop := CtxC X Z a0 cC cFS cFA 23 27 l n1 a h0 ce0 ⟨1, 0, 0, 15⟩ "clearThreadLast" c7 3 none
def M_clearThreadLast_w2 (NF : Nat) (k2 : Int32 → Int32 → St → Option (St)) (i1 : Int32) (i2 : Int32) (σ : St) : Option (St) :=
  (if i2 < (6 : Int32) then ((M_setThreadLast σ i1 i2 (0 : Int32)).bind fun q12 => k2 i1 (i2 + (1 : Int32)) q12) else (some σ))
theorem ok_M_clearThreadLast_w2 {X : Cx (St × Nat)} {Z : State} {a0 : Array Value} {l : Launch} {n1 : Nat} {a : Addr} {h0 : Heap} {NF : Nat} (K : KM_M_clearThreadLast X Z a0 l n1 a h0) (hw : HW a0 Z) {k2 : Int32 → Int32 → St → Option (St)} {i1 : Int32} {i2 : Int32} {σ : St} {r : St} (hk2 : ∀ (i1 : Int32) (i2 : Int32) (σ : St) (h : k2 i1 i2 σ = some r), Go X (none, (r, 23)) 2 [some (.ref 0), some (.int i1), some (.int i2)] [] (σ, 23)) (h : M_clearThreadLast_w2 NF k2 i1 i2 σ = some r) : Go X (none, (r, 23)) 2 [some (.ref 0), some (.int i1), some (.int i2)] [] (σ, 23) := by
  unfold M_clearThreadLast_w2 at h
  refine g_iloadN (pc := 2) K.1 d7_2 rfl ?_
  refine g_bipush (pc := 3) (v := 6) K.1 d7_3 (by decide) ?_
  rcases ifs h with ⟨hc5, h⟩ | ⟨hc5, h⟩
  · refine g_icF (pc := 5) K.1 d7_5 ((tlt hc5).2.1) ?_
    refine g_aloadN (pc := 8) K.1 d7_8 rfl ?_
    refine g_iloadN (pc := 9) K.1 d7_9 rfl ?_
    refine g_iloadN (pc := 10) K.1 d7_10 rfl ?_
    refine g_iconst (pc := 11) (v := 0) K.1 d7_11 (by decide) ?_
    obtain ⟨q12, hq12, h⟩ := Option.bind_eq_some_iff.mp h
    refine g_callP (pc := 12) (vs := [.int i1, .int i2, .int (0 : Int32)]) K d7_12 (w80 hw) (w81 hw) (w82 hw) (w83 hw) hyC pd_1 rfl rfl (con_M_setThreadLast l Z a0 hw n1 a (ctx_le K) hq12) rfl (Nat.le_of_ble_eq_true rfl) (Nat.le_of_ble_eq_true rfl) rfl rfl ?_
    refine g_iinc (pc := 15) (w := 1) (L' := [some (.ref 0), some (.int i1), some (.int (i2 + (1 : Int32)))]) K.1 d7_15 rfl (by decide) rfl ?_
    refine g_goto (pc := 18) (pc' := 2) K.1 d7_18 (by decide) ?_
    exact hk2 _ _ _ h
  refine g_icT (pc := 5) (pc' := 21) K.1 d7_5 (by decide) ((flt hc5).2.1) ?_
  cases h; exact g_return K.1 d7_21 (capC K)
def M_clearThreadLast_l2 (NF : Nat)  : Nat → Int32 → Int32 → St → Option (St)
  | 0 => fun _ _ _ => none
  | n + 1 => fun i1 i2 σ => M_clearThreadLast_w2 NF  (M_clearThreadLast_l2 NF  n) i1 i2 σ
theorem ok_M_clearThreadLast_l2 {X : Cx (St × Nat)} {Z : State} {a0 : Array Value} {l : Launch} {n1 : Nat} {a : Addr} {h0 : Heap} {NF : Nat} (K : KM_M_clearThreadLast X Z a0 l n1 a h0) (hw : HW a0 Z) (n : Nat)  {r : St}  : ∀ (i1 : Int32) (i2 : Int32) (σ : St) (h : M_clearThreadLast_l2 NF  n i1 i2 σ = some r), Go X (none, (r, 23)) 2 [some (.ref 0), some (.int i1), some (.int i2)] [] (σ, 23) := by
  induction n with
  | zero => intro i1 i2 σ h; cases h
  | succ n ih => intro i1 i2 σ h; exact ok_M_clearThreadLast_w2 (NF := NF) K hw  ih h
def M_clearThreadLast (NF : Nat) (σ : St) (v1 : Int32) : Option (St) :=
  M_clearThreadLast_l2 NF NF v1 (0 : Int32) σ
theorem ok_M_clearThreadLast {X : Cx (St × Nat)} {Z : State} {a0 : Array Value} {l : Launch} {n1 : Nat} {a : Addr} {h0 : Heap} {NF : Nat} (K : KM_M_clearThreadLast X Z a0 l n1 a h0) (hw : HW a0 Z) {σ : St} {v1 : Int32} {r : St} (h : M_clearThreadLast NF σ v1 = some r) : Go X (none, (r, 23)) 0 [some (.ref 0), some (.int v1), none] [] (σ, 23) := by
  unfold M_clearThreadLast at h
  refine g_iconst (pc := 0) (v := 0) K.1 d7_0 (by decide) ?_
  refine g_istoreN (pc := 1) (L' := [some (.ref 0), some (.int v1), some (.int (0 : Int32))]) K.1 d7_1 (blt rfl) rfl ?_
  exact ok_M_clearThreadLast_l2 K hw NF  _ _ _ h
theorem con_M_clearThreadLast (l : Launch) (Z : State) (a0 : Array Value) (hw : HW a0 Z) (n1 : Nat) (a : Addr) (ha : n1 ≤ a) {NF : Nat} {σ : St} {v1 : Int32} {r : St} (h : M_clearThreadLast NF σ v1 = some r) : Con l Z cC cFS cFA 23 n1 a ⟨cC, "clearThreadLast", "(I)V"⟩ c7 3 none ⟨1, 0, 0, 15⟩ [.ref 0, .int v1] σ none r :=
  con_of_go pnC rfl (layW hw) lgood ha (fun X h1 K => ok_M_clearThreadLast K hw h)
abbrev KM_M_resetThreads (X : Cx (St × Nat)) (Z : State) (a0 : Array Value) (l : Launch) (n1 : Nat) (a : Addr) (h0 : Heap) : Prop := CtxC X Z a0 cC cFS cFA 23 27 l n1 a h0 ce0 ⟨2, 0, 0, 29⟩ "resetThreads" c6 2 none
def M_resetThreads_w2 (NF : Nat) (k2 : Int32 → St → Option (St)) (i1 : Int32) (σ : St) : Option (St) :=
  (if i1 < (6 : Int32) then (if 0 ≤ (i1).toInt ∧ (i1).toInt < 6 then (if 0 ≤ (i1).toInt ∧ (i1).toInt < 6 then (if 0 ≤ (i1).toInt ∧ (i1).toInt < 6 then (if 0 ≤ (i1).toInt ∧ (i1).toInt < 6 then (if 0 ≤ (i1).toInt ∧ (i1).toInt < 6 then (if 0 ≤ (i1).toInt ∧ (i1).toInt < 6 then ((M_clearThreadLast NF (sA (sA (sA (sA (sA (sA σ 7 (i1).toInt (0 : Int32)) 8 (i1).toInt (0 : Int32)) 9 (i1).toInt (0 : Int32)) 10 (i1).toInt (0 : Int32)) 11 (i1).toInt (0 : Int32)) 12 (i1).toInt (0 : Int32)) i1).bind fun q52 => k2 (i1 + (1 : Int32)) q52) else none) else none) else none) else none) else none) else none) else (some σ))
theorem ok_M_resetThreads_w2 {X : Cx (St × Nat)} {Z : State} {a0 : Array Value} {l : Launch} {n1 : Nat} {a : Addr} {h0 : Heap} {NF : Nat} (K : KM_M_resetThreads X Z a0 l n1 a h0) (hw : HW a0 Z) {k2 : Int32 → St → Option (St)} {i1 : Int32} {σ : St} {r : St} (hk2 : ∀ (i1 : Int32) (σ : St) (h : k2 i1 σ = some r), Go X (none, (r, 23)) 2 [some (.ref 0), some (.int i1)] [] (σ, 23)) (h : M_resetThreads_w2 NF k2 i1 σ = some r) : Go X (none, (r, 23)) 2 [some (.ref 0), some (.int i1)] [] (σ, 23) := by
  unfold M_resetThreads_w2 at h
  refine g_iloadN (pc := 2) K.1 d6_2 rfl ?_
  refine g_bipush (pc := 3) (v := 6) K.1 d6_3 (by decide) ?_
  rcases ifs h with ⟨hc5, h⟩ | ⟨hc5, h⟩
  · refine g_icF (pc := 5) K.1 d6_5 ((tlt hc5).2.1) ?_
    refine g_aloadN (pc := 8) K.1 d6_8 rfl ?_
    refine g_getA (pc := 9) K d6_9 (w22 hw) mf_thPhase rfl ?_
    refine g_iloadN (pc := 12) K.1 d6_12 rfl ?_
    refine g_iconst (pc := 13) (v := 0) K.1 d6_13 (by decide) ?_
    obtain ⟨hc14, h⟩ := ifn h
    refine g_iastore (pc := 14) K d6_14 ma_thPhase rfl hc14 ?_
    refine g_aloadN (pc := 15) K.1 d6_15 rfl ?_
    refine g_getA (pc := 16) K d6_16 (w24 hw) mf_thOwn rfl ?_
    refine g_iloadN (pc := 19) K.1 d6_19 rfl ?_
    refine g_iconst (pc := 20) (v := 0) K.1 d6_20 (by decide) ?_
    obtain ⟨hc21, h⟩ := ifn h
    refine g_iastore (pc := 21) K d6_21 ma_thOwn rfl hc21 ?_
    refine g_aloadN (pc := 22) K.1 d6_22 rfl ?_
    refine g_getA (pc := 23) K d6_23 (w26 hw) mf_thP rfl ?_
    refine g_iloadN (pc := 26) K.1 d6_26 rfl ?_
    refine g_iconst (pc := 27) (v := 0) K.1 d6_27 (by decide) ?_
    obtain ⟨hc28, h⟩ := ifn h
    refine g_iastore (pc := 28) K d6_28 ma_thP rfl hc28 ?_
    refine g_aloadN (pc := 29) K.1 d6_29 rfl ?_
    refine g_getA (pc := 30) K d6_30 (w28 hw) mf_thC rfl ?_
    refine g_iloadN (pc := 33) K.1 d6_33 rfl ?_
    refine g_iconst (pc := 34) (v := 0) K.1 d6_34 (by decide) ?_
    obtain ⟨hc35, h⟩ := ifn h
    refine g_iastore (pc := 35) K d6_35 ma_thC rfl hc35 ?_
    refine g_aloadN (pc := 36) K.1 d6_36 rfl ?_
    refine g_getA (pc := 37) K d6_37 (w30 hw) mf_thSteps rfl ?_
    refine g_iloadN (pc := 40) K.1 d6_40 rfl ?_
    refine g_iconst (pc := 41) (v := 0) K.1 d6_41 (by decide) ?_
    obtain ⟨hc42, h⟩ := ifn h
    refine g_iastore (pc := 42) K d6_42 ma_thSteps rfl hc42 ?_
    refine g_aloadN (pc := 43) K.1 d6_43 rfl ?_
    refine g_getA (pc := 44) K d6_44 (w32 hw) mf_thHelped rfl ?_
    refine g_iloadN (pc := 47) K.1 d6_47 rfl ?_
    refine g_iconst (pc := 48) (v := 0) K.1 d6_48 (by decide) ?_
    obtain ⟨hc49, h⟩ := ifn h
    refine g_iastore (pc := 49) K d6_49 ma_thHelped rfl hc49 ?_
    refine g_aloadN (pc := 50) K.1 d6_50 rfl ?_
    refine g_iloadN (pc := 51) K.1 d6_51 rfl ?_
    obtain ⟨q52, hq52, h⟩ := Option.bind_eq_some_iff.mp h
    refine g_callP (pc := 52) (vs := [.int i1]) K d6_52 (w76 hw) (w77 hw) (w78 hw) (w79 hw) hyC pd_2 rfl rfl (con_M_clearThreadLast l Z a0 hw n1 a (ctx_le K) hq52) rfl (Nat.le_of_ble_eq_true rfl) (Nat.le_of_ble_eq_true rfl) rfl rfl ?_
    refine g_iinc (pc := 55) (w := 1) (L' := [some (.ref 0), some (.int (i1 + (1 : Int32)))]) K.1 d6_55 rfl (by decide) rfl ?_
    refine g_goto (pc := 58) (pc' := 2) K.1 d6_58 (by decide) ?_
    exact hk2 _ _ h
  refine g_icT (pc := 5) (pc' := 61) K.1 d6_5 (by decide) ((flt hc5).2.1) ?_
  cases h; exact g_return K.1 d6_61 (capC K)
def M_resetThreads_l2 (NF : Nat)  : Nat → Int32 → St → Option (St)
  | 0 => fun _ _ => none
  | n + 1 => fun i1 σ => M_resetThreads_w2 NF  (M_resetThreads_l2 NF  n) i1 σ
theorem ok_M_resetThreads_l2 {X : Cx (St × Nat)} {Z : State} {a0 : Array Value} {l : Launch} {n1 : Nat} {a : Addr} {h0 : Heap} {NF : Nat} (K : KM_M_resetThreads X Z a0 l n1 a h0) (hw : HW a0 Z) (n : Nat)  {r : St}  : ∀ (i1 : Int32) (σ : St) (h : M_resetThreads_l2 NF  n i1 σ = some r), Go X (none, (r, 23)) 2 [some (.ref 0), some (.int i1)] [] (σ, 23) := by
  induction n with
  | zero => intro i1 σ h; cases h
  | succ n ih => intro i1 σ h; exact ok_M_resetThreads_w2 (NF := NF) K hw  ih h
def M_resetThreads (NF : Nat) (σ : St) : Option (St) :=
  M_resetThreads_l2 NF NF (0 : Int32) σ
theorem ok_M_resetThreads {X : Cx (St × Nat)} {Z : State} {a0 : Array Value} {l : Launch} {n1 : Nat} {a : Addr} {h0 : Heap} {NF : Nat} (K : KM_M_resetThreads X Z a0 l n1 a h0) (hw : HW a0 Z) {σ : St} {r : St} (h : M_resetThreads NF σ = some r) : Go X (none, (r, 23)) 0 [some (.ref 0), none] [] (σ, 23) := by
  unfold M_resetThreads at h
  refine g_iconst (pc := 0) (v := 0) K.1 d6_0 (by decide) ?_
  refine g_istoreN (pc := 1) (L' := [some (.ref 0), some (.int (0 : Int32))]) K.1 d6_1 (blt rfl) rfl ?_
  exact ok_M_resetThreads_l2 K hw NF  _ _ h
theorem con_M_resetThreads (l : Launch) (Z : State) (a0 : Array Value) (hw : HW a0 Z) (n1 : Nat) (a : Addr) (ha : n1 ≤ a) {NF : Nat} {σ : St} {r : St} (h : M_resetThreads NF σ = some r) : Con l Z cC cFS cFA 23 n1 a ⟨cC, "resetThreads", "()V"⟩ c6 2 none ⟨2, 0, 0, 29⟩ [.ref 0] σ none r :=
  con_of_go pnC rfl (layW hw) lgood ha (fun X h1 K => ok_M_resetThreads K hw h)
abbrev KM_M_resetAnnounces (X : Cx (St × Nat)) (Z : State) (a0 : Array Value) (l : Launch) (n1 : Nat) (a : Addr) (h0 : Heap) : Prop := CtxC X Z a0 cC cFS cFA 23 27 l n1 a h0 ce0 ⟨0, 0, 0, 0⟩ "resetAnnounces" c9 2 none
def M_resetAnnounces_w2 (NF : Nat) (k2 : Int32 → St → Option (St)) (i1 : Int32) (σ : St) : Option (St) :=
  (if i1 < (6 : Int32) then (if 0 ≤ (i1).toInt ∧ (i1).toInt < 6 then (if 0 ≤ (i1).toInt ∧ (i1).toInt < 6 then (if 0 ≤ (i1).toInt ∧ (i1).toInt < 6 then k2 (i1 + (1 : Int32)) (sA (sA (sA σ 14 (i1).toInt (0 : Int32)) 15 (i1).toInt (0 : Int32)) 16 (i1).toInt (0 : Int32)) else none) else none) else none) else (some σ))
theorem ok_M_resetAnnounces_w2 {X : Cx (St × Nat)} {Z : State} {a0 : Array Value} {l : Launch} {n1 : Nat} {a : Addr} {h0 : Heap} {NF : Nat} (K : KM_M_resetAnnounces X Z a0 l n1 a h0) (hw : HW a0 Z) {k2 : Int32 → St → Option (St)} {i1 : Int32} {σ : St} {r : St} (hk2 : ∀ (i1 : Int32) (σ : St) (h : k2 i1 σ = some r), Go X (none, (r, 23)) 2 [some (.ref 0), some (.int i1)] [] (σ, 23)) (h : M_resetAnnounces_w2 NF k2 i1 σ = some r) : Go X (none, (r, 23)) 2 [some (.ref 0), some (.int i1)] [] (σ, 23) := by
  unfold M_resetAnnounces_w2 at h
  refine g_iloadN (pc := 2) K.1 d9_2 rfl ?_
  refine g_bipush (pc := 3) (v := 6) K.1 d9_3 (by decide) ?_
  rcases ifs h with ⟨hc5, h⟩ | ⟨hc5, h⟩
  · refine g_icF (pc := 5) K.1 d9_5 ((tlt hc5).2.1) ?_
    refine g_aloadN (pc := 8) K.1 d9_8 rfl ?_
    refine g_getA (pc := 9) K d9_9 (w36 hw) mf_annId rfl ?_
    refine g_iloadN (pc := 12) K.1 d9_12 rfl ?_
    refine g_iconst (pc := 13) (v := 0) K.1 d9_13 (by decide) ?_
    obtain ⟨hc14, h⟩ := ifn h
    refine g_iastore (pc := 14) K d9_14 ma_annId rfl hc14 ?_
    refine g_aloadN (pc := 15) K.1 d9_15 rfl ?_
    refine g_getA (pc := 16) K d9_16 (w38 hw) mf_annKind rfl ?_
    refine g_iloadN (pc := 19) K.1 d9_19 rfl ?_
    refine g_iconst (pc := 20) (v := 0) K.1 d9_20 (by decide) ?_
    obtain ⟨hc21, h⟩ := ifn h
    refine g_iastore (pc := 21) K d9_21 ma_annKind rfl hc21 ?_
    refine g_aloadN (pc := 22) K.1 d9_22 rfl ?_
    refine g_getA (pc := 23) K d9_23 (w40 hw) mf_annArg rfl ?_
    refine g_iloadN (pc := 26) K.1 d9_26 rfl ?_
    refine g_iconst (pc := 27) (v := 0) K.1 d9_27 (by decide) ?_
    obtain ⟨hc28, h⟩ := ifn h
    refine g_iastore (pc := 28) K d9_28 ma_annArg rfl hc28 ?_
    refine g_iinc (pc := 29) (w := 1) (L' := [some (.ref 0), some (.int (i1 + (1 : Int32)))]) K.1 d9_29 rfl (by decide) rfl ?_
    refine g_goto (pc := 32) (pc' := 2) K.1 d9_32 (by decide) ?_
    exact hk2 _ _ h
  refine g_icT (pc := 5) (pc' := 35) K.1 d9_5 (by decide) ((flt hc5).2.1) ?_
  cases h; exact g_return K.1 d9_35 (capC K)
def M_resetAnnounces_l2 (NF : Nat)  : Nat → Int32 → St → Option (St)
  | 0 => fun _ _ => none
  | n + 1 => fun i1 σ => M_resetAnnounces_w2 NF  (M_resetAnnounces_l2 NF  n) i1 σ
theorem ok_M_resetAnnounces_l2 {X : Cx (St × Nat)} {Z : State} {a0 : Array Value} {l : Launch} {n1 : Nat} {a : Addr} {h0 : Heap} {NF : Nat} (K : KM_M_resetAnnounces X Z a0 l n1 a h0) (hw : HW a0 Z) (n : Nat)  {r : St}  : ∀ (i1 : Int32) (σ : St) (h : M_resetAnnounces_l2 NF  n i1 σ = some r), Go X (none, (r, 23)) 2 [some (.ref 0), some (.int i1)] [] (σ, 23) := by
  induction n with
  | zero => intro i1 σ h; cases h
  | succ n ih => intro i1 σ h; exact ok_M_resetAnnounces_w2 (NF := NF) K hw  ih h
def M_resetAnnounces (NF : Nat) (σ : St) : Option (St) :=
  M_resetAnnounces_l2 NF NF (0 : Int32) σ
theorem ok_M_resetAnnounces {X : Cx (St × Nat)} {Z : State} {a0 : Array Value} {l : Launch} {n1 : Nat} {a : Addr} {h0 : Heap} {NF : Nat} (K : KM_M_resetAnnounces X Z a0 l n1 a h0) (hw : HW a0 Z) {σ : St} {r : St} (h : M_resetAnnounces NF σ = some r) : Go X (none, (r, 23)) 0 [some (.ref 0), none] [] (σ, 23) := by
  unfold M_resetAnnounces at h
  refine g_iconst (pc := 0) (v := 0) K.1 d9_0 (by decide) ?_
  refine g_istoreN (pc := 1) (L' := [some (.ref 0), some (.int (0 : Int32))]) K.1 d9_1 (blt rfl) rfl ?_
  exact ok_M_resetAnnounces_l2 K hw NF  _ _ h
theorem con_M_resetAnnounces (l : Launch) (Z : State) (a0 : Array Value) (hw : HW a0 Z) (n1 : Nat) (a : Addr) (ha : n1 ≤ a) {NF : Nat} {σ : St} {r : St} (h : M_resetAnnounces NF σ = some r) : Con l Z cC cFS cFA 23 n1 a ⟨cC, "resetAnnounces", "()V"⟩ c9 2 none ⟨0, 0, 0, 0⟩ [.ref 0] σ none r :=
  con_of_go pnC rfl (layW hw) lgood ha (fun X h1 K => ok_M_resetAnnounces K hw h)
abbrev KM_M_writeQueueSlot (X : Cx (St × Nat)) (Z : State) (a0 : Array Value) (l : Launch) (n1 : Nat) (a : Addr) (h0 : Heap) : Prop := CtxC X Z a0 cC cFS cFA 23 27 l n1 a h0 ce0 ⟨0, 0, 0, 0⟩ "writeQueueSlot" c12 4 none
def M_writeQueueSlot (σ : St) (v1 : Int32) (v2 : Int32) (v3 : Int32) : Option (St) :=
  (if v1 < 0 then (some σ) else (if v1 < (8 : Int32) then (if v2 < 0 then (some σ) else (if v2 < (4 : Int32) then (if 0 ≤ (((v1 * (4 : Int32)) + v2)).toInt ∧ (((v1 * (4 : Int32)) + v2)).toInt < 32 then (some (sA σ 22 (((v1 * (4 : Int32)) + v2)).toInt v3)) else none) else (some σ))) else (some σ)))
theorem ok_M_writeQueueSlot {X : Cx (St × Nat)} {Z : State} {a0 : Array Value} {l : Launch} {n1 : Nat} {a : Addr} {h0 : Heap} (K : KM_M_writeQueueSlot X Z a0 l n1 a h0) (hw : HW a0 Z) {σ : St} {v1 : Int32} {v2 : Int32} {v3 : Int32} {r : St} (h : M_writeQueueSlot σ v1 v2 v3 = some r) : Go X (none, (r, 23)) 0 [some (.ref 0), some (.int v1), some (.int v2), some (.int v3)] [] (σ, 23) := by
  unfold M_writeQueueSlot at h
  refine g_iloadN (pc := 0) K.1 d12_0 rfl ?_
  rcases ifs h with ⟨hc1, h⟩ | ⟨hc1, h⟩
  · refine g_ifT (pc := 1) (pc' := 19) K.1 d12_1 (by decide) ((if0 _ _).trans (tlt hc1).1) ?_
    cases h; exact g_return K.1 d12_19 (capC K)
  refine g_ifF (pc := 1) K.1 d12_1 ((if0 _ _).trans (flt hc1).1) ?_
  refine g_iloadN (pc := 4) K.1 d12_4 rfl ?_
  refine g_bipush (pc := 5) (v := 8) K.1 d12_5 (by decide) ?_
  rcases ifs h with ⟨hc7, h⟩ | ⟨hc7, h⟩
  · refine g_icF (pc := 7) K.1 d12_7 ((tlt hc7).2.1) ?_
    refine g_iloadN (pc := 10) K.1 d12_10 rfl ?_
    rcases ifs h with ⟨hc11, h⟩ | ⟨hc11, h⟩
    · refine g_ifT (pc := 11) (pc' := 19) K.1 d12_11 (by decide) ((if0 _ _).trans (tlt hc11).1) ?_
      cases h; exact g_return K.1 d12_19 (capC K)
    refine g_ifF (pc := 11) K.1 d12_11 ((if0 _ _).trans (flt hc11).1) ?_
    refine g_iloadN (pc := 14) K.1 d12_14 rfl ?_
    refine g_iconst (pc := 15) (v := 4) K.1 d12_15 (by decide) ?_
    rcases ifs h with ⟨hc16, h⟩ | ⟨hc16, h⟩
    · refine g_icT (pc := 16) (pc' := 20) K.1 d12_16 (by decide) ((tlt hc16).1) ?_
      refine g_aloadN (pc := 20) K.1 d12_20 rfl ?_
      refine g_getA (pc := 21) K d12_21 (w52 hw) mf_cellQ rfl ?_
      refine g_iloadN (pc := 24) K.1 d12_24 rfl ?_
      refine g_iconst (pc := 25) (v := 4) K.1 d12_25 (by decide) ?_
      refine g_imul (pc := 26) K.1 d12_26 ?_
      refine g_iloadN (pc := 27) K.1 d12_27 rfl ?_
      refine g_iadd (pc := 28) K.1 d12_28 ?_
      refine g_iloadN (pc := 29) K.1 d12_29 rfl ?_
      obtain ⟨hc30, h⟩ := ifn h
      refine g_iastore (pc := 30) K d12_30 ma_cellQ rfl hc30 ?_
      cases h; exact g_return K.1 d12_31 (capC K)
    refine g_icF (pc := 16) K.1 d12_16 ((flt hc16).1) ?_
    cases h; exact g_return K.1 d12_19 (capC K)
  refine g_icT (pc := 7) (pc' := 19) K.1 d12_7 (by decide) ((flt hc7).2.1) ?_
  cases h; exact g_return K.1 d12_19 (capC K)
theorem con_M_writeQueueSlot (l : Launch) (Z : State) (a0 : Array Value) (hw : HW a0 Z) (n1 : Nat) (a : Addr) (ha : n1 ≤ a) {σ : St} {v1 : Int32} {v2 : Int32} {v3 : Int32} {r : St} (h : M_writeQueueSlot σ v1 v2 v3 = some r) : Con l Z cC cFS cFA 23 n1 a ⟨cC, "writeQueueSlot", "(III)V"⟩ c12 4 none ⟨0, 0, 0, 0⟩ [.ref 0, .int v1, .int v2, .int v3] σ none r :=
  con_of_go pnC rfl (layW hw) lgood ha (fun X h1 K => ok_M_writeQueueSlot K hw h)
abbrev KM_M_clearCellQueue (X : Cx (St × Nat)) (Z : State) (a0 : Array Value) (l : Launch) (n1 : Nat) (a : Addr) (h0 : Heap) : Prop := CtxC X Z a0 cC cFS cFA 23 27 l n1 a h0 ce0 ⟨1, 0, 0, 15⟩ "clearCellQueue" c11 3 none
def M_clearCellQueue_w2 (NF : Nat) (k2 : Int32 → Int32 → St → Option (St)) (i1 : Int32) (i2 : Int32) (σ : St) : Option (St) :=
  (if i2 < (4 : Int32) then ((M_writeQueueSlot σ i1 i2 (0 : Int32)).bind fun q11 => k2 i1 (i2 + (1 : Int32)) q11) else (some σ))
theorem ok_M_clearCellQueue_w2 {X : Cx (St × Nat)} {Z : State} {a0 : Array Value} {l : Launch} {n1 : Nat} {a : Addr} {h0 : Heap} {NF : Nat} (K : KM_M_clearCellQueue X Z a0 l n1 a h0) (hw : HW a0 Z) {k2 : Int32 → Int32 → St → Option (St)} {i1 : Int32} {i2 : Int32} {σ : St} {r : St} (hk2 : ∀ (i1 : Int32) (i2 : Int32) (σ : St) (h : k2 i1 i2 σ = some r), Go X (none, (r, 23)) 2 [some (.ref 0), some (.int i1), some (.int i2)] [] (σ, 23)) (h : M_clearCellQueue_w2 NF k2 i1 i2 σ = some r) : Go X (none, (r, 23)) 2 [some (.ref 0), some (.int i1), some (.int i2)] [] (σ, 23) := by
  unfold M_clearCellQueue_w2 at h
  refine g_iloadN (pc := 2) K.1 d11_2 rfl ?_
  refine g_iconst (pc := 3) (v := 4) K.1 d11_3 (by decide) ?_
  rcases ifs h with ⟨hc4, h⟩ | ⟨hc4, h⟩
  · refine g_icF (pc := 4) K.1 d11_4 ((tlt hc4).2.1) ?_
    refine g_aloadN (pc := 7) K.1 d11_7 rfl ?_
    refine g_iloadN (pc := 8) K.1 d11_8 rfl ?_
    refine g_iloadN (pc := 9) K.1 d11_9 rfl ?_
    refine g_iconst (pc := 10) (v := 0) K.1 d11_10 (by decide) ?_
    obtain ⟨q11, hq11, h⟩ := Option.bind_eq_some_iff.mp h
    refine g_callP (pc := 11) (vs := [.int i1, .int i2, .int (0 : Int32)]) K d11_11 (w96 hw) (w97 hw) (w98 hw) (w99 hw) hyC pd_1 rfl rfl (con_M_writeQueueSlot l Z a0 hw n1 a (ctx_le K) hq11) rfl (Nat.le_of_ble_eq_true rfl) (Nat.le_of_ble_eq_true rfl) rfl rfl ?_
    refine g_iinc (pc := 14) (w := 1) (L' := [some (.ref 0), some (.int i1), some (.int (i2 + (1 : Int32)))]) K.1 d11_14 rfl (by decide) rfl ?_
    refine g_goto (pc := 17) (pc' := 2) K.1 d11_17 (by decide) ?_
    exact hk2 _ _ _ h
  refine g_icT (pc := 4) (pc' := 20) K.1 d11_4 (by decide) ((flt hc4).2.1) ?_
  cases h; exact g_return K.1 d11_20 (capC K)
def M_clearCellQueue_l2 (NF : Nat)  : Nat → Int32 → Int32 → St → Option (St)
  | 0 => fun _ _ _ => none
  | n + 1 => fun i1 i2 σ => M_clearCellQueue_w2 NF  (M_clearCellQueue_l2 NF  n) i1 i2 σ
theorem ok_M_clearCellQueue_l2 {X : Cx (St × Nat)} {Z : State} {a0 : Array Value} {l : Launch} {n1 : Nat} {a : Addr} {h0 : Heap} {NF : Nat} (K : KM_M_clearCellQueue X Z a0 l n1 a h0) (hw : HW a0 Z) (n : Nat)  {r : St}  : ∀ (i1 : Int32) (i2 : Int32) (σ : St) (h : M_clearCellQueue_l2 NF  n i1 i2 σ = some r), Go X (none, (r, 23)) 2 [some (.ref 0), some (.int i1), some (.int i2)] [] (σ, 23) := by
  induction n with
  | zero => intro i1 i2 σ h; cases h
  | succ n ih => intro i1 i2 σ h; exact ok_M_clearCellQueue_w2 (NF := NF) K hw  ih h
def M_clearCellQueue (NF : Nat) (σ : St) (v1 : Int32) : Option (St) :=
  M_clearCellQueue_l2 NF NF v1 (0 : Int32) σ
theorem ok_M_clearCellQueue {X : Cx (St × Nat)} {Z : State} {a0 : Array Value} {l : Launch} {n1 : Nat} {a : Addr} {h0 : Heap} {NF : Nat} (K : KM_M_clearCellQueue X Z a0 l n1 a h0) (hw : HW a0 Z) {σ : St} {v1 : Int32} {r : St} (h : M_clearCellQueue NF σ v1 = some r) : Go X (none, (r, 23)) 0 [some (.ref 0), some (.int v1), none] [] (σ, 23) := by
  unfold M_clearCellQueue at h
  refine g_iconst (pc := 0) (v := 0) K.1 d11_0 (by decide) ?_
  refine g_istoreN (pc := 1) (L' := [some (.ref 0), some (.int v1), some (.int (0 : Int32))]) K.1 d11_1 (blt rfl) rfl ?_
  exact ok_M_clearCellQueue_l2 K hw NF  _ _ _ h
theorem con_M_clearCellQueue (l : Launch) (Z : State) (a0 : Array Value) (hw : HW a0 Z) (n1 : Nat) (a : Addr) (ha : n1 ≤ a) {NF : Nat} {σ : St} {v1 : Int32} {r : St} (h : M_clearCellQueue NF σ v1 = some r) : Con l Z cC cFS cFA 23 n1 a ⟨cC, "clearCellQueue", "(I)V"⟩ c11 3 none ⟨1, 0, 0, 15⟩ [.ref 0, .int v1] σ none r :=
  con_of_go pnC rfl (layW hw) lgood ha (fun X h1 K => ok_M_clearCellQueue K hw h)
abbrev KM_M_setCellLast (X : Cx (St × Nat)) (Z : State) (a0 : Array Value) (l : Launch) (n1 : Nat) (a : Addr) (h0 : Heap) : Prop := CtxC X Z a0 cC cFS cFA 23 27 l n1 a h0 ce0 ⟨0, 0, 0, 0⟩ "setCellLast" c14 4 none
def M_setCellLast (σ : St) (v1 : Int32) (v2 : Int32) (v3 : Int32) : Option (St) :=
  (if v1 < 0 then (some σ) else (if v1 < (8 : Int32) then (if v2 < 0 then (some σ) else (if v2 < (6 : Int32) then (if 0 ≤ (((v1 * (6 : Int32)) + v2)).toInt ∧ (((v1 * (6 : Int32)) + v2)).toInt < 48 then (some (sA σ 23 (((v1 * (6 : Int32)) + v2)).toInt v3)) else none) else (some σ))) else (some σ)))
theorem ok_M_setCellLast {X : Cx (St × Nat)} {Z : State} {a0 : Array Value} {l : Launch} {n1 : Nat} {a : Addr} {h0 : Heap} (K : KM_M_setCellLast X Z a0 l n1 a h0) (hw : HW a0 Z) {σ : St} {v1 : Int32} {v2 : Int32} {v3 : Int32} {r : St} (h : M_setCellLast σ v1 v2 v3 = some r) : Go X (none, (r, 23)) 0 [some (.ref 0), some (.int v1), some (.int v2), some (.int v3)] [] (σ, 23) := by
  unfold M_setCellLast at h
  refine g_iloadN (pc := 0) K.1 d14_0 rfl ?_
  rcases ifs h with ⟨hc1, h⟩ | ⟨hc1, h⟩
  · refine g_ifT (pc := 1) (pc' := 20) K.1 d14_1 (by decide) ((if0 _ _).trans (tlt hc1).1) ?_
    cases h; exact g_return K.1 d14_20 (capC K)
  refine g_ifF (pc := 1) K.1 d14_1 ((if0 _ _).trans (flt hc1).1) ?_
  refine g_iloadN (pc := 4) K.1 d14_4 rfl ?_
  refine g_bipush (pc := 5) (v := 8) K.1 d14_5 (by decide) ?_
  rcases ifs h with ⟨hc7, h⟩ | ⟨hc7, h⟩
  · refine g_icF (pc := 7) K.1 d14_7 ((tlt hc7).2.1) ?_
    refine g_iloadN (pc := 10) K.1 d14_10 rfl ?_
    rcases ifs h with ⟨hc11, h⟩ | ⟨hc11, h⟩
    · refine g_ifT (pc := 11) (pc' := 20) K.1 d14_11 (by decide) ((if0 _ _).trans (tlt hc11).1) ?_
      cases h; exact g_return K.1 d14_20 (capC K)
    refine g_ifF (pc := 11) K.1 d14_11 ((if0 _ _).trans (flt hc11).1) ?_
    refine g_iloadN (pc := 14) K.1 d14_14 rfl ?_
    refine g_bipush (pc := 15) (v := 6) K.1 d14_15 (by decide) ?_
    rcases ifs h with ⟨hc17, h⟩ | ⟨hc17, h⟩
    · refine g_icT (pc := 17) (pc' := 21) K.1 d14_17 (by decide) ((tlt hc17).1) ?_
      refine g_aloadN (pc := 21) K.1 d14_21 rfl ?_
      refine g_getA (pc := 22) K d14_22 (w54 hw) mf_cellLast rfl ?_
      refine g_iloadN (pc := 25) K.1 d14_25 rfl ?_
      refine g_bipush (pc := 26) (v := 6) K.1 d14_26 (by decide) ?_
      refine g_imul (pc := 28) K.1 d14_28 ?_
      refine g_iloadN (pc := 29) K.1 d14_29 rfl ?_
      refine g_iadd (pc := 30) K.1 d14_30 ?_
      refine g_iloadN (pc := 31) K.1 d14_31 rfl ?_
      obtain ⟨hc32, h⟩ := ifn h
      refine g_iastore (pc := 32) K d14_32 ma_cellLast rfl hc32 ?_
      cases h; exact g_return K.1 d14_33 (capC K)
    refine g_icF (pc := 17) K.1 d14_17 ((flt hc17).1) ?_
    cases h; exact g_return K.1 d14_20 (capC K)
  refine g_icT (pc := 7) (pc' := 20) K.1 d14_7 (by decide) ((flt hc7).2.1) ?_
  cases h; exact g_return K.1 d14_20 (capC K)
theorem con_M_setCellLast (l : Launch) (Z : State) (a0 : Array Value) (hw : HW a0 Z) (n1 : Nat) (a : Addr) (ha : n1 ≤ a) {σ : St} {v1 : Int32} {v2 : Int32} {v3 : Int32} {r : St} (h : M_setCellLast σ v1 v2 v3 = some r) : Con l Z cC cFS cFA 23 n1 a ⟨cC, "setCellLast", "(III)V"⟩ c14 4 none ⟨0, 0, 0, 0⟩ [.ref 0, .int v1, .int v2, .int v3] σ none r :=
  con_of_go pnC rfl (layW hw) lgood ha (fun X h1 K => ok_M_setCellLast K hw h)
abbrev KM_M_clearCellLast (X : Cx (St × Nat)) (Z : State) (a0 : Array Value) (l : Launch) (n1 : Nat) (a : Addr) (h0 : Heap) : Prop := CtxC X Z a0 cC cFS cFA 23 27 l n1 a h0 ce0 ⟨1, 0, 0, 15⟩ "clearCellLast" c13 3 none
def M_clearCellLast_w2 (NF : Nat) (k2 : Int32 → Int32 → St → Option (St)) (i1 : Int32) (i2 : Int32) (σ : St) : Option (St) :=
  (if i2 < (6 : Int32) then ((M_setCellLast σ i1 i2 (0 : Int32)).bind fun q12 => k2 i1 (i2 + (1 : Int32)) q12) else (some σ))
theorem ok_M_clearCellLast_w2 {X : Cx (St × Nat)} {Z : State} {a0 : Array Value} {l : Launch} {n1 : Nat} {a : Addr} {h0 : Heap} {NF : Nat} (K : KM_M_clearCellLast X Z a0 l n1 a h0) (hw : HW a0 Z) {k2 : Int32 → Int32 → St → Option (St)} {i1 : Int32} {i2 : Int32} {σ : St} {r : St} (hk2 : ∀ (i1 : Int32) (i2 : Int32) (σ : St) (h : k2 i1 i2 σ = some r), Go X (none, (r, 23)) 2 [some (.ref 0), some (.int i1), some (.int i2)] [] (σ, 23)) (h : M_clearCellLast_w2 NF k2 i1 i2 σ = some r) : Go X (none, (r, 23)) 2 [some (.ref 0), some (.int i1), some (.int i2)] [] (σ, 23) := by
  unfold M_clearCellLast_w2 at h
  refine g_iloadN (pc := 2) K.1 d13_2 rfl ?_
  refine g_bipush (pc := 3) (v := 6) K.1 d13_3 (by decide) ?_
  rcases ifs h with ⟨hc5, h⟩ | ⟨hc5, h⟩
  · refine g_icF (pc := 5) K.1 d13_5 ((tlt hc5).2.1) ?_
    refine g_aloadN (pc := 8) K.1 d13_8 rfl ?_
    refine g_iloadN (pc := 9) K.1 d13_9 rfl ?_
    refine g_iloadN (pc := 10) K.1 d13_10 rfl ?_
    refine g_iconst (pc := 11) (v := 0) K.1 d13_11 (by decide) ?_
    obtain ⟨q12, hq12, h⟩ := Option.bind_eq_some_iff.mp h
    refine g_callP (pc := 12) (vs := [.int i1, .int i2, .int (0 : Int32)]) K d13_12 (w104 hw) (w105 hw) (w106 hw) (w107 hw) hyC pd_1 rfl rfl (con_M_setCellLast l Z a0 hw n1 a (ctx_le K) hq12) rfl (Nat.le_of_ble_eq_true rfl) (Nat.le_of_ble_eq_true rfl) rfl rfl ?_
    refine g_iinc (pc := 15) (w := 1) (L' := [some (.ref 0), some (.int i1), some (.int (i2 + (1 : Int32)))]) K.1 d13_15 rfl (by decide) rfl ?_
    refine g_goto (pc := 18) (pc' := 2) K.1 d13_18 (by decide) ?_
    exact hk2 _ _ _ h
  refine g_icT (pc := 5) (pc' := 21) K.1 d13_5 (by decide) ((flt hc5).2.1) ?_
  cases h; exact g_return K.1 d13_21 (capC K)
def M_clearCellLast_l2 (NF : Nat)  : Nat → Int32 → Int32 → St → Option (St)
  | 0 => fun _ _ _ => none
  | n + 1 => fun i1 i2 σ => M_clearCellLast_w2 NF  (M_clearCellLast_l2 NF  n) i1 i2 σ
theorem ok_M_clearCellLast_l2 {X : Cx (St × Nat)} {Z : State} {a0 : Array Value} {l : Launch} {n1 : Nat} {a : Addr} {h0 : Heap} {NF : Nat} (K : KM_M_clearCellLast X Z a0 l n1 a h0) (hw : HW a0 Z) (n : Nat)  {r : St}  : ∀ (i1 : Int32) (i2 : Int32) (σ : St) (h : M_clearCellLast_l2 NF  n i1 i2 σ = some r), Go X (none, (r, 23)) 2 [some (.ref 0), some (.int i1), some (.int i2)] [] (σ, 23) := by
  induction n with
  | zero => intro i1 i2 σ h; cases h
  | succ n ih => intro i1 i2 σ h; exact ok_M_clearCellLast_w2 (NF := NF) K hw  ih h
def M_clearCellLast (NF : Nat) (σ : St) (v1 : Int32) : Option (St) :=
  M_clearCellLast_l2 NF NF v1 (0 : Int32) σ
theorem ok_M_clearCellLast {X : Cx (St × Nat)} {Z : State} {a0 : Array Value} {l : Launch} {n1 : Nat} {a : Addr} {h0 : Heap} {NF : Nat} (K : KM_M_clearCellLast X Z a0 l n1 a h0) (hw : HW a0 Z) {σ : St} {v1 : Int32} {r : St} (h : M_clearCellLast NF σ v1 = some r) : Go X (none, (r, 23)) 0 [some (.ref 0), some (.int v1), none] [] (σ, 23) := by
  unfold M_clearCellLast at h
  refine g_iconst (pc := 0) (v := 0) K.1 d13_0 (by decide) ?_
  refine g_istoreN (pc := 1) (L' := [some (.ref 0), some (.int v1), some (.int (0 : Int32))]) K.1 d13_1 (blt rfl) rfl ?_
  exact ok_M_clearCellLast_l2 K hw NF  _ _ _ h
theorem con_M_clearCellLast (l : Launch) (Z : State) (a0 : Array Value) (hw : HW a0 Z) (n1 : Nat) (a : Addr) (ha : n1 ≤ a) {NF : Nat} {σ : St} {v1 : Int32} {r : St} (h : M_clearCellLast NF σ v1 = some r) : Con l Z cC cFS cFA 23 n1 a ⟨cC, "clearCellLast", "(I)V"⟩ c13 3 none ⟨1, 0, 0, 15⟩ [.ref 0, .int v1] σ none r :=
  con_of_go pnC rfl (layW hw) lgood ha (fun X h1 K => ok_M_clearCellLast K hw h)
abbrev KM_M_resetCells (X : Cx (St × Nat)) (Z : State) (a0 : Array Value) (l : Launch) (n1 : Nat) (a : Addr) (h0 : Heap) : Prop := CtxC X Z a0 cC cFS cFA 23 27 l n1 a h0 ce0 ⟨2, 0, 0, 29⟩ "resetCells" c10 2 none
def M_resetCells_w2 (NF : Nat) (k2 : Int32 → St → Option (St)) (i1 : Int32) (σ : St) : Option (St) :=
  (if i1 < (8 : Int32) then (if 0 ≤ (i1).toInt ∧ (i1).toInt < 8 then (if 0 ≤ (i1).toInt ∧ (i1).toInt < 8 then (if 0 ≤ (i1).toInt ∧ (i1).toInt < 8 then (if 0 ≤ (i1).toInt ∧ (i1).toInt < 8 then (if 0 ≤ (i1).toInt ∧ (i1).toInt < 8 then ((M_clearCellQueue NF (sA (sA (sA (sA (sA σ 17 (i1).toInt (-1 : Int32)) 18 (i1).toInt (0 : Int32)) 19 (i1).toInt (0 : Int32)) 20 (i1).toInt (0 : Int32)) 21 (i1).toInt (0 : Int32)) i1).bind fun q45 => ((M_clearCellLast NF q45 i1).bind fun q50 => k2 (i1 + (1 : Int32)) q50)) else none) else none) else none) else none) else none) else (some (sA σ 17 ((0 : Int32)).toInt (0 : Int32))))
theorem ok_M_resetCells_w2 {X : Cx (St × Nat)} {Z : State} {a0 : Array Value} {l : Launch} {n1 : Nat} {a : Addr} {h0 : Heap} {NF : Nat} (K : KM_M_resetCells X Z a0 l n1 a h0) (hw : HW a0 Z) {k2 : Int32 → St → Option (St)} {i1 : Int32} {σ : St} {r : St} (hk2 : ∀ (i1 : Int32) (σ : St) (h : k2 i1 σ = some r), Go X (none, (r, 23)) 2 [some (.ref 0), some (.int i1)] [] (σ, 23)) (h : M_resetCells_w2 NF k2 i1 σ = some r) : Go X (none, (r, 23)) 2 [some (.ref 0), some (.int i1)] [] (σ, 23) := by
  unfold M_resetCells_w2 at h
  refine g_iloadN (pc := 2) K.1 d10_2 rfl ?_
  refine g_bipush (pc := 3) (v := 8) K.1 d10_3 (by decide) ?_
  rcases ifs h with ⟨hc5, h⟩ | ⟨hc5, h⟩
  · refine g_icF (pc := 5) K.1 d10_5 ((tlt hc5).2.1) ?_
    refine g_aloadN (pc := 8) K.1 d10_8 rfl ?_
    refine g_getA (pc := 9) K d10_9 (w42 hw) mf_cellPos rfl ?_
    refine g_iloadN (pc := 12) K.1 d10_12 rfl ?_
    refine g_iconst (pc := 13) (v := -1) K.1 d10_13 (by decide) ?_
    obtain ⟨hc14, h⟩ := ifn h
    refine g_iastore (pc := 14) K d10_14 ma_cellPos rfl hc14 ?_
    refine g_aloadN (pc := 15) K.1 d10_15 rfl ?_
    refine g_getA (pc := 16) K d10_16 (w44 hw) mf_cellId rfl ?_
    refine g_iloadN (pc := 19) K.1 d10_19 rfl ?_
    refine g_iconst (pc := 20) (v := 0) K.1 d10_20 (by decide) ?_
    obtain ⟨hc21, h⟩ := ifn h
    refine g_iastore (pc := 21) K d10_21 ma_cellId rfl hc21 ?_
    refine g_aloadN (pc := 22) K.1 d10_22 rfl ?_
    refine g_getA (pc := 23) K d10_23 (w46 hw) mf_cellResp rfl ?_
    refine g_iloadN (pc := 26) K.1 d10_26 rfl ?_
    refine g_iconst (pc := 27) (v := 0) K.1 d10_27 (by decide) ?_
    obtain ⟨hc28, h⟩ := ifn h
    refine g_iastore (pc := 28) K d10_28 ma_cellResp rfl hc28 ?_
    refine g_aloadN (pc := 29) K.1 d10_29 rfl ?_
    refine g_getA (pc := 30) K d10_30 (w48 hw) mf_cellCounter rfl ?_
    refine g_iloadN (pc := 33) K.1 d10_33 rfl ?_
    refine g_iconst (pc := 34) (v := 0) K.1 d10_34 (by decide) ?_
    obtain ⟨hc35, h⟩ := ifn h
    refine g_iastore (pc := 35) K d10_35 ma_cellCounter rfl hc35 ?_
    refine g_aloadN (pc := 36) K.1 d10_36 rfl ?_
    refine g_getA (pc := 37) K d10_37 (w50 hw) mf_cellQLen rfl ?_
    refine g_iloadN (pc := 40) K.1 d10_40 rfl ?_
    refine g_iconst (pc := 41) (v := 0) K.1 d10_41 (by decide) ?_
    obtain ⟨hc42, h⟩ := ifn h
    refine g_iastore (pc := 42) K d10_42 ma_cellQLen rfl hc42 ?_
    refine g_aloadN (pc := 43) K.1 d10_43 rfl ?_
    refine g_iloadN (pc := 44) K.1 d10_44 rfl ?_
    obtain ⟨q45, hq45, h⟩ := Option.bind_eq_some_iff.mp h
    refine g_callP (pc := 45) (vs := [.int i1]) K d10_45 (w92 hw) (w93 hw) (w94 hw) (w95 hw) hyC pd_2 rfl rfl (con_M_clearCellQueue l Z a0 hw n1 a (ctx_le K) hq45) rfl (Nat.le_of_ble_eq_true rfl) (Nat.le_of_ble_eq_true rfl) rfl rfl ?_
    refine g_aloadN (pc := 48) K.1 d10_48 rfl ?_
    refine g_iloadN (pc := 49) K.1 d10_49 rfl ?_
    obtain ⟨q50, hq50, h⟩ := Option.bind_eq_some_iff.mp h
    refine g_callP (pc := 50) (vs := [.int i1]) K d10_50 (w100 hw) (w101 hw) (w102 hw) (w103 hw) hyC pd_2 rfl rfl (con_M_clearCellLast l Z a0 hw n1 a (ctx_le K) hq50) rfl (Nat.le_of_ble_eq_true rfl) (Nat.le_of_ble_eq_true rfl) rfl rfl ?_
    refine g_iinc (pc := 53) (w := 1) (L' := [some (.ref 0), some (.int (i1 + (1 : Int32)))]) K.1 d10_53 rfl (by decide) rfl ?_
    refine g_goto (pc := 56) (pc' := 2) K.1 d10_56 (by decide) ?_
    exact hk2 _ _ h
  refine g_icT (pc := 5) (pc' := 59) K.1 d10_5 (by decide) ((flt hc5).2.1) ?_
  refine g_aloadN (pc := 59) K.1 d10_59 rfl ?_
  refine g_getA (pc := 60) K d10_60 (w42 hw) mf_cellPos rfl ?_
  refine g_iconst (pc := 63) (v := 0) K.1 d10_63 (by decide) ?_
  refine g_iconst (pc := 64) (v := 0) K.1 d10_64 (by decide) ?_
  refine g_iastore (pc := 65) K d10_65 ma_cellPos rfl (by decide) ?_
  cases h; exact g_return K.1 d10_66 (capC K)
def M_resetCells_l2 (NF : Nat)  : Nat → Int32 → St → Option (St)
  | 0 => fun _ _ => none
  | n + 1 => fun i1 σ => M_resetCells_w2 NF  (M_resetCells_l2 NF  n) i1 σ
theorem ok_M_resetCells_l2 {X : Cx (St × Nat)} {Z : State} {a0 : Array Value} {l : Launch} {n1 : Nat} {a : Addr} {h0 : Heap} {NF : Nat} (K : KM_M_resetCells X Z a0 l n1 a h0) (hw : HW a0 Z) (n : Nat)  {r : St}  : ∀ (i1 : Int32) (σ : St) (h : M_resetCells_l2 NF  n i1 σ = some r), Go X (none, (r, 23)) 2 [some (.ref 0), some (.int i1)] [] (σ, 23) := by
  induction n with
  | zero => intro i1 σ h; cases h
  | succ n ih => intro i1 σ h; exact ok_M_resetCells_w2 (NF := NF) K hw  ih h
def M_resetCells (NF : Nat) (σ : St) : Option (St) :=
  M_resetCells_l2 NF NF (0 : Int32) σ
theorem ok_M_resetCells {X : Cx (St × Nat)} {Z : State} {a0 : Array Value} {l : Launch} {n1 : Nat} {a : Addr} {h0 : Heap} {NF : Nat} (K : KM_M_resetCells X Z a0 l n1 a h0) (hw : HW a0 Z) {σ : St} {r : St} (h : M_resetCells NF σ = some r) : Go X (none, (r, 23)) 0 [some (.ref 0), none] [] (σ, 23) := by
  unfold M_resetCells at h
  refine g_iconst (pc := 0) (v := 0) K.1 d10_0 (by decide) ?_
  refine g_istoreN (pc := 1) (L' := [some (.ref 0), some (.int (0 : Int32))]) K.1 d10_1 (blt rfl) rfl ?_
  exact ok_M_resetCells_l2 K hw NF  _ _ h
theorem con_M_resetCells (l : Launch) (Z : State) (a0 : Array Value) (hw : HW a0 Z) (n1 : Nat) (a : Addr) (ha : n1 ≤ a) {NF : Nat} {σ : St} {r : St} (h : M_resetCells NF σ = some r) : Con l Z cC cFS cFA 23 n1 a ⟨cC, "resetCells", "()V"⟩ c10 2 none ⟨2, 0, 0, 29⟩ [.ref 0] σ none r :=
  con_of_go pnC rfl (layW hw) lgood ha (fun X h1 K => ok_M_resetCells K hw h)
abbrev KM_M_init (X : Cx (St × Nat)) (Z : State) (a0 : Array Value) (l : Launch) (n1 : Nat) (a : Addr) (h0 : Heap) : Prop := CtxC X Z a0 cC cFS cFA 23 27 l n1 a h0 (ceI cFA) ⟨3, 23, 1656, 42⟩ "<init>" c3 3 none
def M_init (NF : Nat) (v1 : Int32) (v2 : Int32) : Option (St) :=
  ((M_clamp z0 v1 (2 : Int32) (6 : Int32)).bind fun q200 => ((M_clamp (sI q200.2 137 q200.1) v2 (1 : Int32) (4 : Int32)).bind fun q211 => ((M_resetRecords NF (sI (sI (sI q211.2 138 q211.1) 139 (0 : Int32)) 153 (0 : Int32))).bind fun q228 => ((M_resetThreads NF q228).bind fun q232 => ((M_resetAnnounces NF q232).bind fun q236 => ((M_resetCells NF q236).bind fun q240 => (some q240)))))))
theorem ok_M_init {X : Cx (St × Nat)} {Z : State} {a0 : Array Value} {l : Launch} {n1 : Nat} {a : Addr} {h0 : Heap} {NF : Nat} (K : KM_M_init X Z a0 l n1 a h0) (hw : HW a0 Z) (hh : h0.size = a + 1) {v1 : Int32} {v2 : Int32} {r : St} (h : M_init NF v1 v2 = some r) : Go X (none, (r, 23)) 0 [some (.ref 0), some (.int v1), some (.int v2)] [] (z0, 0) := by
  unfold M_init at h
  refine g_aloadN (pc := 0) K.1 d3_0 rfl ?_
  refine g_objinit (pc := 1) K d3_1 (w6 hw) (w7 hw) (w8 hw) rfl (by decide) (by decide) ?_
  refine g_aloadN (pc := 4) K.1 d3_4 rfl ?_
  refine g_sipush (pc := 5) (v := 241) K.1 d3_5 (by decide) ?_
  refine g_newput (pc := 8) (j := 0) K d3_8 d3_10 (w9 hw) (w10 hw) mf_opKind (Or.inl (w11 hw)) pfd_AI (fun _ => rfl) (fun _ => rfl) (Or.inl rfl) ma_opKind rfl rfl (by decide) (by decide) (by decide) hh rfl (by decide) (by decide) (by decide) (fun _ => rfl) ?_
  refine g_aloadN (pc := 13) K.1 d3_13 rfl ?_
  refine g_sipush (pc := 14) (v := 241) K.1 d3_14 (by decide) ?_
  refine g_newput (pc := 17) (j := 1) K d3_17 d3_19 (w9 hw) (w12 hw) mf_opArg (Or.inl (w13 hw)) pfd_AI (fun _ => rfl) (fun _ => rfl) (Or.inl rfl) ma_opArg rfl rfl (by decide) (by decide) (by decide) hh rfl (by decide) (by decide) (by decide) (fun _ => rfl) ?_
  refine g_aloadN (pc := 22) K.1 d3_22 rfl ?_
  refine g_sipush (pc := 23) (v := 241) K.1 d3_23 (by decide) ?_
  refine g_newput (pc := 26) (j := 2) K d3_26 d3_28 (w9 hw) (w14 hw) mf_opThread (Or.inl (w15 hw)) pfd_AI (fun _ => rfl) (fun _ => rfl) (Or.inl rfl) ma_opThread rfl rfl (by decide) (by decide) (by decide) hh rfl (by decide) (by decide) (by decide) (fun _ => rfl) ?_
  refine g_aloadN (pc := 31) K.1 d3_31 rfl ?_
  refine g_sipush (pc := 32) (v := 241) K.1 d3_32 (by decide) ?_
  refine g_newput (pc := 35) (j := 3) K d3_35 d3_37 (w9 hw) (w16 hw) mf_opStatus (Or.inl (w17 hw)) pfd_AI (fun _ => rfl) (fun _ => rfl) (Or.inl rfl) ma_opStatus rfl rfl (by decide) (by decide) (by decide) hh rfl (by decide) (by decide) (by decide) (fun _ => rfl) ?_
  refine g_aloadN (pc := 40) K.1 d3_40 rfl ?_
  refine g_sipush (pc := 41) (v := 241) K.1 d3_41 (by decide) ?_
  refine g_newput (pc := 44) (j := 4) K d3_44 d3_46 (w9 hw) (w18 hw) mf_opResp (Or.inl (w19 hw)) pfd_AI (fun _ => rfl) (fun _ => rfl) (Or.inl rfl) ma_opResp rfl rfl (by decide) (by decide) (by decide) hh rfl (by decide) (by decide) (by decide) (fun _ => rfl) ?_
  refine g_aloadN (pc := 49) K.1 d3_49 rfl ?_
  refine g_sipush (pc := 50) (v := 241) K.1 d3_50 (by decide) ?_
  refine g_newput (pc := 53) (j := 5) K d3_53 d3_55 (w9 hw) (w20 hw) mf_opPos (Or.inl (w21 hw)) pfd_AI (fun _ => rfl) (fun _ => rfl) (Or.inl rfl) ma_opPos rfl rfl (by decide) (by decide) (by decide) hh rfl (by decide) (by decide) (by decide) (fun _ => rfl) ?_
  refine g_aloadN (pc := 58) K.1 d3_58 rfl ?_
  refine g_bipush (pc := 59) (v := 6) K.1 d3_59 (by decide) ?_
  refine g_newput (pc := 61) (j := 6) K d3_61 d3_63 (w9 hw) (w22 hw) mf_thPhase (Or.inl (w23 hw)) pfd_AI (fun _ => rfl) (fun _ => rfl) (Or.inl rfl) ma_thPhase rfl rfl (by decide) (by decide) (by decide) hh rfl (by decide) (by decide) (by decide) (fun _ => rfl) ?_
  refine g_aloadN (pc := 66) K.1 d3_66 rfl ?_
  refine g_bipush (pc := 67) (v := 6) K.1 d3_67 (by decide) ?_
  refine g_newput (pc := 69) (j := 7) K d3_69 d3_71 (w9 hw) (w24 hw) mf_thOwn (Or.inl (w25 hw)) pfd_AI (fun _ => rfl) (fun _ => rfl) (Or.inl rfl) ma_thOwn rfl rfl (by decide) (by decide) (by decide) hh rfl (by decide) (by decide) (by decide) (fun _ => rfl) ?_
  refine g_aloadN (pc := 74) K.1 d3_74 rfl ?_
  refine g_bipush (pc := 75) (v := 6) K.1 d3_75 (by decide) ?_
  refine g_newput (pc := 77) (j := 8) K d3_77 d3_79 (w9 hw) (w26 hw) mf_thP (Or.inl (w27 hw)) pfd_AI (fun _ => rfl) (fun _ => rfl) (Or.inl rfl) ma_thP rfl rfl (by decide) (by decide) (by decide) hh rfl (by decide) (by decide) (by decide) (fun _ => rfl) ?_
  refine g_aloadN (pc := 82) K.1 d3_82 rfl ?_
  refine g_bipush (pc := 83) (v := 6) K.1 d3_83 (by decide) ?_
  refine g_newput (pc := 85) (j := 9) K d3_85 d3_87 (w9 hw) (w28 hw) mf_thC (Or.inl (w29 hw)) pfd_AI (fun _ => rfl) (fun _ => rfl) (Or.inl rfl) ma_thC rfl rfl (by decide) (by decide) (by decide) hh rfl (by decide) (by decide) (by decide) (fun _ => rfl) ?_
  refine g_aloadN (pc := 90) K.1 d3_90 rfl ?_
  refine g_bipush (pc := 91) (v := 6) K.1 d3_91 (by decide) ?_
  refine g_newput (pc := 93) (j := 10) K d3_93 d3_95 (w9 hw) (w30 hw) mf_thSteps (Or.inl (w31 hw)) pfd_AI (fun _ => rfl) (fun _ => rfl) (Or.inl rfl) ma_thSteps rfl rfl (by decide) (by decide) (by decide) hh rfl (by decide) (by decide) (by decide) (fun _ => rfl) ?_
  refine g_aloadN (pc := 98) K.1 d3_98 rfl ?_
  refine g_bipush (pc := 99) (v := 6) K.1 d3_99 (by decide) ?_
  refine g_newput (pc := 101) (j := 11) K d3_101 d3_103 (w9 hw) (w32 hw) mf_thHelped (Or.inl (w33 hw)) pfd_AI (fun _ => rfl) (fun _ => rfl) (Or.inl rfl) ma_thHelped rfl rfl (by decide) (by decide) (by decide) hh rfl (by decide) (by decide) (by decide) (fun _ => rfl) ?_
  refine g_aloadN (pc := 106) K.1 d3_106 rfl ?_
  refine g_bipush (pc := 107) (v := 36) K.1 d3_107 (by decide) ?_
  refine g_newput (pc := 109) (j := 12) K d3_109 d3_111 (w9 hw) (w34 hw) mf_thLast (Or.inl (w35 hw)) pfd_AI (fun _ => rfl) (fun _ => rfl) (Or.inl rfl) ma_thLast rfl rfl (by decide) (by decide) (by decide) hh rfl (by decide) (by decide) (by decide) (fun _ => rfl) ?_
  refine g_aloadN (pc := 114) K.1 d3_114 rfl ?_
  refine g_bipush (pc := 115) (v := 6) K.1 d3_115 (by decide) ?_
  refine g_newput (pc := 117) (j := 13) K d3_117 d3_119 (w9 hw) (w36 hw) mf_annId (Or.inl (w37 hw)) pfd_AI (fun _ => rfl) (fun _ => rfl) (Or.inl rfl) ma_annId rfl rfl (by decide) (by decide) (by decide) hh rfl (by decide) (by decide) (by decide) (fun _ => rfl) ?_
  refine g_aloadN (pc := 122) K.1 d3_122 rfl ?_
  refine g_bipush (pc := 123) (v := 6) K.1 d3_123 (by decide) ?_
  refine g_newput (pc := 125) (j := 14) K d3_125 d3_127 (w9 hw) (w38 hw) mf_annKind (Or.inl (w39 hw)) pfd_AI (fun _ => rfl) (fun _ => rfl) (Or.inl rfl) ma_annKind rfl rfl (by decide) (by decide) (by decide) hh rfl (by decide) (by decide) (by decide) (fun _ => rfl) ?_
  refine g_aloadN (pc := 130) K.1 d3_130 rfl ?_
  refine g_bipush (pc := 131) (v := 6) K.1 d3_131 (by decide) ?_
  refine g_newput (pc := 133) (j := 15) K d3_133 d3_135 (w9 hw) (w40 hw) mf_annArg (Or.inl (w41 hw)) pfd_AI (fun _ => rfl) (fun _ => rfl) (Or.inl rfl) ma_annArg rfl rfl (by decide) (by decide) (by decide) hh rfl (by decide) (by decide) (by decide) (fun _ => rfl) ?_
  refine g_aloadN (pc := 138) K.1 d3_138 rfl ?_
  refine g_bipush (pc := 139) (v := 8) K.1 d3_139 (by decide) ?_
  refine g_newput (pc := 141) (j := 16) K d3_141 d3_143 (w9 hw) (w42 hw) mf_cellPos (Or.inl (w43 hw)) pfd_AI (fun _ => rfl) (fun _ => rfl) (Or.inl rfl) ma_cellPos rfl rfl (by decide) (by decide) (by decide) hh rfl (by decide) (by decide) (by decide) (fun _ => rfl) ?_
  refine g_aloadN (pc := 146) K.1 d3_146 rfl ?_
  refine g_bipush (pc := 147) (v := 8) K.1 d3_147 (by decide) ?_
  refine g_newput (pc := 149) (j := 17) K d3_149 d3_151 (w9 hw) (w44 hw) mf_cellId (Or.inl (w45 hw)) pfd_AI (fun _ => rfl) (fun _ => rfl) (Or.inl rfl) ma_cellId rfl rfl (by decide) (by decide) (by decide) hh rfl (by decide) (by decide) (by decide) (fun _ => rfl) ?_
  refine g_aloadN (pc := 154) K.1 d3_154 rfl ?_
  refine g_bipush (pc := 155) (v := 8) K.1 d3_155 (by decide) ?_
  refine g_newput (pc := 157) (j := 18) K d3_157 d3_159 (w9 hw) (w46 hw) mf_cellResp (Or.inl (w47 hw)) pfd_AI (fun _ => rfl) (fun _ => rfl) (Or.inl rfl) ma_cellResp rfl rfl (by decide) (by decide) (by decide) hh rfl (by decide) (by decide) (by decide) (fun _ => rfl) ?_
  refine g_aloadN (pc := 162) K.1 d3_162 rfl ?_
  refine g_bipush (pc := 163) (v := 8) K.1 d3_163 (by decide) ?_
  refine g_newput (pc := 165) (j := 19) K d3_165 d3_167 (w9 hw) (w48 hw) mf_cellCounter (Or.inl (w49 hw)) pfd_AI (fun _ => rfl) (fun _ => rfl) (Or.inl rfl) ma_cellCounter rfl rfl (by decide) (by decide) (by decide) hh rfl (by decide) (by decide) (by decide) (fun _ => rfl) ?_
  refine g_aloadN (pc := 170) K.1 d3_170 rfl ?_
  refine g_bipush (pc := 171) (v := 8) K.1 d3_171 (by decide) ?_
  refine g_newput (pc := 173) (j := 20) K d3_173 d3_175 (w9 hw) (w50 hw) mf_cellQLen (Or.inl (w51 hw)) pfd_AI (fun _ => rfl) (fun _ => rfl) (Or.inl rfl) ma_cellQLen rfl rfl (by decide) (by decide) (by decide) hh rfl (by decide) (by decide) (by decide) (fun _ => rfl) ?_
  refine g_aloadN (pc := 178) K.1 d3_178 rfl ?_
  refine g_bipush (pc := 179) (v := 32) K.1 d3_179 (by decide) ?_
  refine g_newput (pc := 181) (j := 21) K d3_181 d3_183 (w9 hw) (w52 hw) mf_cellQ (Or.inl (w53 hw)) pfd_AI (fun _ => rfl) (fun _ => rfl) (Or.inl rfl) ma_cellQ rfl rfl (by decide) (by decide) (by decide) hh rfl (by decide) (by decide) (by decide) (fun _ => rfl) ?_
  refine g_aloadN (pc := 186) K.1 d3_186 rfl ?_
  refine g_bipush (pc := 187) (v := 48) K.1 d3_187 (by decide) ?_
  refine g_newput (pc := 189) (j := 22) K d3_189 d3_191 (w9 hw) (w54 hw) mf_cellLast (Or.inl (w55 hw)) pfd_AI (fun _ => rfl) (fun _ => rfl) (Or.inl rfl) ma_cellLast rfl rfl (by decide) (by decide) (by decide) hh rfl (by decide) (by decide) (by decide) (fun _ => rfl) ?_
  refine g_aloadN (pc := 194) K.1 d3_194 rfl ?_
  refine g_aloadN (pc := 195) K.1 d3_195 rfl ?_
  refine g_iloadN (pc := 196) K.1 d3_196 rfl ?_
  refine g_iconst (pc := 197) (v := 2) K.1 d3_197 (by decide) ?_
  refine g_bipush (pc := 198) (v := 6) K.1 d3_198 (by decide) ?_
  obtain ⟨q200, hq200, h⟩ := Option.bind_eq_some_iff.mp h
  refine g_callP (pc := 200) (vs := [.int v1, .int (2 : Int32), .int (6 : Int32)]) K d3_200 (w56 hw) (w57 hw) (w58 hw) (w59 hw) hyC pd_4 rfl rfl (con_M_clamp l Z a0 hw n1 a (ctx_le K) hq200) rfl (Nat.le_of_ble_eq_true rfl) (Nat.le_of_ble_eq_true rfl) rfl rfl ?_
  refine g_putI (pc := 203) (t := .int) (v' := q200.1) K d3_203 (w60 hw) mf_n (Or.inl (w61 hw)) pfd_I rfl rfl ?_
  refine g_aloadN (pc := 206) K.1 d3_206 rfl ?_
  refine g_aloadN (pc := 207) K.1 d3_207 rfl ?_
  refine g_iloadN (pc := 208) K.1 d3_208 rfl ?_
  refine g_iconst (pc := 209) (v := 1) K.1 d3_209 (by decide) ?_
  refine g_iconst (pc := 210) (v := 4) K.1 d3_210 (by decide) ?_
  obtain ⟨q211, hq211, h⟩ := Option.bind_eq_some_iff.mp h
  refine g_callP (pc := 211) (vs := [.int v2, .int (1 : Int32), .int (4 : Int32)]) K d3_211 (w56 hw) (w57 hw) (w58 hw) (w59 hw) hyC pd_4 rfl rfl (con_M_clamp l Z a0 hw n1 a (ctx_le K) hq211) rfl (Nat.le_of_ble_eq_true rfl) (Nat.le_of_ble_eq_true rfl) rfl rfl ?_
  refine g_putI (pc := 214) (t := .int) (v' := q211.1) K d3_214 (w62 hw) mf_cap (Or.inl (w63 hw)) pfd_I rfl rfl ?_
  refine g_aloadN (pc := 217) K.1 d3_217 rfl ?_
  refine g_iconst (pc := 218) (v := 0) K.1 d3_218 (by decide) ?_
  refine g_putI (pc := 219) (t := .int) (v' := (0 : Int32)) K d3_219 (w64 hw) mf_opCount (Or.inl (w65 hw)) pfd_I rfl rfl ?_
  refine g_aloadN (pc := 222) K.1 d3_222 rfl ?_
  refine g_iconst (pc := 223) (v := 0) K.1 d3_223 (by decide) ?_
  refine g_putI (pc := 224) (t := .int) (v' := (0 : Int32)) K d3_224 (w66 hw) mf_tailValue (Or.inl (w67 hw)) pfd_I rfl rfl ?_
  refine g_aloadN (pc := 227) K.1 d3_227 rfl ?_
  obtain ⟨q228, hq228, h⟩ := Option.bind_eq_some_iff.mp h
  refine g_callP (pc := 228) (vs := []) K d3_228 (w68 hw) (w69 hw) (w70 hw) (w71 hw) hyC pd_3 rfl rfl (con_M_resetRecords l Z a0 hw n1 a (ctx_le K) hq228) rfl (Nat.le_of_ble_eq_true rfl) (Nat.le_of_ble_eq_true rfl) rfl rfl ?_
  refine g_aloadN (pc := 231) K.1 d3_231 rfl ?_
  obtain ⟨q232, hq232, h⟩ := Option.bind_eq_some_iff.mp h
  refine g_callP (pc := 232) (vs := []) K d3_232 (w72 hw) (w73 hw) (w74 hw) (w75 hw) hyC pd_3 rfl rfl (con_M_resetThreads l Z a0 hw n1 a (ctx_le K) hq232) rfl (Nat.le_of_ble_eq_true rfl) (Nat.le_of_ble_eq_true rfl) rfl rfl ?_
  refine g_aloadN (pc := 235) K.1 d3_235 rfl ?_
  obtain ⟨q236, hq236, h⟩ := Option.bind_eq_some_iff.mp h
  refine g_callP (pc := 236) (vs := []) K d3_236 (w84 hw) (w85 hw) (w86 hw) (w87 hw) hyC pd_3 rfl rfl (con_M_resetAnnounces l Z a0 hw n1 a (ctx_le K) hq236) rfl (Nat.le_of_ble_eq_true rfl) (Nat.le_of_ble_eq_true rfl) rfl rfl ?_
  refine g_aloadN (pc := 239) K.1 d3_239 rfl ?_
  obtain ⟨q240, hq240, h⟩ := Option.bind_eq_some_iff.mp h
  refine g_callP (pc := 240) (vs := []) K d3_240 (w88 hw) (w89 hw) (w90 hw) (w91 hw) hyC pd_3 rfl rfl (con_M_resetCells l Z a0 hw n1 a (ctx_le K) hq240) rfl (Nat.le_of_ble_eq_true rfl) (Nat.le_of_ble_eq_true rfl) rfl rfl ?_
  cases h; exact g_return K.1 d3_243 (capC K)
theorem con_M_init (l : Launch) (Z : State) (a0 : Array Value) (hw : HW a0 Z) (n1 : Nat) (a : Addr) (ha : n1 ≤ a) {NF : Nat} {v1 : Int32} {v2 : Int32} {r : St} (h : M_init NF v1 v2 = some r) : ConI l Z cC cFS cFA 23 n1 a ⟨cC, "<init>", "(II)V"⟩ c3 3 ⟨3, 23, 1656, 42⟩ [.ref 0, .int v1, .int v2] r :=
  coni_of_go pnC rfl (layW hw) lgood ha (by decide) (by decide) (fun X h1 hh K => ok_M_init K hw hh h)
abbrev KM_M_recordOperation (X : Cx (St × Nat)) (Z : State) (a0 : Array Value) (l : Launch) (n1 : Nat) (a : Addr) (h0 : Heap) : Prop := CtxC X Z a0 cC cFS cFA 23 27 l n1 a h0 ce0 ⟨0, 0, 0, 0⟩ "recordOperation" c17 5 none
def M_recordOperation_b36  (i1 : Int32) (i2 : Int32) (t1 : Int32) (t2 : Int32) (σ : St) : Option (St) :=
  (if 0 ≤ (t1).toInt ∧ (t1).toInt < 241 then (if 0 ≤ (i1).toInt ∧ (i1).toInt < 241 then (if 0 ≤ (i1).toInt ∧ (i1).toInt < 241 then (if 0 ≤ (i1).toInt ∧ (i1).toInt < 241 then (if 0 ≤ (i1).toInt ∧ (i1).toInt < 241 then (some (sA (sA (sA (sA (sA σ 2 (t1).toInt t2) 3 (i1).toInt i2) 4 (i1).toInt (1 : Int32)) 5 (i1).toInt (0 : Int32)) 6 (i1).toInt (0 : Int32))) else none) else none) else none) else none) else none)
theorem ok_M_recordOperation_b36 {X : Cx (St × Nat)} {Z : State} {a0 : Array Value} {l : Launch} {n1 : Nat} {a : Addr} {h0 : Heap} (K : KM_M_recordOperation X Z a0 l n1 a h0) (hw : HW a0 Z)  {i1 : Int32} {i2 : Int32} {t1 : Int32} {t2 : Int32} {σ : St} {r : St}  (h : M_recordOperation_b36  i1 i2 t1 t2 σ = some r) : Go X (none, (r, 23)) 36 [some (.ref 0), some (.int i1), some (.int i2), none, none] [.int t2, .int t1, .ref 2] (σ, 23) := by
  unfold M_recordOperation_b36 at h
  obtain ⟨hc36, h⟩ := ifn h
  refine g_iastore (pc := 36) K d17_36 ma_opArg rfl hc36 ?_
  refine g_aloadN (pc := 37) K.1 d17_37 rfl ?_
  refine g_getA (pc := 38) K d17_38 (w14 hw) mf_opThread rfl ?_
  refine g_iloadN (pc := 41) K.1 d17_41 rfl ?_
  refine g_iloadN (pc := 42) K.1 d17_42 rfl ?_
  obtain ⟨hc43, h⟩ := ifn h
  refine g_iastore (pc := 43) K d17_43 ma_opThread rfl hc43 ?_
  refine g_aloadN (pc := 44) K.1 d17_44 rfl ?_
  refine g_getA (pc := 45) K d17_45 (w16 hw) mf_opStatus rfl ?_
  refine g_iloadN (pc := 48) K.1 d17_48 rfl ?_
  refine g_iconst (pc := 49) (v := 1) K.1 d17_49 (by decide) ?_
  obtain ⟨hc50, h⟩ := ifn h
  refine g_iastore (pc := 50) K d17_50 ma_opStatus rfl hc50 ?_
  refine g_aloadN (pc := 51) K.1 d17_51 rfl ?_
  refine g_getA (pc := 52) K d17_52 (w18 hw) mf_opResp rfl ?_
  refine g_iloadN (pc := 55) K.1 d17_55 rfl ?_
  refine g_iconst (pc := 56) (v := 0) K.1 d17_56 (by decide) ?_
  obtain ⟨hc57, h⟩ := ifn h
  refine g_iastore (pc := 57) K d17_57 ma_opResp rfl hc57 ?_
  refine g_aloadN (pc := 58) K.1 d17_58 rfl ?_
  refine g_getA (pc := 59) K d17_59 (w20 hw) mf_opPos rfl ?_
  refine g_iloadN (pc := 62) K.1 d17_62 rfl ?_
  refine g_iconst (pc := 63) (v := 0) K.1 d17_63 (by decide) ?_
  obtain ⟨hc64, h⟩ := ifn h
  refine g_iastore (pc := 64) K d17_64 ma_opPos rfl hc64 ?_
  cases h; exact g_return K.1 d17_65 (capC K)
def M_recordOperation (σ : St) (v1 : Int32) (v2 : Int32) (v3 : Int32) (v4 : Int32) : Option (St) :=
  (if v1 < (1 : Int32) then (some σ) else (if (240 : Int32) < v1 then (some σ) else (if 0 ≤ (v1).toInt ∧ (v1).toInt < 241 then (if v3 = (3 : Int32) then M_recordOperation_b36 v1 v2 v1 (0 : Int32) (sA σ 1 (v1).toInt v3) else M_recordOperation_b36 v1 v2 v1 v4 (sA σ 1 (v1).toInt v3)) else none)))
theorem ok_M_recordOperation {X : Cx (St × Nat)} {Z : State} {a0 : Array Value} {l : Launch} {n1 : Nat} {a : Addr} {h0 : Heap} (K : KM_M_recordOperation X Z a0 l n1 a h0) (hw : HW a0 Z) {σ : St} {v1 : Int32} {v2 : Int32} {v3 : Int32} {v4 : Int32} {r : St} (h : M_recordOperation σ v1 v2 v3 v4 = some r) : Go X (none, (r, 23)) 0 [some (.ref 0), some (.int v1), some (.int v2), some (.int v3), some (.int v4)] [] (σ, 23) := by
  unfold M_recordOperation at h
  refine g_iloadN (pc := 0) K.1 d17_0 rfl ?_
  refine g_iconst (pc := 1) (v := 1) K.1 d17_1 (by decide) ?_
  rcases ifs h with ⟨hc2, h⟩ | ⟨hc2, h⟩
  · refine g_icT (pc := 2) (pc' := 12) K.1 d17_2 (by decide) ((tlt hc2).1) ?_
    cases h; exact g_return K.1 d17_12 (capC K)
  refine g_icF (pc := 2) K.1 d17_2 ((flt hc2).1) ?_
  refine g_iloadN (pc := 5) K.1 d17_5 rfl ?_
  refine g_sipush (pc := 6) (v := 240) K.1 d17_6 (by decide) ?_
  rcases ifs h with ⟨hc9, h⟩ | ⟨hc9, h⟩
  · refine g_icF (pc := 9) K.1 d17_9 ((tlt hc9).2.2.2) ?_
    cases h; exact g_return K.1 d17_12 (capC K)
  refine g_icT (pc := 9) (pc' := 13) K.1 d17_9 (by decide) ((flt hc9).2.2.2) ?_
  refine g_aloadN (pc := 13) K.1 d17_13 rfl ?_
  refine g_getA (pc := 14) K d17_14 (w10 hw) mf_opKind rfl ?_
  refine g_iloadN (pc := 17) K.1 d17_17 rfl ?_
  refine g_iloadN (pc := 18) K.1 d17_18 rfl ?_
  obtain ⟨hc19, h⟩ := ifn h
  refine g_iastore (pc := 19) K d17_19 ma_opKind rfl hc19 ?_
  refine g_aloadN (pc := 20) K.1 d17_20 rfl ?_
  refine g_getA (pc := 21) K d17_21 (w12 hw) mf_opArg rfl ?_
  refine g_iloadN (pc := 24) K.1 d17_24 rfl ?_
  refine g_iloadN (pc := 25) K.1 d17_25 rfl ?_
  refine g_iconst (pc := 26) (v := 3) K.1 d17_26 (by decide) ?_
  rcases ifs h with ⟨hc27, h⟩ | ⟨hc27, h⟩
  · refine g_icF (pc := 27) K.1 d17_27 ((teq hc27).2) ?_
    refine g_iconst (pc := 30) (v := 0) K.1 d17_30 (by decide) ?_
    refine g_goto (pc := 31) (pc' := 36) K.1 d17_31 (by decide) ?_
    exact g_less (ok_M_recordOperation_b36 K hw  h) (ls (ls (ls (ln (ln l0)))))
  refine g_icT (pc := 27) (pc' := 34) K.1 d17_27 (by decide) ((feq hc27).2) ?_
  refine g_iload (pc := 34) K.1 d17_34 rfl ?_
  exact g_less (ok_M_recordOperation_b36 K hw  h) (ls (ls (ls (ln (ln l0)))))
theorem con_M_recordOperation (l : Launch) (Z : State) (a0 : Array Value) (hw : HW a0 Z) (n1 : Nat) (a : Addr) (ha : n1 ≤ a) {σ : St} {v1 : Int32} {v2 : Int32} {v3 : Int32} {v4 : Int32} {r : St} (h : M_recordOperation σ v1 v2 v3 v4 = some r) : Con l Z cC cFS cFA 23 n1 a ⟨cC, "recordOperation", "(IIII)V"⟩ c17 5 none ⟨0, 0, 0, 0⟩ [.ref 0, .int v1, .int v2, .int v3, .int v4] σ none r :=
  con_of_go pnC rfl (layW hw) lgood ha (fun X h1 K => ok_M_recordOperation K hw h)
abbrev KM_M_acceptInvoke (X : Cx (St × Nat)) (Z : State) (a0 : Array Value) (l : Launch) (n1 : Nat) (a : Addr) (h0 : Heap) : Prop := CtxC X Z a0 cC cFS cFA 23 27 l n1 a h0 ce0 ⟨2, 0, 0, 29⟩ "acceptInvoke" c16 5 (some .int)
def M_acceptInvoke (NF : Nat) (σ : St) (v1 : Int32) (v2 : Int32) (v3 : Int32) : Option (Int32 × St) :=
  ((M_recordOperation (sI σ 139 ((gI σ 139) + (1 : Int32))) ((gI σ 139) + (1 : Int32)) v1 v2 v3).bind fun q20 => (if 0 ≤ (v1).toInt ∧ (v1).toInt < 6 then (if 0 ≤ (v1).toInt ∧ (v1).toInt < 6 then (if 0 ≤ (v1).toInt ∧ (v1).toInt < 6 then (if 0 ≤ (v1).toInt ∧ (v1).toInt < 6 then (if 0 ≤ (v1).toInt ∧ (v1).toInt < 6 then (if 0 ≤ (v1).toInt ∧ (v1).toInt < 6 then ((M_clearThreadLast NF (sA (sA (sA (sA (sA (sA q20 8 (v1).toInt ((gI σ 139) + (1 : Int32))) 7 (v1).toInt (1 : Int32)) 11 (v1).toInt (0 : Int32)) 9 (v1).toInt (0 : Int32)) 10 (v1).toInt (0 : Int32)) 12 (v1).toInt (0 : Int32)) v1).bind fun q68 => (some (((gI σ 139) + (1 : Int32)), q68))) else none) else none) else none) else none) else none) else none))
theorem ok_M_acceptInvoke {X : Cx (St × Nat)} {Z : State} {a0 : Array Value} {l : Launch} {n1 : Nat} {a : Addr} {h0 : Heap} {NF : Nat} (K : KM_M_acceptInvoke X Z a0 l n1 a h0) (hw : HW a0 Z) {σ : St} {v1 : Int32} {v2 : Int32} {v3 : Int32} {r : Int32 × St} (h : M_acceptInvoke NF σ v1 v2 v3 = some r) : Go X (some (.int r.1), (r.2, 23)) 0 [some (.ref 0), some (.int v1), some (.int v2), some (.int v3), none] [] (σ, 23) := by
  unfold M_acceptInvoke at h
  refine g_aloadN (pc := 0) K.1 d16_0 rfl ?_
  refine g_getI (pc := 1) K d16_1 (w64 hw) mf_opCount ?_
  refine g_iconst (pc := 4) (v := 1) K.1 d16_4 (by decide) ?_
  refine g_iadd (pc := 5) K.1 d16_5 ?_
  refine g_istore (pc := 6) (L' := [some (.ref 0), some (.int v1), some (.int v2), some (.int v3), some (.int ((gI σ 139) + (1 : Int32)))]) K.1 d16_6 (blt rfl) rfl ?_
  refine g_aloadN (pc := 8) K.1 d16_8 rfl ?_
  refine g_iload (pc := 9) K.1 d16_9 rfl ?_
  refine g_putI (pc := 11) (t := .int) (v' := ((gI σ 139) + (1 : Int32))) K d16_11 (w64 hw) mf_opCount (Or.inl (w65 hw)) pfd_I rfl rfl ?_
  refine g_aloadN (pc := 14) K.1 d16_14 rfl ?_
  refine g_iload (pc := 15) K.1 d16_15 rfl ?_
  refine g_iloadN (pc := 17) K.1 d16_17 rfl ?_
  refine g_iloadN (pc := 18) K.1 d16_18 rfl ?_
  refine g_iloadN (pc := 19) K.1 d16_19 rfl ?_
  obtain ⟨q20, hq20, h⟩ := Option.bind_eq_some_iff.mp h
  refine g_callP (pc := 20) (vs := [.int ((gI σ 139) + (1 : Int32)), .int v1, .int v2, .int v3]) K d16_20 (w172 hw) (w173 hw) (w174 hw) (w175 hw) hyC pd_5 rfl rfl (con_M_recordOperation l Z a0 hw n1 a (ctx_le K) hq20) rfl (Nat.le_of_ble_eq_true rfl) (Nat.le_of_ble_eq_true rfl) rfl rfl ?_
  refine g_aloadN (pc := 23) K.1 d16_23 rfl ?_
  refine g_getA (pc := 24) K d16_24 (w24 hw) mf_thOwn rfl ?_
  refine g_iloadN (pc := 27) K.1 d16_27 rfl ?_
  refine g_iload (pc := 28) K.1 d16_28 rfl ?_
  obtain ⟨hc30, h⟩ := ifn h
  refine g_iastore (pc := 30) K d16_30 ma_thOwn rfl hc30 ?_
  refine g_aloadN (pc := 31) K.1 d16_31 rfl ?_
  refine g_getA (pc := 32) K d16_32 (w22 hw) mf_thPhase rfl ?_
  refine g_iloadN (pc := 35) K.1 d16_35 rfl ?_
  refine g_iconst (pc := 36) (v := 1) K.1 d16_36 (by decide) ?_
  obtain ⟨hc37, h⟩ := ifn h
  refine g_iastore (pc := 37) K d16_37 ma_thPhase rfl hc37 ?_
  refine g_aloadN (pc := 38) K.1 d16_38 rfl ?_
  refine g_getA (pc := 39) K d16_39 (w30 hw) mf_thSteps rfl ?_
  refine g_iloadN (pc := 42) K.1 d16_42 rfl ?_
  refine g_iconst (pc := 43) (v := 0) K.1 d16_43 (by decide) ?_
  obtain ⟨hc44, h⟩ := ifn h
  refine g_iastore (pc := 44) K d16_44 ma_thSteps rfl hc44 ?_
  refine g_aloadN (pc := 45) K.1 d16_45 rfl ?_
  refine g_getA (pc := 46) K d16_46 (w26 hw) mf_thP rfl ?_
  refine g_iloadN (pc := 49) K.1 d16_49 rfl ?_
  refine g_iconst (pc := 50) (v := 0) K.1 d16_50 (by decide) ?_
  obtain ⟨hc51, h⟩ := ifn h
  refine g_iastore (pc := 51) K d16_51 ma_thP rfl hc51 ?_
  refine g_aloadN (pc := 52) K.1 d16_52 rfl ?_
  refine g_getA (pc := 53) K d16_53 (w28 hw) mf_thC rfl ?_
  refine g_iloadN (pc := 56) K.1 d16_56 rfl ?_
  refine g_iconst (pc := 57) (v := 0) K.1 d16_57 (by decide) ?_
  obtain ⟨hc58, h⟩ := ifn h
  refine g_iastore (pc := 58) K d16_58 ma_thC rfl hc58 ?_
  refine g_aloadN (pc := 59) K.1 d16_59 rfl ?_
  refine g_getA (pc := 60) K d16_60 (w32 hw) mf_thHelped rfl ?_
  refine g_iloadN (pc := 63) K.1 d16_63 rfl ?_
  refine g_iconst (pc := 64) (v := 0) K.1 d16_64 (by decide) ?_
  obtain ⟨hc65, h⟩ := ifn h
  refine g_iastore (pc := 65) K d16_65 ma_thHelped rfl hc65 ?_
  refine g_aloadN (pc := 66) K.1 d16_66 rfl ?_
  refine g_iloadN (pc := 67) K.1 d16_67 rfl ?_
  obtain ⟨q68, hq68, h⟩ := Option.bind_eq_some_iff.mp h
  refine g_callP (pc := 68) (vs := [.int v1]) K d16_68 (w76 hw) (w77 hw) (w78 hw) (w79 hw) hyC pd_2 rfl rfl (con_M_clearThreadLast l Z a0 hw n1 a (ctx_le K) hq68) rfl (Nat.le_of_ble_eq_true rfl) (Nat.le_of_ble_eq_true rfl) rfl rfl ?_
  refine g_iload (pc := 71) K.1 d16_71 rfl ?_
  cases h; exact g_ireturn K.1 d16_73 (capC K)
theorem con_M_acceptInvoke (l : Launch) (Z : State) (a0 : Array Value) (hw : HW a0 Z) (n1 : Nat) (a : Addr) (ha : n1 ≤ a) {NF : Nat} {σ : St} {v1 : Int32} {v2 : Int32} {v3 : Int32} {r : Int32 × St} (h : M_acceptInvoke NF σ v1 v2 v3 = some r) : Con l Z cC cFS cFA 23 n1 a ⟨cC, "acceptInvoke", "(III)I"⟩ c16 5 (some .int) ⟨2, 0, 0, 29⟩ [.ref 0, .int v1, .int v2, .int v3] σ (some (.int r.1)) r.2 :=
  con_of_go pnC rfl (layW hw) lgood ha (fun X h1 K => ok_M_acceptInvoke K hw h)
abbrev KM_M_validThread (X : Cx (St × Nat)) (Z : State) (a0 : Array Value) (l : Launch) (n1 : Nat) (a : Addr) (h0 : Heap) : Prop := CtxC X Z a0 cC cFS cFA 23 27 l n1 a h0 ce0 ⟨0, 0, 0, 0⟩ "validThread" c18 2 (some .boolean)
def M_validThread (σ : St) (v1 : Int32) : Option (Int32 × St) :=
  (if v1 < 0 then (some ((0 : Int32), σ)) else (if v1 < (gI σ 137) then (if v1 < (6 : Int32) then (some ((1 : Int32), σ)) else (some ((0 : Int32), σ))) else (some ((0 : Int32), σ))))
theorem ok_M_validThread {X : Cx (St × Nat)} {Z : State} {a0 : Array Value} {l : Launch} {n1 : Nat} {a : Addr} {h0 : Heap} (K : KM_M_validThread X Z a0 l n1 a h0) (hw : HW a0 Z) {σ : St} {v1 : Int32} {r : Int32 × St} (h : M_validThread σ v1 = some r) : Go X (some (.int r.1), (r.2, 23)) 0 [some (.ref 0), some (.int v1)] [] (σ, 23) := by
  unfold M_validThread at h
  refine g_iloadN (pc := 0) K.1 d18_0 rfl ?_
  rcases ifs h with ⟨hc1, h⟩ | ⟨hc1, h⟩
  · refine g_ifT (pc := 1) (pc' := 22) K.1 d18_1 (by decide) ((if0 _ _).trans (tlt hc1).1) ?_
    refine g_iconst (pc := 22) (v := 0) K.1 d18_22 (by decide) ?_
    cases h; exact g_ireturnN (t := .boolean) K.1 rfl (Or.inl rfl) d18_23 rfl (capC K)
  refine g_ifF (pc := 1) K.1 d18_1 ((if0 _ _).trans (flt hc1).1) ?_
  refine g_iloadN (pc := 4) K.1 d18_4 rfl ?_
  refine g_aloadN (pc := 5) K.1 d18_5 rfl ?_
  refine g_getI (pc := 6) K d18_6 (w60 hw) mf_n ?_
  rcases ifs h with ⟨hc9, h⟩ | ⟨hc9, h⟩
  · refine g_icF (pc := 9) K.1 d18_9 ((tlt hc9).2.1) ?_
    refine g_iloadN (pc := 12) K.1 d18_12 rfl ?_
    refine g_bipush (pc := 13) (v := 6) K.1 d18_13 (by decide) ?_
    rcases ifs h with ⟨hc15, h⟩ | ⟨hc15, h⟩
    · refine g_icF (pc := 15) K.1 d18_15 ((tlt hc15).2.1) ?_
      refine g_iconst (pc := 18) (v := 1) K.1 d18_18 (by decide) ?_
      refine g_goto (pc := 19) (pc' := 23) K.1 d18_19 (by decide) ?_
      cases h; exact g_ireturnN (t := .boolean) K.1 rfl (Or.inl rfl) d18_23 rfl (capC K)
    refine g_icT (pc := 15) (pc' := 22) K.1 d18_15 (by decide) ((flt hc15).2.1) ?_
    refine g_iconst (pc := 22) (v := 0) K.1 d18_22 (by decide) ?_
    cases h; exact g_ireturnN (t := .boolean) K.1 rfl (Or.inl rfl) d18_23 rfl (capC K)
  refine g_icT (pc := 9) (pc' := 22) K.1 d18_9 (by decide) ((flt hc9).2.1) ?_
  refine g_iconst (pc := 22) (v := 0) K.1 d18_22 (by decide) ?_
  cases h; exact g_ireturnN (t := .boolean) K.1 rfl (Or.inl rfl) d18_23 rfl (capC K)
theorem con_M_validThread (l : Launch) (Z : State) (a0 : Array Value) (hw : HW a0 Z) (n1 : Nat) (a : Addr) (ha : n1 ≤ a) {σ : St} {v1 : Int32} {r : Int32 × St} (h : M_validThread σ v1 = some r) : Con l Z cC cFS cFA 23 n1 a ⟨cC, "validThread", "(I)Z"⟩ c18 2 (some .boolean) ⟨0, 0, 0, 0⟩ [.ref 0, .int v1] σ (some (.int r.1)) r.2 :=
  con_of_go pnC rfl (layW hw) lgood ha (fun X h1 K => ok_M_validThread K hw h)
abbrev KM_M_validKind (X : Cx (St × Nat)) (Z : State) (a0 : Array Value) (l : Launch) (n1 : Nat) (a : Addr) (h0 : Heap) : Prop := CtxC X Z a0 cC cFS cFA 23 27 l n1 a h0 ce0 ⟨0, 0, 0, 0⟩ "validKind" c19 2 (some .boolean)
def M_validKind_b15  (σ : St) : Option (Int32 × St) :=
  (some ((1 : Int32), σ))
theorem ok_M_validKind_b15 {X : Cx (St × Nat)} {Z : State} {a0 : Array Value} {l : Launch} {n1 : Nat} {a : Addr} {h0 : Heap} (K : KM_M_validKind X Z a0 l n1 a h0) (hw : HW a0 Z)  {σ : St} {r : Int32 × St}  (h : M_validKind_b15  σ = some r) : Go X (some (.int r.1), (r.2, 23)) 15 [none, none] [] (σ, 23) := by
  unfold M_validKind_b15 at h
  refine g_iconst (pc := 15) (v := 1) K.1 d19_15 (by decide) ?_
  refine g_goto (pc := 16) (pc' := 20) K.1 d19_16 (by decide) ?_
  cases h; exact g_ireturnN (t := .boolean) K.1 rfl (Or.inl rfl) d19_20 rfl (capC K)
def M_validKind (σ : St) (v1 : Int32) : Option (Int32 × St) :=
  (if v1 = (1 : Int32) then M_validKind_b15 σ else (if v1 = (2 : Int32) then M_validKind_b15 σ else (if v1 = (3 : Int32) then M_validKind_b15 σ else (some ((0 : Int32), σ)))))
theorem ok_M_validKind {X : Cx (St × Nat)} {Z : State} {a0 : Array Value} {l : Launch} {n1 : Nat} {a : Addr} {h0 : Heap} (K : KM_M_validKind X Z a0 l n1 a h0) (hw : HW a0 Z) {σ : St} {v1 : Int32} {r : Int32 × St} (h : M_validKind σ v1 = some r) : Go X (some (.int r.1), (r.2, 23)) 0 [some (.ref 0), some (.int v1)] [] (σ, 23) := by
  unfold M_validKind at h
  refine g_iloadN (pc := 0) K.1 d19_0 rfl ?_
  refine g_iconst (pc := 1) (v := 1) K.1 d19_1 (by decide) ?_
  rcases ifs h with ⟨hc2, h⟩ | ⟨hc2, h⟩
  · refine g_icT (pc := 2) (pc' := 15) K.1 d19_2 (by decide) ((teq hc2).1) ?_
    exact g_less (ok_M_validKind_b15 K hw  h) (ln (ln l0))
  refine g_icF (pc := 2) K.1 d19_2 ((feq hc2).1) ?_
  refine g_iloadN (pc := 5) K.1 d19_5 rfl ?_
  refine g_iconst (pc := 6) (v := 2) K.1 d19_6 (by decide) ?_
  rcases ifs h with ⟨hc7, h⟩ | ⟨hc7, h⟩
  · refine g_icT (pc := 7) (pc' := 15) K.1 d19_7 (by decide) ((teq hc7).1) ?_
    exact g_less (ok_M_validKind_b15 K hw  h) (ln (ln l0))
  refine g_icF (pc := 7) K.1 d19_7 ((feq hc7).1) ?_
  refine g_iloadN (pc := 10) K.1 d19_10 rfl ?_
  refine g_iconst (pc := 11) (v := 3) K.1 d19_11 (by decide) ?_
  rcases ifs h with ⟨hc12, h⟩ | ⟨hc12, h⟩
  · refine g_icF (pc := 12) K.1 d19_12 ((teq hc12).2) ?_
    exact g_less (ok_M_validKind_b15 K hw  h) (ln (ln l0))
  refine g_icT (pc := 12) (pc' := 19) K.1 d19_12 (by decide) ((feq hc12).2) ?_
  refine g_iconst (pc := 19) (v := 0) K.1 d19_19 (by decide) ?_
  cases h; exact g_ireturnN (t := .boolean) K.1 rfl (Or.inl rfl) d19_20 rfl (capC K)
theorem con_M_validKind (l : Launch) (Z : State) (a0 : Array Value) (hw : HW a0 Z) (n1 : Nat) (a : Addr) (ha : n1 ≤ a) {σ : St} {v1 : Int32} {r : Int32 × St} (h : M_validKind σ v1 = some r) : Con l Z cC cFS cFA 23 n1 a ⟨cC, "validKind", "(I)Z"⟩ c19 2 (some .boolean) ⟨0, 0, 0, 0⟩ [.ref 0, .int v1] σ (some (.int r.1)) r.2 :=
  con_of_go pnC rfl (layW hw) lgood ha (fun X h1 K => ok_M_validKind K hw h)
abbrev KM_M_validEnqValue (X : Cx (St × Nat)) (Z : State) (a0 : Array Value) (l : Launch) (n1 : Nat) (a : Addr) (h0 : Heap) : Prop := CtxC X Z a0 cC cFS cFA 23 27 l n1 a h0 ce0 ⟨0, 0, 0, 0⟩ "validEnqValue" c20 2 (some .boolean)
def M_validEnqValue (σ : St) (v1 : Int32) : Option (Int32 × St) :=
  (if v1 < 0 then (some ((0 : Int32), σ)) else (if (32767 : Int32) < v1 then (some ((0 : Int32), σ)) else (some ((1 : Int32), σ))))
theorem ok_M_validEnqValue {X : Cx (St × Nat)} {Z : State} {a0 : Array Value} {l : Launch} {n1 : Nat} {a : Addr} {h0 : Heap} (K : KM_M_validEnqValue X Z a0 l n1 a h0) (hw : HW a0 Z) {σ : St} {v1 : Int32} {r : Int32 × St} (h : M_validEnqValue σ v1 = some r) : Go X (some (.int r.1), (r.2, 23)) 0 [some (.ref 0), some (.int v1)] [] (σ, 23) := by
  unfold M_validEnqValue at h
  refine g_iloadN (pc := 0) K.1 d20_0 rfl ?_
  rcases ifs h with ⟨hc1, h⟩ | ⟨hc1, h⟩
  · refine g_ifT (pc := 1) (pc' := 15) K.1 d20_1 (by decide) ((if0 _ _).trans (tlt hc1).1) ?_
    refine g_iconst (pc := 15) (v := 0) K.1 d20_15 (by decide) ?_
    cases h; exact g_ireturnN (t := .boolean) K.1 rfl (Or.inl rfl) d20_16 rfl (capC K)
  refine g_ifF (pc := 1) K.1 d20_1 ((if0 _ _).trans (flt hc1).1) ?_
  refine g_iloadN (pc := 4) K.1 d20_4 rfl ?_
  refine g_sipush (pc := 5) (v := 32767) K.1 d20_5 (by decide) ?_
  rcases ifs h with ⟨hc8, h⟩ | ⟨hc8, h⟩
  · refine g_icT (pc := 8) (pc' := 15) K.1 d20_8 (by decide) ((tlt hc8).2.2.1) ?_
    refine g_iconst (pc := 15) (v := 0) K.1 d20_15 (by decide) ?_
    cases h; exact g_ireturnN (t := .boolean) K.1 rfl (Or.inl rfl) d20_16 rfl (capC K)
  refine g_icF (pc := 8) K.1 d20_8 ((flt hc8).2.2.1) ?_
  refine g_iconst (pc := 11) (v := 1) K.1 d20_11 (by decide) ?_
  refine g_goto (pc := 12) (pc' := 16) K.1 d20_12 (by decide) ?_
  cases h; exact g_ireturnN (t := .boolean) K.1 rfl (Or.inl rfl) d20_16 rfl (capC K)
theorem con_M_validEnqValue (l : Launch) (Z : State) (a0 : Array Value) (hw : HW a0 Z) (n1 : Nat) (a : Addr) (ha : n1 ≤ a) {σ : St} {v1 : Int32} {r : Int32 × St} (h : M_validEnqValue σ v1 = some r) : Con l Z cC cFS cFA 23 n1 a ⟨cC, "validEnqValue", "(I)Z"⟩ c20 2 (some .boolean) ⟨0, 0, 0, 0⟩ [.ref 0, .int v1] σ (some (.int r.1)) r.2 :=
  con_of_go pnC rfl (layW hw) lgood ha (fun X h1 K => ok_M_validEnqValue K hw h)
abbrev KM_M_invoke (X : Cx (St × Nat)) (Z : State) (a0 : Array Value) (l : Launch) (n1 : Nat) (a : Addr) (h0 : Heap) : Prop := CtxC X Z a0 cC cFS cFA 23 27 l n1 a h0 ce0 ⟨3, 0, 0, 45⟩ "invoke" c15 4 (some .int)
def M_invoke_b49 (NF : Nat)  (i1 : Int32) (i2 : Int32) (i3 : Int32) (σ : St) : Option (Int32 × St) :=
  (if (gI σ 139) < (240 : Int32) then ((M_acceptInvoke NF σ i1 i2 i3).bind fun q66 => (some (q66.1, q66.2))) else (some ((-5 : Int32), σ)))
theorem ok_M_invoke_b49 {X : Cx (St × Nat)} {Z : State} {a0 : Array Value} {l : Launch} {n1 : Nat} {a : Addr} {h0 : Heap} {NF : Nat} (K : KM_M_invoke X Z a0 l n1 a h0) (hw : HW a0 Z)  {i1 : Int32} {i2 : Int32} {i3 : Int32} {σ : St} {r : Int32 × St}  (h : M_invoke_b49 NF  i1 i2 i3 σ = some r) : Go X (some (.int r.1), (r.2, 23)) 49 [some (.ref 0), some (.int i1), some (.int i2), some (.int i3)] [] (σ, 23) := by
  unfold M_invoke_b49 at h
  refine g_aloadN (pc := 49) K.1 d15_49 rfl ?_
  refine g_getI (pc := 50) K d15_50 (w64 hw) mf_opCount ?_
  refine g_sipush (pc := 53) (v := 240) K.1 d15_53 (by decide) ?_
  rcases ifs h with ⟨hc56, h⟩ | ⟨hc56, h⟩
  · refine g_icT (pc := 56) (pc' := 62) K.1 d15_56 (by decide) ((tlt hc56).1) ?_
    refine g_aloadN (pc := 62) K.1 d15_62 rfl ?_
    refine g_iloadN (pc := 63) K.1 d15_63 rfl ?_
    refine g_iloadN (pc := 64) K.1 d15_64 rfl ?_
    refine g_iloadN (pc := 65) K.1 d15_65 rfl ?_
    obtain ⟨q66, hq66, h⟩ := Option.bind_eq_some_iff.mp h
    refine g_callP (pc := 66) (vs := [.int i1, .int i2, .int i3]) K d15_66 (w168 hw) (w169 hw) (w170 hw) (w171 hw) hyC pd_4 rfl rfl (con_M_acceptInvoke l Z a0 hw n1 a (ctx_le K) hq66) rfl (Nat.le_of_ble_eq_true rfl) (Nat.le_of_ble_eq_true rfl) rfl rfl ?_
    cases h; exact g_ireturn K.1 d15_69 (capC K)
  refine g_icF (pc := 56) K.1 d15_56 ((flt hc56).1) ?_
  refine g_bipush (pc := 59) (v := -5) K.1 d15_59 (by decide) ?_
  cases h; exact g_ireturn K.1 d15_61 (capC K)
def M_invoke (NF : Nat) (σ : St) (v1 : Int32) (v2 : Int32) (v3 : Int32) : Option (Int32 × St) :=
  ((M_validThread σ v1).bind fun q2 => (if q2.1 = 0 then (some ((-1 : Int32), q2.2)) else (if 0 ≤ (v1).toInt ∧ (v1).toInt < 6 then (if (gA q2.2 7 (v1).toInt) = 0 then ((M_validKind q2.2 v2).bind fun q24 => (if q24.1 = 0 then (some ((-3 : Int32), q24.2)) else (if v2 = (2 : Int32) then ((M_validEnqValue q24.2 v3).bind fun q40 => (if q40.1 = 0 then (some ((-4 : Int32), q40.2)) else M_invoke_b49 NF v1 v2 v3 q40.2)) else M_invoke_b49 NF v1 v2 v3 q24.2))) else (some ((-2 : Int32), q2.2))) else none)))
theorem ok_M_invoke {X : Cx (St × Nat)} {Z : State} {a0 : Array Value} {l : Launch} {n1 : Nat} {a : Addr} {h0 : Heap} {NF : Nat} (K : KM_M_invoke X Z a0 l n1 a h0) (hw : HW a0 Z) {σ : St} {v1 : Int32} {v2 : Int32} {v3 : Int32} {r : Int32 × St} (h : M_invoke NF σ v1 v2 v3 = some r) : Go X (some (.int r.1), (r.2, 23)) 0 [some (.ref 0), some (.int v1), some (.int v2), some (.int v3)] [] (σ, 23) := by
  unfold M_invoke at h
  refine g_aloadN (pc := 0) K.1 d15_0 rfl ?_
  refine g_iloadN (pc := 1) K.1 d15_1 rfl ?_
  obtain ⟨q2, hq2, h⟩ := Option.bind_eq_some_iff.mp h
  refine g_callP (pc := 2) (vs := [.int v1]) K d15_2 (w113 hw) (w114 hw) (w115 hw) (w116 hw) hyC pd_6 rfl rfl (con_M_validThread l Z a0 hw n1 a (ctx_le K) hq2) rfl (Nat.le_of_ble_eq_true rfl) (Nat.le_of_ble_eq_true rfl) rfl rfl ?_
  rcases ifs h with ⟨hc5, h⟩ | ⟨hc5, h⟩
  · refine g_ifF (pc := 5) K.1 d15_5 ((if0 _ _).trans (teq hc5).2) ?_
    refine g_iconst (pc := 8) (v := -1) K.1 d15_8 (by decide) ?_
    cases h; exact g_ireturn K.1 d15_9 (capC K)
  refine g_ifT (pc := 5) (pc' := 10) K.1 d15_5 (by decide) ((if0 _ _).trans (feq hc5).2) ?_
  refine g_aloadN (pc := 10) K.1 d15_10 rfl ?_
  refine g_getA (pc := 11) K d15_11 (w22 hw) mf_thPhase rfl ?_
  refine g_iloadN (pc := 14) K.1 d15_14 rfl ?_
  obtain ⟨hc15, h⟩ := ifn h
  refine g_iaload (pc := 15) K d15_15 ma_thPhase rfl hc15 ?_
  rcases ifs h with ⟨hc16, h⟩ | ⟨hc16, h⟩
  · refine g_ifT (pc := 16) (pc' := 22) K.1 d15_16 (by decide) ((if0 _ _).trans (teq hc16).1) ?_
    refine g_aloadN (pc := 22) K.1 d15_22 rfl ?_
    refine g_iloadN (pc := 23) K.1 d15_23 rfl ?_
    obtain ⟨q24, hq24, h⟩ := Option.bind_eq_some_iff.mp h
    refine g_callP (pc := 24) (vs := [.int v2]) K d15_24 (w160 hw) (w161 hw) (w162 hw) (w163 hw) hyC pd_6 rfl rfl (con_M_validKind l Z a0 hw n1 a (ctx_le K) hq24) rfl (Nat.le_of_ble_eq_true rfl) (Nat.le_of_ble_eq_true rfl) rfl rfl ?_
    rcases ifs h with ⟨hc27, h⟩ | ⟨hc27, h⟩
    · refine g_ifF (pc := 27) K.1 d15_27 ((if0 _ _).trans (teq hc27).2) ?_
      refine g_bipush (pc := 30) (v := -3) K.1 d15_30 (by decide) ?_
      cases h; exact g_ireturn K.1 d15_32 (capC K)
    refine g_ifT (pc := 27) (pc' := 33) K.1 d15_27 (by decide) ((if0 _ _).trans (feq hc27).2) ?_
    refine g_iloadN (pc := 33) K.1 d15_33 rfl ?_
    refine g_iconst (pc := 34) (v := 2) K.1 d15_34 (by decide) ?_
    rcases ifs h with ⟨hc35, h⟩ | ⟨hc35, h⟩
    · refine g_icF (pc := 35) K.1 d15_35 ((teq hc35).2) ?_
      refine g_aloadN (pc := 38) K.1 d15_38 rfl ?_
      refine g_iloadN (pc := 39) K.1 d15_39 rfl ?_
      obtain ⟨q40, hq40, h⟩ := Option.bind_eq_some_iff.mp h
      refine g_callP (pc := 40) (vs := [.int v3]) K d15_40 (w164 hw) (w165 hw) (w166 hw) (w167 hw) hyC pd_6 rfl rfl (con_M_validEnqValue l Z a0 hw n1 a (ctx_le K) hq40) rfl (Nat.le_of_ble_eq_true rfl) (Nat.le_of_ble_eq_true rfl) rfl rfl ?_
      rcases ifs h with ⟨hc43, h⟩ | ⟨hc43, h⟩
      · refine g_ifF (pc := 43) K.1 d15_43 ((if0 _ _).trans (teq hc43).2) ?_
        refine g_bipush (pc := 46) (v := -4) K.1 d15_46 (by decide) ?_
        cases h; exact g_ireturn K.1 d15_48 (capC K)
      refine g_ifT (pc := 43) (pc' := 49) K.1 d15_43 (by decide) ((if0 _ _).trans (feq hc43).2) ?_
      exact ok_M_invoke_b49 K hw  h
    refine g_icT (pc := 35) (pc' := 49) K.1 d15_35 (by decide) ((feq hc35).2) ?_
    exact ok_M_invoke_b49 K hw  h
  refine g_ifF (pc := 16) K.1 d15_16 ((if0 _ _).trans (feq hc16).1) ?_
  refine g_bipush (pc := 19) (v := -2) K.1 d15_19 (by decide) ?_
  cases h; exact g_ireturn K.1 d15_21 (capC K)
theorem con_M_invoke (l : Launch) (Z : State) (a0 : Array Value) (hw : HW a0 Z) (n1 : Nat) (a : Addr) (ha : n1 ≤ a) {NF : Nat} {σ : St} {v1 : Int32} {v2 : Int32} {v3 : Int32} {r : Int32 × St} (h : M_invoke NF σ v1 v2 v3 = some r) : Con l Z cC cFS cFA 23 n1 a ⟨cC, "invoke", "(III)I"⟩ c15 4 (some .int) ⟨3, 0, 0, 45⟩ [.ref 0, .int v1, .int v2, .int v3] σ (some (.int r.1)) r.2 :=
  con_of_go pnC rfl (layW hw) lgood ha (fun X h1 K => ok_M_invoke K hw h)
abbrev KM_M_isId (X : Cx (St × Nat)) (Z : State) (a0 : Array Value) (l : Launch) (n1 : Nat) (a : Addr) (h0 : Heap) : Prop := CtxC X Z a0 cC cFS cFA 23 27 l n1 a h0 ce0 ⟨0, 0, 0, 0⟩ "isId" c25 2 (some .boolean)
def M_isId (σ : St) (v1 : Int32) : Option (Int32 × St) :=
  (if v1 < (1 : Int32) then (some ((0 : Int32), σ)) else (if (gI σ 139) < v1 then (some ((0 : Int32), σ)) else (if (240 : Int32) < v1 then (some ((0 : Int32), σ)) else (some ((1 : Int32), σ)))))
theorem ok_M_isId {X : Cx (St × Nat)} {Z : State} {a0 : Array Value} {l : Launch} {n1 : Nat} {a : Addr} {h0 : Heap} (K : KM_M_isId X Z a0 l n1 a h0) (hw : HW a0 Z) {σ : St} {v1 : Int32} {r : Int32 × St} (h : M_isId σ v1 = some r) : Go X (some (.int r.1), (r.2, 23)) 0 [some (.ref 0), some (.int v1)] [] (σ, 23) := by
  unfold M_isId at h
  refine g_iloadN (pc := 0) K.1 d25_0 rfl ?_
  refine g_iconst (pc := 1) (v := 1) K.1 d25_1 (by decide) ?_
  rcases ifs h with ⟨hc2, h⟩ | ⟨hc2, h⟩
  · refine g_icT (pc := 2) (pc' := 24) K.1 d25_2 (by decide) ((tlt hc2).1) ?_
    refine g_iconst (pc := 24) (v := 0) K.1 d25_24 (by decide) ?_
    cases h; exact g_ireturnN (t := .boolean) K.1 rfl (Or.inl rfl) d25_25 rfl (capC K)
  refine g_icF (pc := 2) K.1 d25_2 ((flt hc2).1) ?_
  refine g_iloadN (pc := 5) K.1 d25_5 rfl ?_
  refine g_aloadN (pc := 6) K.1 d25_6 rfl ?_
  refine g_getI (pc := 7) K d25_7 (w64 hw) mf_opCount ?_
  rcases ifs h with ⟨hc10, h⟩ | ⟨hc10, h⟩
  · refine g_icT (pc := 10) (pc' := 24) K.1 d25_10 (by decide) ((tlt hc10).2.2.1) ?_
    refine g_iconst (pc := 24) (v := 0) K.1 d25_24 (by decide) ?_
    cases h; exact g_ireturnN (t := .boolean) K.1 rfl (Or.inl rfl) d25_25 rfl (capC K)
  refine g_icF (pc := 10) K.1 d25_10 ((flt hc10).2.2.1) ?_
  refine g_iloadN (pc := 13) K.1 d25_13 rfl ?_
  refine g_sipush (pc := 14) (v := 240) K.1 d25_14 (by decide) ?_
  rcases ifs h with ⟨hc17, h⟩ | ⟨hc17, h⟩
  · refine g_icT (pc := 17) (pc' := 24) K.1 d25_17 (by decide) ((tlt hc17).2.2.1) ?_
    refine g_iconst (pc := 24) (v := 0) K.1 d25_24 (by decide) ?_
    cases h; exact g_ireturnN (t := .boolean) K.1 rfl (Or.inl rfl) d25_25 rfl (capC K)
  refine g_icF (pc := 17) K.1 d25_17 ((flt hc17).2.2.1) ?_
  refine g_iconst (pc := 20) (v := 1) K.1 d25_20 (by decide) ?_
  refine g_goto (pc := 21) (pc' := 25) K.1 d25_21 (by decide) ?_
  cases h; exact g_ireturnN (t := .boolean) K.1 rfl (Or.inl rfl) d25_25 rfl (capC K)
theorem con_M_isId (l : Launch) (Z : State) (a0 : Array Value) (hw : HW a0 Z) (n1 : Nat) (a : Addr) (ha : n1 ≤ a) {σ : St} {v1 : Int32} {r : Int32 × St} (h : M_isId σ v1 = some r) : Con l Z cC cFS cFA 23 n1 a ⟨cC, "isId", "(I)Z"⟩ c25 2 (some .boolean) ⟨0, 0, 0, 0⟩ [.ref 0, .int v1] σ (some (.int r.1)) r.2 :=
  con_of_go pnC rfl (layW hw) lgood ha (fun X h1 K => ok_M_isId K hw h)
abbrev KM_M_kindOf (X : Cx (St × Nat)) (Z : State) (a0 : Array Value) (l : Launch) (n1 : Nat) (a : Addr) (h0 : Heap) : Prop := CtxC X Z a0 cC cFS cFA 23 27 l n1 a h0 ce0 ⟨1, 0, 0, 13⟩ "kindOf" c24 2 (some .int)
def M_kindOf (σ : St) (v1 : Int32) : Option (Int32 × St) :=
  ((M_isId σ v1).bind fun q2 => (if q2.1 = 0 then (some ((0 : Int32), q2.2)) else (if 0 ≤ (v1).toInt ∧ (v1).toInt < 241 then (some ((gA q2.2 1 (v1).toInt), q2.2)) else none)))
theorem ok_M_kindOf {X : Cx (St × Nat)} {Z : State} {a0 : Array Value} {l : Launch} {n1 : Nat} {a : Addr} {h0 : Heap} (K : KM_M_kindOf X Z a0 l n1 a h0) (hw : HW a0 Z) {σ : St} {v1 : Int32} {r : Int32 × St} (h : M_kindOf σ v1 = some r) : Go X (some (.int r.1), (r.2, 23)) 0 [some (.ref 0), some (.int v1)] [] (σ, 23) := by
  unfold M_kindOf at h
  refine g_aloadN (pc := 0) K.1 d24_0 rfl ?_
  refine g_iloadN (pc := 1) K.1 d24_1 rfl ?_
  obtain ⟨q2, hq2, h⟩ := Option.bind_eq_some_iff.mp h
  refine g_callP (pc := 2) (vs := [.int v1]) K d24_2 (w152 hw) (w153 hw) (w154 hw) (w155 hw) hyC pd_6 rfl rfl (con_M_isId l Z a0 hw n1 a (ctx_le K) hq2) rfl (Nat.le_of_ble_eq_true rfl) (Nat.le_of_ble_eq_true rfl) rfl rfl ?_
  rcases ifs h with ⟨hc5, h⟩ | ⟨hc5, h⟩
  · refine g_ifF (pc := 5) K.1 d24_5 ((if0 _ _).trans (teq hc5).2) ?_
    refine g_iconst (pc := 8) (v := 0) K.1 d24_8 (by decide) ?_
    cases h; exact g_ireturn K.1 d24_9 (capC K)
  refine g_ifT (pc := 5) (pc' := 10) K.1 d24_5 (by decide) ((if0 _ _).trans (feq hc5).2) ?_
  refine g_aloadN (pc := 10) K.1 d24_10 rfl ?_
  refine g_getA (pc := 11) K d24_11 (w10 hw) mf_opKind rfl ?_
  refine g_iloadN (pc := 14) K.1 d24_14 rfl ?_
  obtain ⟨hc15, h⟩ := ifn h
  refine g_iaload (pc := 15) K d24_15 ma_opKind rfl hc15 ?_
  cases h; exact g_ireturn K.1 d24_16 (capC K)
theorem con_M_kindOf (l : Launch) (Z : State) (a0 : Array Value) (hw : HW a0 Z) (n1 : Nat) (a : Addr) (ha : n1 ≤ a) {σ : St} {v1 : Int32} {r : Int32 × St} (h : M_kindOf σ v1 = some r) : Con l Z cC cFS cFA 23 n1 a ⟨cC, "kindOf", "(I)I"⟩ c24 2 (some .int) ⟨1, 0, 0, 13⟩ [.ref 0, .int v1] σ (some (.int r.1)) r.2 :=
  con_of_go pnC rfl (layW hw) lgood ha (fun X h1 K => ok_M_kindOf K hw h)
abbrev KM_M_argOf (X : Cx (St × Nat)) (Z : State) (a0 : Array Value) (l : Launch) (n1 : Nat) (a : Addr) (h0 : Heap) : Prop := CtxC X Z a0 cC cFS cFA 23 27 l n1 a h0 ce0 ⟨1, 0, 0, 13⟩ "argOf" c26 2 (some .int)
def M_argOf (σ : St) (v1 : Int32) : Option (Int32 × St) :=
  ((M_isId σ v1).bind fun q2 => (if q2.1 = 0 then (some ((0 : Int32), q2.2)) else (if 0 ≤ (v1).toInt ∧ (v1).toInt < 241 then (some ((gA q2.2 2 (v1).toInt), q2.2)) else none)))
theorem ok_M_argOf {X : Cx (St × Nat)} {Z : State} {a0 : Array Value} {l : Launch} {n1 : Nat} {a : Addr} {h0 : Heap} (K : KM_M_argOf X Z a0 l n1 a h0) (hw : HW a0 Z) {σ : St} {v1 : Int32} {r : Int32 × St} (h : M_argOf σ v1 = some r) : Go X (some (.int r.1), (r.2, 23)) 0 [some (.ref 0), some (.int v1)] [] (σ, 23) := by
  unfold M_argOf at h
  refine g_aloadN (pc := 0) K.1 d26_0 rfl ?_
  refine g_iloadN (pc := 1) K.1 d26_1 rfl ?_
  obtain ⟨q2, hq2, h⟩ := Option.bind_eq_some_iff.mp h
  refine g_callP (pc := 2) (vs := [.int v1]) K d26_2 (w152 hw) (w153 hw) (w154 hw) (w155 hw) hyC pd_6 rfl rfl (con_M_isId l Z a0 hw n1 a (ctx_le K) hq2) rfl (Nat.le_of_ble_eq_true rfl) (Nat.le_of_ble_eq_true rfl) rfl rfl ?_
  rcases ifs h with ⟨hc5, h⟩ | ⟨hc5, h⟩
  · refine g_ifF (pc := 5) K.1 d26_5 ((if0 _ _).trans (teq hc5).2) ?_
    refine g_iconst (pc := 8) (v := 0) K.1 d26_8 (by decide) ?_
    cases h; exact g_ireturn K.1 d26_9 (capC K)
  refine g_ifT (pc := 5) (pc' := 10) K.1 d26_5 (by decide) ((if0 _ _).trans (feq hc5).2) ?_
  refine g_aloadN (pc := 10) K.1 d26_10 rfl ?_
  refine g_getA (pc := 11) K d26_11 (w12 hw) mf_opArg rfl ?_
  refine g_iloadN (pc := 14) K.1 d26_14 rfl ?_
  obtain ⟨hc15, h⟩ := ifn h
  refine g_iaload (pc := 15) K d26_15 ma_opArg rfl hc15 ?_
  cases h; exact g_ireturn K.1 d26_16 (capC K)
theorem con_M_argOf (l : Launch) (Z : State) (a0 : Array Value) (hw : HW a0 Z) (n1 : Nat) (a : Addr) (ha : n1 ≤ a) {σ : St} {v1 : Int32} {r : Int32 × St} (h : M_argOf σ v1 = some r) : Con l Z cC cFS cFA 23 n1 a ⟨cC, "argOf", "(I)I"⟩ c26 2 (some .int) ⟨1, 0, 0, 13⟩ [.ref 0, .int v1] σ (some (.int r.1)) r.2 :=
  con_of_go pnC rfl (layW hw) lgood ha (fun X h1 K => ok_M_argOf K hw h)
abbrev KM_M_stepAnnounce (X : Cx (St × Nat)) (Z : State) (a0 : Array Value) (l : Launch) (n1 : Nat) (a : Addr) (h0 : Heap) : Prop := CtxC X Z a0 cC cFS cFA 23 27 l n1 a h0 ce0 ⟨2, 0, 0, 28⟩ "stepAnnounce" c23 3 (some .int)
def M_stepAnnounce (σ : St) (v1 : Int32) : Option (Int32 × St) :=
  (if 0 ≤ (v1).toInt ∧ (v1).toInt < 6 then (if 0 ≤ (v1).toInt ∧ (v1).toInt < 6 then ((M_kindOf (sA σ 14 (v1).toInt (gA σ 8 (v1).toInt)) (gA σ 8 (v1).toInt)).bind fun q21 => (if 0 ≤ (v1).toInt ∧ (v1).toInt < 6 then ((M_argOf (sA q21.2 15 (v1).toInt q21.1) (gA σ 8 (v1).toInt)).bind fun q32 => (if 0 ≤ (v1).toInt ∧ (v1).toInt < 6 then (if 0 ≤ (v1).toInt ∧ (v1).toInt < 6 then (some ((1 : Int32), (sA (sA q32.2 16 (v1).toInt q32.1) 7 (v1).toInt (2 : Int32)))) else none) else none)) else none)) else none) else none)
theorem ok_M_stepAnnounce {X : Cx (St × Nat)} {Z : State} {a0 : Array Value} {l : Launch} {n1 : Nat} {a : Addr} {h0 : Heap} (K : KM_M_stepAnnounce X Z a0 l n1 a h0) (hw : HW a0 Z) {σ : St} {v1 : Int32} {r : Int32 × St} (h : M_stepAnnounce σ v1 = some r) : Go X (some (.int r.1), (r.2, 23)) 0 [some (.ref 0), some (.int v1), none] [] (σ, 23) := by
  unfold M_stepAnnounce at h
  refine g_aloadN (pc := 0) K.1 d23_0 rfl ?_
  refine g_getA (pc := 1) K d23_1 (w24 hw) mf_thOwn rfl ?_
  refine g_iloadN (pc := 4) K.1 d23_4 rfl ?_
  obtain ⟨hc5, h⟩ := ifn h
  refine g_iaload (pc := 5) K d23_5 ma_thOwn rfl hc5 ?_
  refine g_istoreN (pc := 6) (L' := [some (.ref 0), some (.int v1), some (.int (gA σ 8 (v1).toInt))]) K.1 d23_6 (blt rfl) rfl ?_
  refine g_aloadN (pc := 7) K.1 d23_7 rfl ?_
  refine g_getA (pc := 8) K d23_8 (w36 hw) mf_annId rfl ?_
  refine g_iloadN (pc := 11) K.1 d23_11 rfl ?_
  refine g_iloadN (pc := 12) K.1 d23_12 rfl ?_
  obtain ⟨hc13, h⟩ := ifn h
  refine g_iastore (pc := 13) K d23_13 ma_annId rfl hc13 ?_
  refine g_aloadN (pc := 14) K.1 d23_14 rfl ?_
  refine g_getA (pc := 15) K d23_15 (w38 hw) mf_annKind rfl ?_
  refine g_iloadN (pc := 18) K.1 d23_18 rfl ?_
  refine g_aloadN (pc := 19) K.1 d23_19 rfl ?_
  refine g_iloadN (pc := 20) K.1 d23_20 rfl ?_
  obtain ⟨q21, hq21, h⟩ := Option.bind_eq_some_iff.mp h
  refine g_callP (pc := 21) (vs := [.int (gA σ 8 (v1).toInt)]) K d23_21 (w184 hw) (w185 hw) (w186 hw) (w187 hw) hyC pd_7 rfl rfl (con_M_kindOf l Z a0 hw n1 a (ctx_le K) hq21) rfl (Nat.le_of_ble_eq_true rfl) (Nat.le_of_ble_eq_true rfl) rfl rfl ?_
  obtain ⟨hc24, h⟩ := ifn h
  refine g_iastore (pc := 24) K d23_24 ma_annKind rfl hc24 ?_
  refine g_aloadN (pc := 25) K.1 d23_25 rfl ?_
  refine g_getA (pc := 26) K d23_26 (w40 hw) mf_annArg rfl ?_
  refine g_iloadN (pc := 29) K.1 d23_29 rfl ?_
  refine g_aloadN (pc := 30) K.1 d23_30 rfl ?_
  refine g_iloadN (pc := 31) K.1 d23_31 rfl ?_
  obtain ⟨q32, hq32, h⟩ := Option.bind_eq_some_iff.mp h
  refine g_callP (pc := 32) (vs := [.int (gA σ 8 (v1).toInt)]) K d23_32 (w188 hw) (w189 hw) (w190 hw) (w191 hw) hyC pd_7 rfl rfl (con_M_argOf l Z a0 hw n1 a (ctx_le K) hq32) rfl (Nat.le_of_ble_eq_true rfl) (Nat.le_of_ble_eq_true rfl) rfl rfl ?_
  obtain ⟨hc35, h⟩ := ifn h
  refine g_iastore (pc := 35) K d23_35 ma_annArg rfl hc35 ?_
  refine g_aloadN (pc := 36) K.1 d23_36 rfl ?_
  refine g_getA (pc := 37) K d23_37 (w22 hw) mf_thPhase rfl ?_
  refine g_iloadN (pc := 40) K.1 d23_40 rfl ?_
  refine g_iconst (pc := 41) (v := 2) K.1 d23_41 (by decide) ?_
  obtain ⟨hc42, h⟩ := ifn h
  refine g_iastore (pc := 42) K d23_42 ma_thPhase rfl hc42 ?_
  refine g_iconst (pc := 43) (v := 1) K.1 d23_43 (by decide) ?_
  cases h; exact g_ireturn K.1 d23_44 (capC K)
theorem con_M_stepAnnounce (l : Launch) (Z : State) (a0 : Array Value) (hw : HW a0 Z) (n1 : Nat) (a : Addr) (ha : n1 ≤ a) {σ : St} {v1 : Int32} {r : Int32 × St} (h : M_stepAnnounce σ v1 = some r) : Con l Z cC cFS cFA 23 n1 a ⟨cC, "stepAnnounce", "(I)I"⟩ c23 3 (some .int) ⟨2, 0, 0, 28⟩ [.ref 0, .int v1] σ (some (.int r.1)) r.2 :=
  con_of_go pnC rfl (layW hw) lgood ha (fun X h1 K => ok_M_stepAnnounce K hw h)
abbrev KM_M_dispatch (X : Cx (St × Nat)) (Z : State) (a0 : Array Value) (l : Launch) (n1 : Nat) (a : Addr) (h0 : Heap) : Prop := CtxC X Z a0 cC cFS cFA 23 27 l n1 a h0 ce0 ⟨3, 0, 0, 42⟩ "dispatch" c22 3 (some .int)
def M_dispatch (σ : St) (v1 : Int32) (v2 : Int32) : Option (Int32 × St) :=
  (if v2 = (1 : Int32) then ((M_stepAnnounce σ v1).bind fun q7 => (some (q7.1, q7.2))) else (if v2 = (2 : Int32) then none else (if v2 = (3 : Int32) then none else (if v2 = (4 : Int32) then none else none))))
theorem ok_M_dispatch {X : Cx (St × Nat)} {Z : State} {a0 : Array Value} {l : Launch} {n1 : Nat} {a : Addr} {h0 : Heap} (K : KM_M_dispatch X Z a0 l n1 a h0) (hw : HW a0 Z) {σ : St} {v1 : Int32} {v2 : Int32} {r : Int32 × St} (h : M_dispatch σ v1 v2 = some r) : Go X (some (.int r.1), (r.2, 23)) 0 [some (.ref 0), some (.int v1), some (.int v2)] [] (σ, 23) := by
  unfold M_dispatch at h
  refine g_iloadN (pc := 0) K.1 d22_0 rfl ?_
  refine g_iconst (pc := 1) (v := 1) K.1 d22_1 (by decide) ?_
  rcases ifs h with ⟨hc2, h⟩ | ⟨hc2, h⟩
  · refine g_icF (pc := 2) K.1 d22_2 ((teq hc2).2) ?_
    refine g_aloadN (pc := 5) K.1 d22_5 rfl ?_
    refine g_iloadN (pc := 6) K.1 d22_6 rfl ?_
    obtain ⟨q7, hq7, h⟩ := Option.bind_eq_some_iff.mp h
    refine g_callP (pc := 7) (vs := [.int v1]) K d22_7 (w180 hw) (w181 hw) (w182 hw) (w183 hw) hyC pd_7 rfl rfl (con_M_stepAnnounce l Z a0 hw n1 a (ctx_le K) hq7) rfl (Nat.le_of_ble_eq_true rfl) (Nat.le_of_ble_eq_true rfl) rfl rfl ?_
    cases h; exact g_ireturn K.1 d22_10 (capC K)
  refine g_icT (pc := 2) (pc' := 11) K.1 d22_2 (by decide) ((feq hc2).2) ?_
  refine g_iloadN (pc := 11) K.1 d22_11 rfl ?_
  refine g_iconst (pc := 12) (v := 2) K.1 d22_12 (by decide) ?_
  rcases ifs h with ⟨hc13, h⟩ | ⟨hc13, h⟩
  · refine g_icF (pc := 13) K.1 d22_13 ((teq hc13).2) ?_
    refine g_aloadN (pc := 16) K.1 d22_16 rfl ?_
    refine g_iloadN (pc := 17) K.1 d22_17 rfl ?_
    cases h
  refine g_icT (pc := 13) (pc' := 22) K.1 d22_13 (by decide) ((feq hc13).2) ?_
  refine g_iloadN (pc := 22) K.1 d22_22 rfl ?_
  refine g_iconst (pc := 23) (v := 3) K.1 d22_23 (by decide) ?_
  rcases ifs h with ⟨hc24, h⟩ | ⟨hc24, h⟩
  · refine g_icF (pc := 24) K.1 d22_24 ((teq hc24).2) ?_
    refine g_aloadN (pc := 27) K.1 d22_27 rfl ?_
    refine g_iloadN (pc := 28) K.1 d22_28 rfl ?_
    cases h
  refine g_icT (pc := 24) (pc' := 33) K.1 d22_24 (by decide) ((feq hc24).2) ?_
  refine g_iloadN (pc := 33) K.1 d22_33 rfl ?_
  refine g_iconst (pc := 34) (v := 4) K.1 d22_34 (by decide) ?_
  rcases ifs h with ⟨hc35, h⟩ | ⟨hc35, h⟩
  · refine g_icF (pc := 35) K.1 d22_35 ((teq hc35).2) ?_
    refine g_aloadN (pc := 38) K.1 d22_38 rfl ?_
    refine g_iloadN (pc := 39) K.1 d22_39 rfl ?_
    cases h
  refine g_icT (pc := 35) (pc' := 44) K.1 d22_35 (by decide) ((feq hc35).2) ?_
  refine g_aloadN (pc := 44) K.1 d22_44 rfl ?_
  refine g_iloadN (pc := 45) K.1 d22_45 rfl ?_
  cases h
theorem con_M_dispatch (l : Launch) (Z : State) (a0 : Array Value) (hw : HW a0 Z) (n1 : Nat) (a : Addr) (ha : n1 ≤ a) {σ : St} {v1 : Int32} {v2 : Int32} {r : Int32 × St} (h : M_dispatch σ v1 v2 = some r) : Con l Z cC cFS cFA 23 n1 a ⟨cC, "dispatch", "(II)I"⟩ c22 3 (some .int) ⟨3, 0, 0, 42⟩ [.ref 0, .int v1, .int v2] σ (some (.int r.1)) r.2 :=
  con_of_go pnC rfl (layW hw) lgood ha (fun X h1 K => ok_M_dispatch K hw h)
abbrev KM_M_step (X : Cx (St × Nat)) (Z : State) (a0 : Array Value) (l : Launch) (n1 : Nat) (a : Addr) (h0 : Heap) : Prop := CtxC X Z a0 cC cFS cFA 23 27 l n1 a h0 ce0 ⟨4, 0, 0, 56⟩ "step" c21 3 (some .int)
def M_step (σ : St) (v1 : Int32) : Option (Int32 × St) :=
  ((M_validThread σ v1).bind fun q2 => (if q2.1 = 0 then (some ((-1 : Int32), q2.2)) else (if 0 ≤ (v1).toInt ∧ (v1).toInt < 6 then (if (gA q2.2 7 (v1).toInt) = 0 then (some ((0 : Int32), q2.2)) else (if 0 ≤ (v1).toInt ∧ (v1).toInt < 6 then (if 0 ≤ (v1).toInt ∧ (v1).toInt < 6 then ((M_dispatch (sA q2.2 11 (v1).toInt ((gA q2.2 11 (v1).toInt) + (1 : Int32))) v1 (gA q2.2 7 (v1).toInt)).bind fun q40 => (some (q40.1, q40.2))) else none) else none)) else none)))
theorem ok_M_step {X : Cx (St × Nat)} {Z : State} {a0 : Array Value} {l : Launch} {n1 : Nat} {a : Addr} {h0 : Heap} (K : KM_M_step X Z a0 l n1 a h0) (hw : HW a0 Z) {σ : St} {v1 : Int32} {r : Int32 × St} (h : M_step σ v1 = some r) : Go X (some (.int r.1), (r.2, 23)) 0 [some (.ref 0), some (.int v1), none] [] (σ, 23) := by
  unfold M_step at h
  refine g_aloadN (pc := 0) K.1 d21_0 rfl ?_
  refine g_iloadN (pc := 1) K.1 d21_1 rfl ?_
  obtain ⟨q2, hq2, h⟩ := Option.bind_eq_some_iff.mp h
  refine g_callP (pc := 2) (vs := [.int v1]) K d21_2 (w113 hw) (w114 hw) (w115 hw) (w116 hw) hyC pd_6 rfl rfl (con_M_validThread l Z a0 hw n1 a (ctx_le K) hq2) rfl (Nat.le_of_ble_eq_true rfl) (Nat.le_of_ble_eq_true rfl) rfl rfl ?_
  rcases ifs h with ⟨hc5, h⟩ | ⟨hc5, h⟩
  · refine g_ifF (pc := 5) K.1 d21_5 ((if0 _ _).trans (teq hc5).2) ?_
    refine g_iconst (pc := 8) (v := -1) K.1 d21_8 (by decide) ?_
    cases h; exact g_ireturn K.1 d21_9 (capC K)
  refine g_ifT (pc := 5) (pc' := 10) K.1 d21_5 (by decide) ((if0 _ _).trans (feq hc5).2) ?_
  refine g_aloadN (pc := 10) K.1 d21_10 rfl ?_
  refine g_getA (pc := 11) K d21_11 (w22 hw) mf_thPhase rfl ?_
  refine g_iloadN (pc := 14) K.1 d21_14 rfl ?_
  obtain ⟨hc15, h⟩ := ifn h
  refine g_iaload (pc := 15) K d21_15 ma_thPhase rfl hc15 ?_
  refine g_istoreN (pc := 16) (L' := [some (.ref 0), some (.int v1), some (.int (gA q2.2 7 (v1).toInt))]) K.1 d21_16 (blt rfl) rfl ?_
  refine g_iloadN (pc := 17) K.1 d21_17 rfl ?_
  rcases ifs h with ⟨hc18, h⟩ | ⟨hc18, h⟩
  · refine g_ifF (pc := 18) K.1 d21_18 ((if0 _ _).trans (teq hc18).2) ?_
    refine g_iconst (pc := 21) (v := 0) K.1 d21_21 (by decide) ?_
    cases h; exact g_ireturn K.1 d21_22 (capC K)
  refine g_ifT (pc := 18) (pc' := 23) K.1 d21_18 (by decide) ((if0 _ _).trans (feq hc18).2) ?_
  refine g_aloadN (pc := 23) K.1 d21_23 rfl ?_
  refine g_getA (pc := 24) K d21_24 (w30 hw) mf_thSteps rfl ?_
  refine g_iloadN (pc := 27) K.1 d21_27 rfl ?_
  refine g_aloadN (pc := 28) K.1 d21_28 rfl ?_
  refine g_getA (pc := 29) K d21_29 (w30 hw) mf_thSteps rfl ?_
  refine g_iloadN (pc := 32) K.1 d21_32 rfl ?_
  obtain ⟨hc33, h⟩ := ifn h
  refine g_iaload (pc := 33) K d21_33 ma_thSteps rfl hc33 ?_
  refine g_iconst (pc := 34) (v := 1) K.1 d21_34 (by decide) ?_
  refine g_iadd (pc := 35) K.1 d21_35 ?_
  obtain ⟨hc36, h⟩ := ifn h
  refine g_iastore (pc := 36) K d21_36 ma_thSteps rfl hc36 ?_
  refine g_aloadN (pc := 37) K.1 d21_37 rfl ?_
  refine g_iloadN (pc := 38) K.1 d21_38 rfl ?_
  refine g_iloadN (pc := 39) K.1 d21_39 rfl ?_
  obtain ⟨q40, hq40, h⟩ := Option.bind_eq_some_iff.mp h
  refine g_callP (pc := 40) (vs := [.int v1, .int (gA q2.2 7 (v1).toInt)]) K d21_40 (w176 hw) (w177 hw) (w178 hw) (w179 hw) hyC pd_8 rfl rfl (con_M_dispatch l Z a0 hw n1 a (ctx_le K) hq40) rfl (Nat.le_of_ble_eq_true rfl) (Nat.le_of_ble_eq_true rfl) rfl rfl ?_
  cases h; exact g_ireturn K.1 d21_43 (capC K)
theorem con_M_step (l : Launch) (Z : State) (a0 : Array Value) (hw : HW a0 Z) (n1 : Nat) (a : Addr) (ha : n1 ≤ a) {σ : St} {v1 : Int32} {r : Int32 × St} (h : M_step σ v1 = some r) : Con l Z cC cFS cFA 23 n1 a ⟨cC, "step", "(I)I"⟩ c21 3 (some .int) ⟨4, 0, 0, 56⟩ [.ref 0, .int v1] σ (some (.int r.1)) r.2 :=
  con_of_go pnC rfl (layW hw) lgood ha (fun X h1 K => ok_M_step K hw h)
abbrev KM_M_announcedId (X : Cx (St × Nat)) (Z : State) (a0 : Array Value) (l : Launch) (n1 : Nat) (a : Addr) (h0 : Heap) : Prop := CtxC X Z a0 cC cFS cFA 23 27 l n1 a h0 ce0 ⟨1, 0, 0, 13⟩ "announcedId" c27 2 (some .int)
def M_announcedId (σ : St) (v1 : Int32) : Option (Int32 × St) :=
  ((M_validThread σ v1).bind fun q2 => (if q2.1 = 0 then (some ((-1 : Int32), q2.2)) else (if 0 ≤ (v1).toInt ∧ (v1).toInt < 6 then (some ((gA q2.2 14 (v1).toInt), q2.2)) else none)))
theorem ok_M_announcedId {X : Cx (St × Nat)} {Z : State} {a0 : Array Value} {l : Launch} {n1 : Nat} {a : Addr} {h0 : Heap} (K : KM_M_announcedId X Z a0 l n1 a h0) (hw : HW a0 Z) {σ : St} {v1 : Int32} {r : Int32 × St} (h : M_announcedId σ v1 = some r) : Go X (some (.int r.1), (r.2, 23)) 0 [some (.ref 0), some (.int v1)] [] (σ, 23) := by
  unfold M_announcedId at h
  refine g_aloadN (pc := 0) K.1 d27_0 rfl ?_
  refine g_iloadN (pc := 1) K.1 d27_1 rfl ?_
  obtain ⟨q2, hq2, h⟩ := Option.bind_eq_some_iff.mp h
  refine g_callP (pc := 2) (vs := [.int v1]) K d27_2 (w113 hw) (w114 hw) (w115 hw) (w116 hw) hyC pd_6 rfl rfl (con_M_validThread l Z a0 hw n1 a (ctx_le K) hq2) rfl (Nat.le_of_ble_eq_true rfl) (Nat.le_of_ble_eq_true rfl) rfl rfl ?_
  rcases ifs h with ⟨hc5, h⟩ | ⟨hc5, h⟩
  · refine g_ifF (pc := 5) K.1 d27_5 ((if0 _ _).trans (teq hc5).2) ?_
    refine g_iconst (pc := 8) (v := -1) K.1 d27_8 (by decide) ?_
    cases h; exact g_ireturn K.1 d27_9 (capC K)
  refine g_ifT (pc := 5) (pc' := 10) K.1 d27_5 (by decide) ((if0 _ _).trans (feq hc5).2) ?_
  refine g_aloadN (pc := 10) K.1 d27_10 rfl ?_
  refine g_getA (pc := 11) K d27_11 (w36 hw) mf_annId rfl ?_
  refine g_iloadN (pc := 14) K.1 d27_14 rfl ?_
  obtain ⟨hc15, h⟩ := ifn h
  refine g_iaload (pc := 15) K d27_15 ma_annId rfl hc15 ?_
  cases h; exact g_ireturn K.1 d27_16 (capC K)
theorem con_M_announcedId (l : Launch) (Z : State) (a0 : Array Value) (hw : HW a0 Z) (n1 : Nat) (a : Addr) (ha : n1 ≤ a) {σ : St} {v1 : Int32} {r : Int32 × St} (h : M_announcedId σ v1 = some r) : Con l Z cC cFS cFA 23 n1 a ⟨cC, "announcedId", "(I)I"⟩ c27 2 (some .int) ⟨1, 0, 0, 13⟩ [.ref 0, .int v1] σ (some (.int r.1)) r.2 :=
  con_of_go pnC rfl (layW hw) lgood ha (fun X h1 K => ok_M_announcedId K hw h)
abbrev KM_M_phase (X : Cx (St × Nat)) (Z : State) (a0 : Array Value) (l : Launch) (n1 : Nat) (a : Addr) (h0 : Heap) : Prop := CtxC X Z a0 cC cFS cFA 23 27 l n1 a h0 ce0 ⟨1, 0, 0, 13⟩ "phase" c28 2 (some .int)
def M_phase (σ : St) (v1 : Int32) : Option (Int32 × St) :=
  ((M_validThread σ v1).bind fun q2 => (if q2.1 = 0 then (some ((-1 : Int32), q2.2)) else (if 0 ≤ (v1).toInt ∧ (v1).toInt < 6 then (some ((gA q2.2 7 (v1).toInt), q2.2)) else none)))
theorem ok_M_phase {X : Cx (St × Nat)} {Z : State} {a0 : Array Value} {l : Launch} {n1 : Nat} {a : Addr} {h0 : Heap} (K : KM_M_phase X Z a0 l n1 a h0) (hw : HW a0 Z) {σ : St} {v1 : Int32} {r : Int32 × St} (h : M_phase σ v1 = some r) : Go X (some (.int r.1), (r.2, 23)) 0 [some (.ref 0), some (.int v1)] [] (σ, 23) := by
  unfold M_phase at h
  refine g_aloadN (pc := 0) K.1 d28_0 rfl ?_
  refine g_iloadN (pc := 1) K.1 d28_1 rfl ?_
  obtain ⟨q2, hq2, h⟩ := Option.bind_eq_some_iff.mp h
  refine g_callP (pc := 2) (vs := [.int v1]) K d28_2 (w113 hw) (w114 hw) (w115 hw) (w116 hw) hyC pd_6 rfl rfl (con_M_validThread l Z a0 hw n1 a (ctx_le K) hq2) rfl (Nat.le_of_ble_eq_true rfl) (Nat.le_of_ble_eq_true rfl) rfl rfl ?_
  rcases ifs h with ⟨hc5, h⟩ | ⟨hc5, h⟩
  · refine g_ifF (pc := 5) K.1 d28_5 ((if0 _ _).trans (teq hc5).2) ?_
    refine g_iconst (pc := 8) (v := -1) K.1 d28_8 (by decide) ?_
    cases h; exact g_ireturn K.1 d28_9 (capC K)
  refine g_ifT (pc := 5) (pc' := 10) K.1 d28_5 (by decide) ((if0 _ _).trans (feq hc5).2) ?_
  refine g_aloadN (pc := 10) K.1 d28_10 rfl ?_
  refine g_getA (pc := 11) K d28_11 (w22 hw) mf_thPhase rfl ?_
  refine g_iloadN (pc := 14) K.1 d28_14 rfl ?_
  obtain ⟨hc15, h⟩ := ifn h
  refine g_iaload (pc := 15) K d28_15 ma_thPhase rfl hc15 ?_
  cases h; exact g_ireturn K.1 d28_16 (capC K)
theorem con_M_phase (l : Launch) (Z : State) (a0 : Array Value) (hw : HW a0 Z) (n1 : Nat) (a : Addr) (ha : n1 ≤ a) {σ : St} {v1 : Int32} {r : Int32 × St} (h : M_phase σ v1 = some r) : Con l Z cC cFS cFA 23 n1 a ⟨cC, "phase", "(I)I"⟩ c28 2 (some .int) ⟨1, 0, 0, 13⟩ [.ref 0, .int v1] σ (some (.int r.1)) r.2 :=
  con_of_go pnC rfl (layW hw) lgood ha (fun X h1 K => ok_M_phase K hw h)
abbrev KM_M_ownSteps (X : Cx (St × Nat)) (Z : State) (a0 : Array Value) (l : Launch) (n1 : Nat) (a : Addr) (h0 : Heap) : Prop := CtxC X Z a0 cC cFS cFA 23 27 l n1 a h0 ce0 ⟨1, 0, 0, 13⟩ "ownSteps" c29 2 (some .int)
def M_ownSteps (σ : St) (v1 : Int32) : Option (Int32 × St) :=
  ((M_validThread σ v1).bind fun q2 => (if q2.1 = 0 then (some ((-1 : Int32), q2.2)) else (if 0 ≤ (v1).toInt ∧ (v1).toInt < 6 then (some ((gA q2.2 11 (v1).toInt), q2.2)) else none)))
theorem ok_M_ownSteps {X : Cx (St × Nat)} {Z : State} {a0 : Array Value} {l : Launch} {n1 : Nat} {a : Addr} {h0 : Heap} (K : KM_M_ownSteps X Z a0 l n1 a h0) (hw : HW a0 Z) {σ : St} {v1 : Int32} {r : Int32 × St} (h : M_ownSteps σ v1 = some r) : Go X (some (.int r.1), (r.2, 23)) 0 [some (.ref 0), some (.int v1)] [] (σ, 23) := by
  unfold M_ownSteps at h
  refine g_aloadN (pc := 0) K.1 d29_0 rfl ?_
  refine g_iloadN (pc := 1) K.1 d29_1 rfl ?_
  obtain ⟨q2, hq2, h⟩ := Option.bind_eq_some_iff.mp h
  refine g_callP (pc := 2) (vs := [.int v1]) K d29_2 (w113 hw) (w114 hw) (w115 hw) (w116 hw) hyC pd_6 rfl rfl (con_M_validThread l Z a0 hw n1 a (ctx_le K) hq2) rfl (Nat.le_of_ble_eq_true rfl) (Nat.le_of_ble_eq_true rfl) rfl rfl ?_
  rcases ifs h with ⟨hc5, h⟩ | ⟨hc5, h⟩
  · refine g_ifF (pc := 5) K.1 d29_5 ((if0 _ _).trans (teq hc5).2) ?_
    refine g_iconst (pc := 8) (v := -1) K.1 d29_8 (by decide) ?_
    cases h; exact g_ireturn K.1 d29_9 (capC K)
  refine g_ifT (pc := 5) (pc' := 10) K.1 d29_5 (by decide) ((if0 _ _).trans (feq hc5).2) ?_
  refine g_aloadN (pc := 10) K.1 d29_10 rfl ?_
  refine g_getA (pc := 11) K d29_11 (w30 hw) mf_thSteps rfl ?_
  refine g_iloadN (pc := 14) K.1 d29_14 rfl ?_
  obtain ⟨hc15, h⟩ := ifn h
  refine g_iaload (pc := 15) K d29_15 ma_thSteps rfl hc15 ?_
  cases h; exact g_ireturn K.1 d29_16 (capC K)
theorem con_M_ownSteps (l : Launch) (Z : State) (a0 : Array Value) (hw : HW a0 Z) (n1 : Nat) (a : Addr) (ha : n1 ≤ a) {σ : St} {v1 : Int32} {r : Int32 × St} (h : M_ownSteps σ v1 = some r) : Con l Z cC cFS cFA 23 n1 a ⟨cC, "ownSteps", "(I)I"⟩ c29 2 (some .int) ⟨1, 0, 0, 13⟩ [.ref 0, .int v1] σ (some (.int r.1)) r.2 :=
  con_of_go pnC rfl (layW hw) lgood ha (fun X h1 K => ok_M_ownSteps K hw h)
abbrev KM_M_operationCount (X : Cx (St × Nat)) (Z : State) (a0 : Array Value) (l : Launch) (n1 : Nat) (a : Addr) (h0 : Heap) : Prop := CtxC X Z a0 cC cFS cFA 23 27 l n1 a h0 ce0 ⟨0, 0, 0, 0⟩ "operationCount" c30 1 (some .int)
def M_operationCount (σ : St) : Option (Int32 × St) :=
  (some ((gI σ 139), σ))
theorem ok_M_operationCount {X : Cx (St × Nat)} {Z : State} {a0 : Array Value} {l : Launch} {n1 : Nat} {a : Addr} {h0 : Heap} (K : KM_M_operationCount X Z a0 l n1 a h0) (hw : HW a0 Z) {σ : St} {r : Int32 × St} (h : M_operationCount σ = some r) : Go X (some (.int r.1), (r.2, 23)) 0 [some (.ref 0)] [] (σ, 23) := by
  unfold M_operationCount at h
  refine g_aloadN (pc := 0) K.1 d30_0 rfl ?_
  refine g_getI (pc := 1) K d30_1 (w64 hw) mf_opCount ?_
  cases h; exact g_ireturn K.1 d30_4 (capC K)
theorem con_M_operationCount (l : Launch) (Z : State) (a0 : Array Value) (hw : HW a0 Z) (n1 : Nat) (a : Addr) (ha : n1 ≤ a) {σ : St} {r : Int32 × St} (h : M_operationCount σ = some r) : Con l Z cC cFS cFA 23 n1 a ⟨cC, "operationCount", "()I"⟩ c30 1 (some .int) ⟨0, 0, 0, 0⟩ [.ref 0] σ (some (.int r.1)) r.2 :=
  con_of_go pnC rfl (layW hw) lgood ha (fun X h1 K => ok_M_operationCount K hw h)
abbrev KM_M_tail (X : Cx (St × Nat)) (Z : State) (a0 : Array Value) (l : Launch) (n1 : Nat) (a : Addr) (h0 : Heap) : Prop := CtxC X Z a0 cC cFS cFA 23 27 l n1 a h0 ce0 ⟨0, 0, 0, 0⟩ "tail" c31 1 (some .int)
def M_tail (σ : St) : Option (Int32 × St) :=
  (some ((gI σ 153), σ))
theorem ok_M_tail {X : Cx (St × Nat)} {Z : State} {a0 : Array Value} {l : Launch} {n1 : Nat} {a : Addr} {h0 : Heap} (K : KM_M_tail X Z a0 l n1 a h0) (hw : HW a0 Z) {σ : St} {r : Int32 × St} (h : M_tail σ = some r) : Go X (some (.int r.1), (r.2, 23)) 0 [some (.ref 0)] [] (σ, 23) := by
  unfold M_tail at h
  refine g_aloadN (pc := 0) K.1 d31_0 rfl ?_
  refine g_getI (pc := 1) K d31_1 (w66 hw) mf_tailValue ?_
  cases h; exact g_ireturn K.1 d31_4 (capC K)
theorem con_M_tail (l : Launch) (Z : State) (a0 : Array Value) (hw : HW a0 Z) (n1 : Nat) (a : Addr) (ha : n1 ≤ a) {σ : St} {r : Int32 × St} (h : M_tail σ = some r) : Con l Z cC cFS cFA 23 n1 a ⟨cC, "tail", "()I"⟩ c31 1 (some .int) ⟨0, 0, 0, 0⟩ [.ref 0] σ (some (.int r.1)) r.2 :=
  con_of_go pnC rfl (layW hw) lgood ha (fun X h1 K => ok_M_tail K hw h)
abbrev KM_M_statusOf (X : Cx (St × Nat)) (Z : State) (a0 : Array Value) (l : Launch) (n1 : Nat) (a : Addr) (h0 : Heap) : Prop := CtxC X Z a0 cC cFS cFA 23 27 l n1 a h0 ce0 ⟨1, 0, 0, 13⟩ "statusOf" c32 2 (some .int)
def M_statusOf (σ : St) (v1 : Int32) : Option (Int32 × St) :=
  ((M_isId σ v1).bind fun q2 => (if q2.1 = 0 then (some ((0 : Int32), q2.2)) else (if 0 ≤ (v1).toInt ∧ (v1).toInt < 241 then (some ((gA q2.2 4 (v1).toInt), q2.2)) else none)))
theorem ok_M_statusOf {X : Cx (St × Nat)} {Z : State} {a0 : Array Value} {l : Launch} {n1 : Nat} {a : Addr} {h0 : Heap} (K : KM_M_statusOf X Z a0 l n1 a h0) (hw : HW a0 Z) {σ : St} {v1 : Int32} {r : Int32 × St} (h : M_statusOf σ v1 = some r) : Go X (some (.int r.1), (r.2, 23)) 0 [some (.ref 0), some (.int v1)] [] (σ, 23) := by
  unfold M_statusOf at h
  refine g_aloadN (pc := 0) K.1 d32_0 rfl ?_
  refine g_iloadN (pc := 1) K.1 d32_1 rfl ?_
  obtain ⟨q2, hq2, h⟩ := Option.bind_eq_some_iff.mp h
  refine g_callP (pc := 2) (vs := [.int v1]) K d32_2 (w152 hw) (w153 hw) (w154 hw) (w155 hw) hyC pd_6 rfl rfl (con_M_isId l Z a0 hw n1 a (ctx_le K) hq2) rfl (Nat.le_of_ble_eq_true rfl) (Nat.le_of_ble_eq_true rfl) rfl rfl ?_
  rcases ifs h with ⟨hc5, h⟩ | ⟨hc5, h⟩
  · refine g_ifF (pc := 5) K.1 d32_5 ((if0 _ _).trans (teq hc5).2) ?_
    refine g_iconst (pc := 8) (v := 0) K.1 d32_8 (by decide) ?_
    cases h; exact g_ireturn K.1 d32_9 (capC K)
  refine g_ifT (pc := 5) (pc' := 10) K.1 d32_5 (by decide) ((if0 _ _).trans (feq hc5).2) ?_
  refine g_aloadN (pc := 10) K.1 d32_10 rfl ?_
  refine g_getA (pc := 11) K d32_11 (w16 hw) mf_opStatus rfl ?_
  refine g_iloadN (pc := 14) K.1 d32_14 rfl ?_
  obtain ⟨hc15, h⟩ := ifn h
  refine g_iaload (pc := 15) K d32_15 ma_opStatus rfl hc15 ?_
  cases h; exact g_ireturn K.1 d32_16 (capC K)
theorem con_M_statusOf (l : Launch) (Z : State) (a0 : Array Value) (hw : HW a0 Z) (n1 : Nat) (a : Addr) (ha : n1 ≤ a) {σ : St} {v1 : Int32} {r : Int32 × St} (h : M_statusOf σ v1 = some r) : Con l Z cC cFS cFA 23 n1 a ⟨cC, "statusOf", "(I)I"⟩ c32 2 (some .int) ⟨1, 0, 0, 13⟩ [.ref 0, .int v1] σ (some (.int r.1)) r.2 :=
  con_of_go pnC rfl (layW hw) lgood ha (fun X h1 K => ok_M_statusOf K hw h)
abbrev KM_LAW (X : Cx (List (St × Nat))) (Z : State) (a0 : Array Value) (l : Launch) (n1 : Nat) (sc : Addr) (H0 : Heap) : Prop := CtxL X Z a0 cC cFS cFA 23 27 l n1 sc H0 (ceL 27 cFA) ⟨8, 56, 3456, 176⟩ 56 3456 "WaitFreeUniversalL2" "law" code 28 (some .boolean)
def LAW_b373 (NF : Nat)  (i14 : Int32) (i15 : Int32) (i27 : Int32) (t0 : Int32) (t1 : Int32) (x0 : St) : Option (Int32 × List (St × Nat)) :=
  (if t0 = t1 then (if i14 = 0 then (if i15 = i27 then (some ((1 : Int32), [(x0, 23)])) else (some ((0 : Int32), [(x0, 23)]))) else (some ((0 : Int32), [(x0, 23)]))) else (some ((0 : Int32), [(x0, 23)])))
theorem ok_LAW_b373 {X : Cx (List (St × Nat))} {Z : State} {a0 : Array Value} {l : Launch} {n1 : Nat} {sc : Addr} {H0 : Heap} {NF : Nat} (K : KM_LAW X Z a0 l n1 sc H0) (hw : HW a0 Z) (hs0 : hsz X = n1)  {i14 : Int32} {i15 : Int32} {i27 : Int32} {t0 : Int32} {t1 : Int32} {x0 : St} {r : Int32 × List (St × Nat)}  (h : LAW_b373 NF  i14 i15 i27 t0 t1 x0 = some r) : Go X (some (.int r.1), r.2) 373 [none, none, none, none, none, none, none, none, none, none, none, none, none, none, some (.int i14), some (.int i15), none, none, none, none, none, none, none, none, none, none, none, some (.int i27)] [.int t1, .int t0] [(x0, 23)] := by
  unfold LAW_b373 at h
  rcases ifs h with ⟨hc373, h⟩ | ⟨hc373, h⟩
  · refine g_icF (pc := 373) K.1 at_373 ((teq hc373).2) ?_
    refine g_iload (pc := 376) K.1 at_376 rfl ?_
    rcases ifs h with ⟨hc378, h⟩ | ⟨hc378, h⟩
    · refine g_ifF (pc := 378) K.1 at_378 ((if0 _ _).trans (teq hc378).2) ?_
      refine g_iload (pc := 381) K.1 at_381 rfl ?_
      refine g_iload (pc := 383) K.1 at_383 rfl ?_
      rcases ifs h with ⟨hc385, h⟩ | ⟨hc385, h⟩
      · refine g_icF (pc := 385) K.1 at_385 ((teq hc385).2) ?_
        refine g_iconst (pc := 388) (v := 1) K.1 at_388 (by decide) ?_
        refine g_goto (pc := 389) (pc' := 393) K.1 at_389 (by decide) ?_
        cases h; exact g_ireturnN (t := .boolean) K.1 rfl (Or.inl rfl) at_393 rfl (capL K (capJ1 cj_23 rfl) (capJ2 cj_23 rfl))
      refine g_icT (pc := 385) (pc' := 392) K.1 at_385 (by decide) ((feq hc385).2) ?_
      refine g_iconst (pc := 392) (v := 0) K.1 at_392 (by decide) ?_
      cases h; exact g_ireturnN (t := .boolean) K.1 rfl (Or.inl rfl) at_393 rfl (capL K (capJ1 cj_23 rfl) (capJ2 cj_23 rfl))
    refine g_ifT (pc := 378) (pc' := 392) K.1 at_378 (by decide) ((if0 _ _).trans (feq hc378).2) ?_
    refine g_iconst (pc := 392) (v := 0) K.1 at_392 (by decide) ?_
    cases h; exact g_ireturnN (t := .boolean) K.1 rfl (Or.inl rfl) at_393 rfl (capL K (capJ1 cj_23 rfl) (capJ2 cj_23 rfl))
  refine g_icT (pc := 373) (pc' := 392) K.1 at_373 (by decide) ((feq hc373).2) ?_
  refine g_iconst (pc := 392) (v := 0) K.1 at_392 (by decide) ?_
  cases h; exact g_ireturnN (t := .boolean) K.1 rfl (Or.inl rfl) at_393 rfl (capL K (capJ1 cj_23 rfl) (capJ2 cj_23 rfl))
def LAW_b317 (NF : Nat)  (i7 : Int32) (i8 : Int32) (i9 : Int32) (i10 : Int32) (i11 : Int32) (i12 : Int32) (i13 : Int32) (i14 : Int32) (i15 : Int32) (i18 : Int32) (i20 : Int32) (i22 : Int32) (i23 : Int32) (i24 : Int32) (i25 : Int32) (i26 : Int32) (t0 : Int32) (x0 : St) : Option (Int32 × List (St × Nat)) :=
  (if i7 = i18 then (if i8 = i22 then (if i9 = i20 then (if i10 = i23 then (if i11 = i24 then (if i12 = i25 then (if i26 = 0 then LAW_b373 NF i14 i15 t0 i13 (0 : Int32) x0 else LAW_b373 NF i14 i15 t0 i13 (1 : Int32) x0) else (some ((0 : Int32), [(x0, 23)]))) else (some ((0 : Int32), [(x0, 23)]))) else (some ((0 : Int32), [(x0, 23)]))) else (some ((0 : Int32), [(x0, 23)]))) else (some ((0 : Int32), [(x0, 23)]))) else (some ((0 : Int32), [(x0, 23)])))
theorem ok_LAW_b317 {X : Cx (List (St × Nat))} {Z : State} {a0 : Array Value} {l : Launch} {n1 : Nat} {sc : Addr} {H0 : Heap} {NF : Nat} (K : KM_LAW X Z a0 l n1 sc H0) (hw : HW a0 Z) (hs0 : hsz X = n1)  {i7 : Int32} {i8 : Int32} {i9 : Int32} {i10 : Int32} {i11 : Int32} {i12 : Int32} {i13 : Int32} {i14 : Int32} {i15 : Int32} {i18 : Int32} {i20 : Int32} {i22 : Int32} {i23 : Int32} {i24 : Int32} {i25 : Int32} {i26 : Int32} {t0 : Int32} {x0 : St} {r : Int32 × List (St × Nat)}  (h : LAW_b317 NF  i7 i8 i9 i10 i11 i12 i13 i14 i15 i18 i20 i22 i23 i24 i25 i26 t0 x0 = some r) : Go X (some (.int r.1), r.2) 317 [none, none, none, none, none, none, none, some (.int i7), some (.int i8), some (.int i9), some (.int i10), some (.int i11), some (.int i12), some (.int i13), some (.int i14), some (.int i15), none, none, some (.int i18), none, some (.int i20), none, some (.int i22), some (.int i23), some (.int i24), some (.int i25), some (.int i26), none] [.int t0] [(x0, 23)] := by
  unfold LAW_b317 at h
  refine g_istore (pc := 317) (L' := [none, none, none, none, none, none, none, some (.int i7), some (.int i8), some (.int i9), some (.int i10), some (.int i11), some (.int i12), some (.int i13), some (.int i14), some (.int i15), none, none, some (.int i18), none, some (.int i20), none, some (.int i22), some (.int i23), some (.int i24), some (.int i25), some (.int i26), some (.int t0)]) K.1 at_317 (blt rfl) rfl ?_
  refine g_iload (pc := 319) K.1 at_319 rfl ?_
  refine g_iload (pc := 321) K.1 at_321 rfl ?_
  rcases ifs h with ⟨hc323, h⟩ | ⟨hc323, h⟩
  · refine g_icF (pc := 323) K.1 at_323 ((teq hc323).2) ?_
    refine g_iload (pc := 326) K.1 at_326 rfl ?_
    refine g_iload (pc := 328) K.1 at_328 rfl ?_
    rcases ifs h with ⟨hc330, h⟩ | ⟨hc330, h⟩
    · refine g_icF (pc := 330) K.1 at_330 ((teq hc330).2) ?_
      refine g_iload (pc := 333) K.1 at_333 rfl ?_
      refine g_iload (pc := 335) K.1 at_335 rfl ?_
      rcases ifs h with ⟨hc337, h⟩ | ⟨hc337, h⟩
      · refine g_icF (pc := 337) K.1 at_337 ((teq hc337).2) ?_
        refine g_iload (pc := 340) K.1 at_340 rfl ?_
        refine g_iload (pc := 342) K.1 at_342 rfl ?_
        rcases ifs h with ⟨hc344, h⟩ | ⟨hc344, h⟩
        · refine g_icF (pc := 344) K.1 at_344 ((teq hc344).2) ?_
          refine g_iload (pc := 347) K.1 at_347 rfl ?_
          refine g_iload (pc := 349) K.1 at_349 rfl ?_
          rcases ifs h with ⟨hc351, h⟩ | ⟨hc351, h⟩
          · refine g_icF (pc := 351) K.1 at_351 ((teq hc351).2) ?_
            refine g_iload (pc := 354) K.1 at_354 rfl ?_
            refine g_iload (pc := 356) K.1 at_356 rfl ?_
            rcases ifs h with ⟨hc358, h⟩ | ⟨hc358, h⟩
            · refine g_icF (pc := 358) K.1 at_358 ((teq hc358).2) ?_
              refine g_iload (pc := 361) K.1 at_361 rfl ?_
              refine g_iload (pc := 363) K.1 at_363 rfl ?_
              rcases ifs h with ⟨hc365, h⟩ | ⟨hc365, h⟩
              · refine g_ifT (pc := 365) (pc' := 372) K.1 at_365 (by decide) ((if0 _ _).trans (teq hc365).1) ?_
                refine g_iconst (pc := 372) (v := 0) K.1 at_372 (by decide) ?_
                exact g_less (ok_LAW_b373 K hw hs0  h) (ls (ls (ls (ls (ls (ls (ls (ln (ln (ln (ln (ln (ln (ln (ls (ls (ls (ls (ln (ls (ln (ls (ln (ln (ln (ln (ln (ls l0))))))))))))))))))))))))))))
              refine g_ifF (pc := 365) K.1 at_365 ((if0 _ _).trans (feq hc365).1) ?_
              refine g_iconst (pc := 368) (v := 1) K.1 at_368 (by decide) ?_
              refine g_goto (pc := 369) (pc' := 373) K.1 at_369 (by decide) ?_
              exact g_less (ok_LAW_b373 K hw hs0  h) (ls (ls (ls (ls (ls (ls (ls (ln (ln (ln (ln (ln (ln (ln (ls (ls (ls (ls (ln (ls (ln (ls (ln (ln (ln (ln (ln (ls l0))))))))))))))))))))))))))))
            refine g_icT (pc := 358) (pc' := 392) K.1 at_358 (by decide) ((feq hc358).2) ?_
            refine g_iconst (pc := 392) (v := 0) K.1 at_392 (by decide) ?_
            cases h; exact g_ireturnN (t := .boolean) K.1 rfl (Or.inl rfl) at_393 rfl (capL K (capJ1 cj_23 rfl) (capJ2 cj_23 rfl))
          refine g_icT (pc := 351) (pc' := 392) K.1 at_351 (by decide) ((feq hc351).2) ?_
          refine g_iconst (pc := 392) (v := 0) K.1 at_392 (by decide) ?_
          cases h; exact g_ireturnN (t := .boolean) K.1 rfl (Or.inl rfl) at_393 rfl (capL K (capJ1 cj_23 rfl) (capJ2 cj_23 rfl))
        refine g_icT (pc := 344) (pc' := 392) K.1 at_344 (by decide) ((feq hc344).2) ?_
        refine g_iconst (pc := 392) (v := 0) K.1 at_392 (by decide) ?_
        cases h; exact g_ireturnN (t := .boolean) K.1 rfl (Or.inl rfl) at_393 rfl (capL K (capJ1 cj_23 rfl) (capJ2 cj_23 rfl))
      refine g_icT (pc := 337) (pc' := 392) K.1 at_337 (by decide) ((feq hc337).2) ?_
      refine g_iconst (pc := 392) (v := 0) K.1 at_392 (by decide) ?_
      cases h; exact g_ireturnN (t := .boolean) K.1 rfl (Or.inl rfl) at_393 rfl (capL K (capJ1 cj_23 rfl) (capJ2 cj_23 rfl))
    refine g_icT (pc := 330) (pc' := 392) K.1 at_330 (by decide) ((feq hc330).2) ?_
    refine g_iconst (pc := 392) (v := 0) K.1 at_392 (by decide) ?_
    cases h; exact g_ireturnN (t := .boolean) K.1 rfl (Or.inl rfl) at_393 rfl (capL K (capJ1 cj_23 rfl) (capJ2 cj_23 rfl))
  refine g_icT (pc := 323) (pc' := 392) K.1 at_323 (by decide) ((feq hc323).2) ?_
  refine g_iconst (pc := 392) (v := 0) K.1 at_392 (by decide) ?_
  cases h; exact g_ireturnN (t := .boolean) K.1 rfl (Or.inl rfl) at_393 rfl (capL K (capJ1 cj_23 rfl) (capJ2 cj_23 rfl))
def LAW_b305 (NF : Nat)  (i7 : Int32) (i8 : Int32) (i9 : Int32) (i10 : Int32) (i11 : Int32) (i12 : Int32) (i13 : Int32) (i14 : Int32) (i15 : Int32) (i18 : Int32) (i20 : Int32) (i22 : Int32) (i23 : Int32) (i24 : Int32) (i25 : Int32) (t0 : Int32) (x0 : St) : Option (Int32 × List (St × Nat)) :=
  (if t0 = 0 then LAW_b317 NF i7 i8 i9 i10 i11 i12 i13 i14 i15 i18 i20 i22 i23 i24 i25 t0 (0 : Int32) x0 else LAW_b317 NF i7 i8 i9 i10 i11 i12 i13 i14 i15 i18 i20 i22 i23 i24 i25 t0 (1 : Int32) x0)
theorem ok_LAW_b305 {X : Cx (List (St × Nat))} {Z : State} {a0 : Array Value} {l : Launch} {n1 : Nat} {sc : Addr} {H0 : Heap} {NF : Nat} (K : KM_LAW X Z a0 l n1 sc H0) (hw : HW a0 Z) (hs0 : hsz X = n1)  {i7 : Int32} {i8 : Int32} {i9 : Int32} {i10 : Int32} {i11 : Int32} {i12 : Int32} {i13 : Int32} {i14 : Int32} {i15 : Int32} {i18 : Int32} {i20 : Int32} {i22 : Int32} {i23 : Int32} {i24 : Int32} {i25 : Int32} {t0 : Int32} {x0 : St} {r : Int32 × List (St × Nat)}  (h : LAW_b305 NF  i7 i8 i9 i10 i11 i12 i13 i14 i15 i18 i20 i22 i23 i24 i25 t0 x0 = some r) : Go X (some (.int r.1), r.2) 305 [none, none, none, none, none, none, none, some (.int i7), some (.int i8), some (.int i9), some (.int i10), some (.int i11), some (.int i12), some (.int i13), some (.int i14), some (.int i15), none, none, some (.int i18), none, some (.int i20), none, some (.int i22), some (.int i23), some (.int i24), some (.int i25), none, none] [.int t0] [(x0, 23)] := by
  unfold LAW_b305 at h
  refine g_istore (pc := 305) (L' := [none, none, none, none, none, none, none, some (.int i7), some (.int i8), some (.int i9), some (.int i10), some (.int i11), some (.int i12), some (.int i13), some (.int i14), some (.int i15), none, none, some (.int i18), none, some (.int i20), none, some (.int i22), some (.int i23), some (.int i24), some (.int i25), some (.int t0), none]) K.1 at_305 (blt rfl) rfl ?_
  refine g_iload (pc := 307) K.1 at_307 rfl ?_
  rcases ifs h with ⟨hc309, h⟩ | ⟨hc309, h⟩
  · refine g_ifT (pc := 309) (pc' := 316) K.1 at_309 (by decide) ((if0 _ _).trans (teq hc309).1) ?_
    refine g_iconst (pc := 316) (v := 0) K.1 at_316 (by decide) ?_
    exact ok_LAW_b317 K hw hs0  h
  refine g_ifF (pc := 309) K.1 at_309 ((if0 _ _).trans (feq hc309).1) ?_
  refine g_iconst (pc := 312) (v := 1) K.1 at_312 (by decide) ?_
  refine g_goto (pc := 313) (pc' := 317) K.1 at_313 (by decide) ?_
  exact ok_LAW_b317 K hw hs0  h
def LAW_b300 (NF : Nat)  (i7 : Int32) (i8 : Int32) (i9 : Int32) (i10 : Int32) (i11 : Int32) (i12 : Int32) (i13 : Int32) (i14 : Int32) (i15 : Int32) (i18 : Int32) (i20 : Int32) (i22 : Int32) (i23 : Int32) (i24 : Int32) (i25 : Int32) (x0 : St) : Option (Int32 × List (St × Nat)) :=
  LAW_b305 NF i7 i8 i9 i10 i11 i12 i13 i14 i15 i18 i20 i22 i23 i24 i25 (1 : Int32) x0
theorem ok_LAW_b300 {X : Cx (List (St × Nat))} {Z : State} {a0 : Array Value} {l : Launch} {n1 : Nat} {sc : Addr} {H0 : Heap} {NF : Nat} (K : KM_LAW X Z a0 l n1 sc H0) (hw : HW a0 Z) (hs0 : hsz X = n1)  {i7 : Int32} {i8 : Int32} {i9 : Int32} {i10 : Int32} {i11 : Int32} {i12 : Int32} {i13 : Int32} {i14 : Int32} {i15 : Int32} {i18 : Int32} {i20 : Int32} {i22 : Int32} {i23 : Int32} {i24 : Int32} {i25 : Int32} {x0 : St} {r : Int32 × List (St × Nat)}  (h : LAW_b300 NF  i7 i8 i9 i10 i11 i12 i13 i14 i15 i18 i20 i22 i23 i24 i25 x0 = some r) : Go X (some (.int r.1), r.2) 300 [none, none, none, none, none, none, none, some (.int i7), some (.int i8), some (.int i9), some (.int i10), some (.int i11), some (.int i12), some (.int i13), some (.int i14), some (.int i15), none, none, some (.int i18), none, some (.int i20), none, some (.int i22), some (.int i23), some (.int i24), some (.int i25), none, none] [] [(x0, 23)] := by
  unfold LAW_b300 at h
  refine g_iconst (pc := 300) (v := 1) K.1 at_300 (by decide) ?_
  refine g_goto (pc := 301) (pc' := 305) K.1 at_301 (by decide) ?_
  exact ok_LAW_b305 K hw hs0  h
def LAW_b288 (NF : Nat)  (i7 : Int32) (i8 : Int32) (i9 : Int32) (i10 : Int32) (i11 : Int32) (i12 : Int32) (i13 : Int32) (i14 : Int32) (i15 : Int32) (i18 : Int32) (i19 : Int32) (i20 : Int32) (i21 : Int32) (i22 : Int32) (i23 : Int32) (i24 : Int32) (t0 : Int32) (x0 : St) : Option (Int32 × List (St × Nat)) :=
  (if i19 = 0 then (if i21 = 0 then LAW_b305 NF i7 i8 i9 i10 i11 i12 i13 i14 i15 i18 i20 i22 i23 i24 t0 (0 : Int32) x0 else LAW_b300 NF i7 i8 i9 i10 i11 i12 i13 i14 i15 i18 i20 i22 i23 i24 t0 x0) else LAW_b300 NF i7 i8 i9 i10 i11 i12 i13 i14 i15 i18 i20 i22 i23 i24 t0 x0)
theorem ok_LAW_b288 {X : Cx (List (St × Nat))} {Z : State} {a0 : Array Value} {l : Launch} {n1 : Nat} {sc : Addr} {H0 : Heap} {NF : Nat} (K : KM_LAW X Z a0 l n1 sc H0) (hw : HW a0 Z) (hs0 : hsz X = n1)  {i7 : Int32} {i8 : Int32} {i9 : Int32} {i10 : Int32} {i11 : Int32} {i12 : Int32} {i13 : Int32} {i14 : Int32} {i15 : Int32} {i18 : Int32} {i19 : Int32} {i20 : Int32} {i21 : Int32} {i22 : Int32} {i23 : Int32} {i24 : Int32} {t0 : Int32} {x0 : St} {r : Int32 × List (St × Nat)}  (h : LAW_b288 NF  i7 i8 i9 i10 i11 i12 i13 i14 i15 i18 i19 i20 i21 i22 i23 i24 t0 x0 = some r) : Go X (some (.int r.1), r.2) 288 [none, none, none, none, none, none, none, some (.int i7), some (.int i8), some (.int i9), some (.int i10), some (.int i11), some (.int i12), some (.int i13), some (.int i14), some (.int i15), none, none, some (.int i18), some (.int i19), some (.int i20), some (.int i21), some (.int i22), some (.int i23), some (.int i24), none, none, none] [.int t0] [(x0, 23)] := by
  unfold LAW_b288 at h
  refine g_istore (pc := 288) (L' := [none, none, none, none, none, none, none, some (.int i7), some (.int i8), some (.int i9), some (.int i10), some (.int i11), some (.int i12), some (.int i13), some (.int i14), some (.int i15), none, none, some (.int i18), some (.int i19), some (.int i20), some (.int i21), some (.int i22), some (.int i23), some (.int i24), some (.int t0), none, none]) K.1 at_288 (blt rfl) rfl ?_
  refine g_iload (pc := 290) K.1 at_290 rfl ?_
  rcases ifs h with ⟨hc292, h⟩ | ⟨hc292, h⟩
  · refine g_ifF (pc := 292) K.1 at_292 ((if0 _ _).trans (teq hc292).2) ?_
    refine g_iload (pc := 295) K.1 at_295 rfl ?_
    rcases ifs h with ⟨hc297, h⟩ | ⟨hc297, h⟩
    · refine g_ifT (pc := 297) (pc' := 304) K.1 at_297 (by decide) ((if0 _ _).trans (teq hc297).1) ?_
      refine g_iconst (pc := 304) (v := 0) K.1 at_304 (by decide) ?_
      exact g_less (ok_LAW_b305 K hw hs0  h) (ls (ls (ls (ls (ls (ls (ls (ls (ls (ls (ls (ls (ls (ls (ls (ls (ls (ls (ls (ln (ls (ln (ls (ls (ls (ls (ls (ls l0))))))))))))))))))))))))))))
    refine g_ifF (pc := 297) K.1 at_297 ((if0 _ _).trans (feq hc297).1) ?_
    exact g_less (ok_LAW_b300 K hw hs0  h) (ls (ls (ls (ls (ls (ls (ls (ls (ls (ls (ls (ls (ls (ls (ls (ls (ls (ls (ls (ln (ls (ln (ls (ls (ls (ls (ls (ls l0))))))))))))))))))))))))))))
  refine g_ifT (pc := 292) (pc' := 300) K.1 at_292 (by decide) ((if0 _ _).trans (feq hc292).2) ?_
  exact g_less (ok_LAW_b300 K hw hs0  h) (ls (ls (ls (ls (ls (ls (ls (ls (ls (ls (ls (ls (ls (ls (ls (ls (ls (ls (ls (ln (ls (ln (ls (ls (ls (ls (ls (ls l0))))))))))))))))))))))))))))
def LAW_b267 (NF : Nat)  (i7 : Int32) (i8 : Int32) (i9 : Int32) (i10 : Int32) (i11 : Int32) (i12 : Int32) (i13 : Int32) (i14 : Int32) (i15 : Int32) (i17 : Int32) (i18 : Int32) (i19 : Int32) (i20 : Int32) (i21 : Int32) (i22 : Int32) (i23 : Int32) (t0 : Int32) (x0 : St) : Option (Int32 × List (St × Nat)) :=
  (if i17 = 0 then LAW_b288 NF i7 i8 i9 i10 i11 i12 i13 i14 i15 i18 i19 i20 i21 i22 i23 t0 (-1 : Int32) x0 else (if i19 = 0 then LAW_b288 NF i7 i8 i9 i10 i11 i12 i13 i14 i15 i18 i19 i20 i21 i22 i23 t0 (0 : Int32) x0 else LAW_b288 NF i7 i8 i9 i10 i11 i12 i13 i14 i15 i18 i19 i20 i21 i22 i23 t0 (1 : Int32) x0))
theorem ok_LAW_b267 {X : Cx (List (St × Nat))} {Z : State} {a0 : Array Value} {l : Launch} {n1 : Nat} {sc : Addr} {H0 : Heap} {NF : Nat} (K : KM_LAW X Z a0 l n1 sc H0) (hw : HW a0 Z) (hs0 : hsz X = n1)  {i7 : Int32} {i8 : Int32} {i9 : Int32} {i10 : Int32} {i11 : Int32} {i12 : Int32} {i13 : Int32} {i14 : Int32} {i15 : Int32} {i17 : Int32} {i18 : Int32} {i19 : Int32} {i20 : Int32} {i21 : Int32} {i22 : Int32} {i23 : Int32} {t0 : Int32} {x0 : St} {r : Int32 × List (St × Nat)}  (h : LAW_b267 NF  i7 i8 i9 i10 i11 i12 i13 i14 i15 i17 i18 i19 i20 i21 i22 i23 t0 x0 = some r) : Go X (some (.int r.1), r.2) 267 [none, none, none, none, none, none, none, some (.int i7), some (.int i8), some (.int i9), some (.int i10), some (.int i11), some (.int i12), some (.int i13), some (.int i14), some (.int i15), none, some (.int i17), some (.int i18), some (.int i19), some (.int i20), some (.int i21), some (.int i22), some (.int i23), none, none, none, none] [.int t0] [(x0, 23)] := by
  unfold LAW_b267 at h
  refine g_istore (pc := 267) (L' := [none, none, none, none, none, none, none, some (.int i7), some (.int i8), some (.int i9), some (.int i10), some (.int i11), some (.int i12), some (.int i13), some (.int i14), some (.int i15), none, some (.int i17), some (.int i18), some (.int i19), some (.int i20), some (.int i21), some (.int i22), some (.int i23), some (.int t0), none, none, none]) K.1 at_267 (blt rfl) rfl ?_
  refine g_iload (pc := 269) K.1 at_269 rfl ?_
  rcases ifs h with ⟨hc271, h⟩ | ⟨hc271, h⟩
  · refine g_ifF (pc := 271) K.1 at_271 ((if0 _ _).trans (teq hc271).2) ?_
    refine g_iconst (pc := 274) (v := -1) K.1 at_274 (by decide) ?_
    refine g_goto (pc := 275) (pc' := 288) K.1 at_275 (by decide) ?_
    exact g_less (ok_LAW_b288 K hw hs0  h) (ls (ls (ls (ls (ls (ls (ls (ls (ls (ls (ls (ls (ls (ls (ls (ls (ls (ln (ls (ls (ls (ls (ls (ls (ls (ls (ls (ls l0))))))))))))))))))))))))))))
  refine g_ifT (pc := 271) (pc' := 278) K.1 at_271 (by decide) ((if0 _ _).trans (feq hc271).2) ?_
  refine g_iload (pc := 278) K.1 at_278 rfl ?_
  rcases ifs h with ⟨hc280, h⟩ | ⟨hc280, h⟩
  · refine g_ifT (pc := 280) (pc' := 287) K.1 at_280 (by decide) ((if0 _ _).trans (teq hc280).1) ?_
    refine g_iconst (pc := 287) (v := 0) K.1 at_287 (by decide) ?_
    exact g_less (ok_LAW_b288 K hw hs0  h) (ls (ls (ls (ls (ls (ls (ls (ls (ls (ls (ls (ls (ls (ls (ls (ls (ls (ln (ls (ls (ls (ls (ls (ls (ls (ls (ls (ls l0))))))))))))))))))))))))))))
  refine g_ifF (pc := 280) K.1 at_280 ((if0 _ _).trans (feq hc280).1) ?_
  refine g_iconst (pc := 283) (v := 1) K.1 at_283 (by decide) ?_
  refine g_goto (pc := 284) (pc' := 288) K.1 at_284 (by decide) ?_
  exact g_less (ok_LAW_b288 K hw hs0  h) (ls (ls (ls (ls (ls (ls (ls (ls (ls (ls (ls (ls (ls (ls (ls (ls (ls (ln (ls (ls (ls (ls (ls (ls (ls (ls (ls (ls l0))))))))))))))))))))))))))))
def LAW_b237 (NF : Nat)  (i7 : Int32) (i8 : Int32) (i9 : Int32) (i10 : Int32) (i11 : Int32) (i12 : Int32) (i13 : Int32) (i14 : Int32) (i15 : Int32) (i17 : Int32) (i18 : Int32) (i19 : Int32) (i20 : Int32) (i21 : Int32) (i22 : Int32) (t0 : Int32) (x0 : St) : Option (Int32 × List (St × Nat)) :=
  (if i17 = 0 then LAW_b267 NF i7 i8 i9 i10 i11 i12 i13 i14 i15 i17 i18 i19 i20 i21 i22 t0 (-1 : Int32) x0 else (if i19 = 0 then (if i21 = 0 then LAW_b267 NF i7 i8 i9 i10 i11 i12 i13 i14 i15 i17 i18 i19 i20 i21 i22 t0 (0 : Int32) x0 else LAW_b267 NF i7 i8 i9 i10 i11 i12 i13 i14 i15 i17 i18 i19 i20 i21 i22 t0 (1 : Int32) x0) else LAW_b267 NF i7 i8 i9 i10 i11 i12 i13 i14 i15 i17 i18 i19 i20 i21 i22 t0 (2 : Int32) x0))
theorem ok_LAW_b237 {X : Cx (List (St × Nat))} {Z : State} {a0 : Array Value} {l : Launch} {n1 : Nat} {sc : Addr} {H0 : Heap} {NF : Nat} (K : KM_LAW X Z a0 l n1 sc H0) (hw : HW a0 Z) (hs0 : hsz X = n1)  {i7 : Int32} {i8 : Int32} {i9 : Int32} {i10 : Int32} {i11 : Int32} {i12 : Int32} {i13 : Int32} {i14 : Int32} {i15 : Int32} {i17 : Int32} {i18 : Int32} {i19 : Int32} {i20 : Int32} {i21 : Int32} {i22 : Int32} {t0 : Int32} {x0 : St} {r : Int32 × List (St × Nat)}  (h : LAW_b237 NF  i7 i8 i9 i10 i11 i12 i13 i14 i15 i17 i18 i19 i20 i21 i22 t0 x0 = some r) : Go X (some (.int r.1), r.2) 237 [none, none, none, none, none, none, none, some (.int i7), some (.int i8), some (.int i9), some (.int i10), some (.int i11), some (.int i12), some (.int i13), some (.int i14), some (.int i15), none, some (.int i17), some (.int i18), some (.int i19), some (.int i20), some (.int i21), some (.int i22), none, none, none, none, none] [.int t0] [(x0, 23)] := by
  unfold LAW_b237 at h
  refine g_istore (pc := 237) (L' := [none, none, none, none, none, none, none, some (.int i7), some (.int i8), some (.int i9), some (.int i10), some (.int i11), some (.int i12), some (.int i13), some (.int i14), some (.int i15), none, some (.int i17), some (.int i18), some (.int i19), some (.int i20), some (.int i21), some (.int i22), some (.int t0), none, none, none, none]) K.1 at_237 (blt rfl) rfl ?_
  refine g_iload (pc := 239) K.1 at_239 rfl ?_
  rcases ifs h with ⟨hc241, h⟩ | ⟨hc241, h⟩
  · refine g_ifF (pc := 241) K.1 at_241 ((if0 _ _).trans (teq hc241).2) ?_
    refine g_iconst (pc := 244) (v := -1) K.1 at_244 (by decide) ?_
    refine g_goto (pc := 245) (pc' := 267) K.1 at_245 (by decide) ?_
    exact ok_LAW_b267 K hw hs0  h
  refine g_ifT (pc := 241) (pc' := 248) K.1 at_241 (by decide) ((if0 _ _).trans (feq hc241).2) ?_
  refine g_iload (pc := 248) K.1 at_248 rfl ?_
  rcases ifs h with ⟨hc250, h⟩ | ⟨hc250, h⟩
  · refine g_ifT (pc := 250) (pc' := 257) K.1 at_250 (by decide) ((if0 _ _).trans (teq hc250).1) ?_
    refine g_iload (pc := 257) K.1 at_257 rfl ?_
    rcases ifs h with ⟨hc259, h⟩ | ⟨hc259, h⟩
    · refine g_ifT (pc := 259) (pc' := 266) K.1 at_259 (by decide) ((if0 _ _).trans (teq hc259).1) ?_
      refine g_iconst (pc := 266) (v := 0) K.1 at_266 (by decide) ?_
      exact ok_LAW_b267 K hw hs0  h
    refine g_ifF (pc := 259) K.1 at_259 ((if0 _ _).trans (feq hc259).1) ?_
    refine g_iconst (pc := 262) (v := 1) K.1 at_262 (by decide) ?_
    refine g_goto (pc := 263) (pc' := 267) K.1 at_263 (by decide) ?_
    exact ok_LAW_b267 K hw hs0  h
  refine g_ifF (pc := 250) K.1 at_250 ((if0 _ _).trans (feq hc250).1) ?_
  refine g_iconst (pc := 253) (v := 2) K.1 at_253 (by decide) ?_
  refine g_goto (pc := 254) (pc' := 267) K.1 at_254 (by decide) ?_
  exact ok_LAW_b267 K hw hs0  h
def LAW_b216 (NF : Nat)  (i7 : Int32) (i8 : Int32) (i9 : Int32) (i10 : Int32) (i11 : Int32) (i12 : Int32) (i13 : Int32) (i14 : Int32) (i15 : Int32) (i17 : Int32) (i18 : Int32) (i19 : Int32) (i20 : Int32) (i21 : Int32) (t0 : Int32) (x0 : St) : Option (Int32 × List (St × Nat)) :=
  (if i17 = 0 then LAW_b237 NF i7 i8 i9 i10 i11 i12 i13 i14 i15 i17 i18 i19 i20 i21 t0 (-1 : Int32) x0 else (if i19 = 0 then LAW_b237 NF i7 i8 i9 i10 i11 i12 i13 i14 i15 i17 i18 i19 i20 i21 t0 (0 : Int32) x0 else LAW_b237 NF i7 i8 i9 i10 i11 i12 i13 i14 i15 i17 i18 i19 i20 i21 t0 (1 : Int32) x0))
theorem ok_LAW_b216 {X : Cx (List (St × Nat))} {Z : State} {a0 : Array Value} {l : Launch} {n1 : Nat} {sc : Addr} {H0 : Heap} {NF : Nat} (K : KM_LAW X Z a0 l n1 sc H0) (hw : HW a0 Z) (hs0 : hsz X = n1)  {i7 : Int32} {i8 : Int32} {i9 : Int32} {i10 : Int32} {i11 : Int32} {i12 : Int32} {i13 : Int32} {i14 : Int32} {i15 : Int32} {i17 : Int32} {i18 : Int32} {i19 : Int32} {i20 : Int32} {i21 : Int32} {t0 : Int32} {x0 : St} {r : Int32 × List (St × Nat)}  (h : LAW_b216 NF  i7 i8 i9 i10 i11 i12 i13 i14 i15 i17 i18 i19 i20 i21 t0 x0 = some r) : Go X (some (.int r.1), r.2) 216 [none, none, none, none, none, none, none, some (.int i7), some (.int i8), some (.int i9), some (.int i10), some (.int i11), some (.int i12), some (.int i13), some (.int i14), some (.int i15), none, some (.int i17), some (.int i18), some (.int i19), some (.int i20), some (.int i21), none, none, none, none, none, none] [.int t0] [(x0, 23)] := by
  unfold LAW_b216 at h
  refine g_istore (pc := 216) (L' := [none, none, none, none, none, none, none, some (.int i7), some (.int i8), some (.int i9), some (.int i10), some (.int i11), some (.int i12), some (.int i13), some (.int i14), some (.int i15), none, some (.int i17), some (.int i18), some (.int i19), some (.int i20), some (.int i21), some (.int t0), none, none, none, none, none]) K.1 at_216 (blt rfl) rfl ?_
  refine g_iload (pc := 218) K.1 at_218 rfl ?_
  rcases ifs h with ⟨hc220, h⟩ | ⟨hc220, h⟩
  · refine g_ifF (pc := 220) K.1 at_220 ((if0 _ _).trans (teq hc220).2) ?_
    refine g_iconst (pc := 223) (v := -1) K.1 at_223 (by decide) ?_
    refine g_goto (pc := 224) (pc' := 237) K.1 at_224 (by decide) ?_
    exact ok_LAW_b237 K hw hs0  h
  refine g_ifT (pc := 220) (pc' := 227) K.1 at_220 (by decide) ((if0 _ _).trans (feq hc220).2) ?_
  refine g_iload (pc := 227) K.1 at_227 rfl ?_
  rcases ifs h with ⟨hc229, h⟩ | ⟨hc229, h⟩
  · refine g_ifT (pc := 229) (pc' := 236) K.1 at_229 (by decide) ((if0 _ _).trans (teq hc229).1) ?_
    refine g_iconst (pc := 236) (v := 0) K.1 at_236 (by decide) ?_
    exact ok_LAW_b237 K hw hs0  h
  refine g_ifF (pc := 229) K.1 at_229 ((if0 _ _).trans (feq hc229).1) ?_
  refine g_iconst (pc := 232) (v := 1) K.1 at_232 (by decide) ?_
  refine g_goto (pc := 233) (pc' := 237) K.1 at_233 (by decide) ?_
  exact ok_LAW_b237 K hw hs0  h
def LAW_b195 (NF : Nat)  (i7 : Int32) (i8 : Int32) (i9 : Int32) (i10 : Int32) (i11 : Int32) (i12 : Int32) (i13 : Int32) (i14 : Int32) (i15 : Int32) (i17 : Int32) (i18 : Int32) (i19 : Int32) (i20 : Int32) (t0 : Int32) (x0 : St) : Option (Int32 × List (St × Nat)) :=
  (if i17 = 0 then LAW_b216 NF i7 i8 i9 i10 i11 i12 i13 i14 i15 i17 i18 i19 i20 t0 (-1 : Int32) x0 else (if i19 = 0 then LAW_b216 NF i7 i8 i9 i10 i11 i12 i13 i14 i15 i17 i18 i19 i20 t0 (0 : Int32) x0 else LAW_b216 NF i7 i8 i9 i10 i11 i12 i13 i14 i15 i17 i18 i19 i20 t0 (1 : Int32) x0))
theorem ok_LAW_b195 {X : Cx (List (St × Nat))} {Z : State} {a0 : Array Value} {l : Launch} {n1 : Nat} {sc : Addr} {H0 : Heap} {NF : Nat} (K : KM_LAW X Z a0 l n1 sc H0) (hw : HW a0 Z) (hs0 : hsz X = n1)  {i7 : Int32} {i8 : Int32} {i9 : Int32} {i10 : Int32} {i11 : Int32} {i12 : Int32} {i13 : Int32} {i14 : Int32} {i15 : Int32} {i17 : Int32} {i18 : Int32} {i19 : Int32} {i20 : Int32} {t0 : Int32} {x0 : St} {r : Int32 × List (St × Nat)}  (h : LAW_b195 NF  i7 i8 i9 i10 i11 i12 i13 i14 i15 i17 i18 i19 i20 t0 x0 = some r) : Go X (some (.int r.1), r.2) 195 [none, none, none, none, none, none, none, some (.int i7), some (.int i8), some (.int i9), some (.int i10), some (.int i11), some (.int i12), some (.int i13), some (.int i14), some (.int i15), none, some (.int i17), some (.int i18), some (.int i19), some (.int i20), none, none, none, none, none, none, none] [.int t0] [(x0, 23)] := by
  unfold LAW_b195 at h
  refine g_istore (pc := 195) (L' := [none, none, none, none, none, none, none, some (.int i7), some (.int i8), some (.int i9), some (.int i10), some (.int i11), some (.int i12), some (.int i13), some (.int i14), some (.int i15), none, some (.int i17), some (.int i18), some (.int i19), some (.int i20), some (.int t0), none, none, none, none, none, none]) K.1 at_195 (blt rfl) rfl ?_
  refine g_iload (pc := 197) K.1 at_197 rfl ?_
  rcases ifs h with ⟨hc199, h⟩ | ⟨hc199, h⟩
  · refine g_ifF (pc := 199) K.1 at_199 ((if0 _ _).trans (teq hc199).2) ?_
    refine g_iconst (pc := 202) (v := -1) K.1 at_202 (by decide) ?_
    refine g_goto (pc := 203) (pc' := 216) K.1 at_203 (by decide) ?_
    exact ok_LAW_b216 K hw hs0  h
  refine g_ifT (pc := 199) (pc' := 206) K.1 at_199 (by decide) ((if0 _ _).trans (feq hc199).2) ?_
  refine g_iload (pc := 206) K.1 at_206 rfl ?_
  rcases ifs h with ⟨hc208, h⟩ | ⟨hc208, h⟩
  · refine g_ifT (pc := 208) (pc' := 215) K.1 at_208 (by decide) ((if0 _ _).trans (teq hc208).1) ?_
    refine g_iconst (pc := 215) (v := 0) K.1 at_215 (by decide) ?_
    exact ok_LAW_b216 K hw hs0  h
  refine g_ifF (pc := 208) K.1 at_208 ((if0 _ _).trans (feq hc208).1) ?_
  refine g_iconst (pc := 211) (v := 1) K.1 at_211 (by decide) ?_
  refine g_goto (pc := 212) (pc' := 216) K.1 at_212 (by decide) ?_
  exact ok_LAW_b216 K hw hs0  h
def LAW_b194 (NF : Nat)  (i7 : Int32) (i8 : Int32) (i9 : Int32) (i10 : Int32) (i11 : Int32) (i12 : Int32) (i13 : Int32) (i14 : Int32) (i15 : Int32) (i17 : Int32) (i18 : Int32) (i19 : Int32) (i20 : Int32) (x0 : St) : Option (Int32 × List (St × Nat)) :=
  LAW_b195 NF i7 i8 i9 i10 i11 i12 i13 i14 i15 i17 i18 i19 i20 (0 : Int32) x0
theorem ok_LAW_b194 {X : Cx (List (St × Nat))} {Z : State} {a0 : Array Value} {l : Launch} {n1 : Nat} {sc : Addr} {H0 : Heap} {NF : Nat} (K : KM_LAW X Z a0 l n1 sc H0) (hw : HW a0 Z) (hs0 : hsz X = n1)  {i7 : Int32} {i8 : Int32} {i9 : Int32} {i10 : Int32} {i11 : Int32} {i12 : Int32} {i13 : Int32} {i14 : Int32} {i15 : Int32} {i17 : Int32} {i18 : Int32} {i19 : Int32} {i20 : Int32} {x0 : St} {r : Int32 × List (St × Nat)}  (h : LAW_b194 NF  i7 i8 i9 i10 i11 i12 i13 i14 i15 i17 i18 i19 i20 x0 = some r) : Go X (some (.int r.1), r.2) 194 [none, none, none, none, none, none, none, some (.int i7), some (.int i8), some (.int i9), some (.int i10), some (.int i11), some (.int i12), some (.int i13), some (.int i14), some (.int i15), none, some (.int i17), some (.int i18), some (.int i19), some (.int i20), none, none, none, none, none, none, none] [] [(x0, 23)] := by
  unfold LAW_b194 at h
  refine g_iconst (pc := 194) (v := 0) K.1 at_194 (by decide) ?_
  exact ok_LAW_b195 K hw hs0  h
def LAW_b177 (NF : Nat)  (i7 : Int32) (i8 : Int32) (i9 : Int32) (i10 : Int32) (i11 : Int32) (i12 : Int32) (i13 : Int32) (i14 : Int32) (i15 : Int32) (i17 : Int32) (i18 : Int32) (i19 : Int32) (t0 : Int32) (x0 : St) : Option (Int32 × List (St × Nat)) :=
  (if i19 = 0 then (if t0 = (1 : Int32) then LAW_b195 NF i7 i8 i9 i10 i11 i12 i13 i14 i15 i17 i18 i19 t0 (1 : Int32) x0 else LAW_b194 NF i7 i8 i9 i10 i11 i12 i13 i14 i15 i17 i18 i19 t0 x0) else LAW_b194 NF i7 i8 i9 i10 i11 i12 i13 i14 i15 i17 i18 i19 t0 x0)
theorem ok_LAW_b177 {X : Cx (List (St × Nat))} {Z : State} {a0 : Array Value} {l : Launch} {n1 : Nat} {sc : Addr} {H0 : Heap} {NF : Nat} (K : KM_LAW X Z a0 l n1 sc H0) (hw : HW a0 Z) (hs0 : hsz X = n1)  {i7 : Int32} {i8 : Int32} {i9 : Int32} {i10 : Int32} {i11 : Int32} {i12 : Int32} {i13 : Int32} {i14 : Int32} {i15 : Int32} {i17 : Int32} {i18 : Int32} {i19 : Int32} {t0 : Int32} {x0 : St} {r : Int32 × List (St × Nat)}  (h : LAW_b177 NF  i7 i8 i9 i10 i11 i12 i13 i14 i15 i17 i18 i19 t0 x0 = some r) : Go X (some (.int r.1), r.2) 177 [none, none, none, none, none, none, none, some (.int i7), some (.int i8), some (.int i9), some (.int i10), some (.int i11), some (.int i12), some (.int i13), some (.int i14), some (.int i15), none, some (.int i17), some (.int i18), some (.int i19), none, none, none, none, none, none, none, none] [.int t0] [(x0, 23)] := by
  unfold LAW_b177 at h
  refine g_istore (pc := 177) (L' := [none, none, none, none, none, none, none, some (.int i7), some (.int i8), some (.int i9), some (.int i10), some (.int i11), some (.int i12), some (.int i13), some (.int i14), some (.int i15), none, some (.int i17), some (.int i18), some (.int i19), some (.int t0), none, none, none, none, none, none, none]) K.1 at_177 (blt rfl) rfl ?_
  refine g_iload (pc := 179) K.1 at_179 rfl ?_
  rcases ifs h with ⟨hc181, h⟩ | ⟨hc181, h⟩
  · refine g_ifF (pc := 181) K.1 at_181 ((if0 _ _).trans (teq hc181).2) ?_
    refine g_iload (pc := 184) K.1 at_184 rfl ?_
    refine g_iconst (pc := 186) (v := 1) K.1 at_186 (by decide) ?_
    rcases ifs h with ⟨hc187, h⟩ | ⟨hc187, h⟩
    · refine g_icF (pc := 187) K.1 at_187 ((teq hc187).2) ?_
      refine g_iconst (pc := 190) (v := 1) K.1 at_190 (by decide) ?_
      refine g_goto (pc := 191) (pc' := 195) K.1 at_191 (by decide) ?_
      exact ok_LAW_b195 K hw hs0  h
    refine g_icT (pc := 187) (pc' := 194) K.1 at_187 (by decide) ((feq hc187).2) ?_
    exact ok_LAW_b194 K hw hs0  h
  refine g_ifT (pc := 181) (pc' := 194) K.1 at_181 (by decide) ((if0 _ _).trans (feq hc181).2) ?_
  exact ok_LAW_b194 K hw hs0  h
def LAW_b147 (NF : Nat)  (i4 : Int32) (i5 : Int32) (i7 : Int32) (i8 : Int32) (i9 : Int32) (i10 : Int32) (i11 : Int32) (i12 : Int32) (i13 : Int32) (i14 : Int32) (i15 : Int32) (i17 : Int32) (i18 : Int32) (t0 : Int32) (x0 : St) : Option (Int32 × List (St × Nat)) :=
  (if i17 = 0 then LAW_b177 NF i7 i8 i9 i10 i11 i12 i13 i14 i15 i17 i18 t0 (-1 : Int32) x0 else (if t0 = 0 then ((H_fresh i17 i4 i5).bind fun q174 => LAW_b177 NF i7 i8 i9 i10 i11 i12 i13 i14 i15 i17 i18 t0 q174 x0) else LAW_b177 NF i7 i8 i9 i10 i11 i12 i13 i14 i15 i17 i18 t0 (-2 : Int32) x0))
theorem ok_LAW_b147 {X : Cx (List (St × Nat))} {Z : State} {a0 : Array Value} {l : Launch} {n1 : Nat} {sc : Addr} {H0 : Heap} {NF : Nat} (K : KM_LAW X Z a0 l n1 sc H0) (hw : HW a0 Z) (hs0 : hsz X = n1)  {i4 : Int32} {i5 : Int32} {i7 : Int32} {i8 : Int32} {i9 : Int32} {i10 : Int32} {i11 : Int32} {i12 : Int32} {i13 : Int32} {i14 : Int32} {i15 : Int32} {i17 : Int32} {i18 : Int32} {t0 : Int32} {x0 : St} {r : Int32 × List (St × Nat)}  (h : LAW_b147 NF  i4 i5 i7 i8 i9 i10 i11 i12 i13 i14 i15 i17 i18 t0 x0 = some r) : Go X (some (.int r.1), r.2) 147 [none, none, none, none, some (.int i4), some (.int i5), none, some (.int i7), some (.int i8), some (.int i9), some (.int i10), some (.int i11), some (.int i12), some (.int i13), some (.int i14), some (.int i15), none, some (.int i17), some (.int i18), none, none, none, none, none, none, none, none, none] [.int t0] [(x0, 23)] := by
  unfold LAW_b147 at h
  refine g_istore (pc := 147) (L' := [none, none, none, none, some (.int i4), some (.int i5), none, some (.int i7), some (.int i8), some (.int i9), some (.int i10), some (.int i11), some (.int i12), some (.int i13), some (.int i14), some (.int i15), none, some (.int i17), some (.int i18), some (.int t0), none, none, none, none, none, none, none, none]) K.1 at_147 (blt rfl) rfl ?_
  refine g_iload (pc := 149) K.1 at_149 rfl ?_
  rcases ifs h with ⟨hc151, h⟩ | ⟨hc151, h⟩
  · refine g_ifF (pc := 151) K.1 at_151 ((if0 _ _).trans (teq hc151).2) ?_
    refine g_iconst (pc := 154) (v := -1) K.1 at_154 (by decide) ?_
    refine g_goto (pc := 155) (pc' := 177) K.1 at_155 (by decide) ?_
    exact g_less (ok_LAW_b177 K hw hs0  h) (ls (ls (ls (ls (ln (ln (ls (ls (ls (ls (ls (ls (ls (ls (ls (ls (ls (ls (ls (ls (ls (ls (ls (ls (ls (ls (ls (ls l0))))))))))))))))))))))))))))
  refine g_ifT (pc := 151) (pc' := 158) K.1 at_151 (by decide) ((if0 _ _).trans (feq hc151).2) ?_
  refine g_iload (pc := 158) K.1 at_158 rfl ?_
  rcases ifs h with ⟨hc160, h⟩ | ⟨hc160, h⟩
  · refine g_ifT (pc := 160) (pc' := 168) K.1 at_160 (by decide) ((if0 _ _).trans (teq hc160).1) ?_
    refine g_iload (pc := 168) K.1 at_168 rfl ?_
    refine g_iload (pc := 170) K.1 at_170 rfl ?_
    refine g_iload (pc := 172) K.1 at_172 rfl ?_
    obtain ⟨q174, hq174, h⟩ := Option.bind_eq_some_iff.mp h
    refine l_static (pc := 174) (vs := [.int i17, .int i4, .int i5]) (W' := [(x0, 23)]) K at_174 (w156 hw) (w157 hw) (w158 hw) (w159 hw) hyL pd_0 rfl rfl (con_H_fresh l Z a0 hw n1 sc H0 (ctxl_sz K) hq174) rfl (by decide) (by decide) rfl rfl (ceL_eq rfl) (capJ1 cj_23 rfl) (capJ2 cj_23 rfl) ?_
    exact g_less (ok_LAW_b177 K hw hs0  h) (ls (ls (ls (ls (ln (ln (ls (ls (ls (ls (ls (ls (ls (ls (ls (ls (ls (ls (ls (ls (ls (ls (ls (ls (ls (ls (ls (ls l0))))))))))))))))))))))))))))
  refine g_ifF (pc := 160) K.1 at_160 ((if0 _ _).trans (feq hc160).1) ?_
  refine g_bipush (pc := 163) (v := -2) K.1 at_163 (by decide) ?_
  refine g_goto (pc := 165) (pc' := 177) K.1 at_165 (by decide) ?_
  exact g_less (ok_LAW_b177 K hw hs0  h) (ls (ls (ls (ls (ln (ln (ls (ls (ls (ls (ls (ls (ls (ls (ls (ls (ls (ls (ls (ls (ls (ls (ls (ls (ls (ls (ls (ls l0))))))))))))))))))))))))))))
def LAW_b125 (NF : Nat)  (i2 : Int32) (i3 : Int32) (i4 : Int32) (i5 : Int32) (i7 : Int32) (i8 : Int32) (i9 : Int32) (i10 : Int32) (i11 : Int32) (i12 : Int32) (i13 : Int32) (i14 : Int32) (i15 : Int32) (t0 : Int32) (x0 : St) : Option (Int32 × List (St × Nat)) :=
  ((H_fresh t0 i2 i3).bind fun q131 => (if q131 = (1 : Int32) then LAW_b147 NF i4 i5 i7 i8 i9 i10 i11 i12 i13 i14 i15 t0 q131 (1 : Int32) x0 else LAW_b147 NF i4 i5 i7 i8 i9 i10 i11 i12 i13 i14 i15 t0 q131 (0 : Int32) x0))
theorem ok_LAW_b125 {X : Cx (List (St × Nat))} {Z : State} {a0 : Array Value} {l : Launch} {n1 : Nat} {sc : Addr} {H0 : Heap} {NF : Nat} (K : KM_LAW X Z a0 l n1 sc H0) (hw : HW a0 Z) (hs0 : hsz X = n1)  {i2 : Int32} {i3 : Int32} {i4 : Int32} {i5 : Int32} {i7 : Int32} {i8 : Int32} {i9 : Int32} {i10 : Int32} {i11 : Int32} {i12 : Int32} {i13 : Int32} {i14 : Int32} {i15 : Int32} {t0 : Int32} {x0 : St} {r : Int32 × List (St × Nat)}  (h : LAW_b125 NF  i2 i3 i4 i5 i7 i8 i9 i10 i11 i12 i13 i14 i15 t0 x0 = some r) : Go X (some (.int r.1), r.2) 125 [none, none, some (.int i2), some (.int i3), some (.int i4), some (.int i5), none, some (.int i7), some (.int i8), some (.int i9), some (.int i10), some (.int i11), some (.int i12), some (.int i13), some (.int i14), some (.int i15), none, none, none, none, none, none, none, none, none, none, none, none] [.int t0] [(x0, 23)] := by
  unfold LAW_b125 at h
  refine g_istore (pc := 125) (L' := [none, none, some (.int i2), some (.int i3), some (.int i4), some (.int i5), none, some (.int i7), some (.int i8), some (.int i9), some (.int i10), some (.int i11), some (.int i12), some (.int i13), some (.int i14), some (.int i15), none, some (.int t0), none, none, none, none, none, none, none, none, none, none]) K.1 at_125 (blt rfl) rfl ?_
  refine g_iload (pc := 127) K.1 at_127 rfl ?_
  refine g_iloadN (pc := 129) K.1 at_129 rfl ?_
  refine g_iloadN (pc := 130) K.1 at_130 rfl ?_
  obtain ⟨q131, hq131, h⟩ := Option.bind_eq_some_iff.mp h
  refine l_static (pc := 131) (vs := [.int t0, .int i2, .int i3]) (W' := [(x0, 23)]) K at_131 (w156 hw) (w157 hw) (w158 hw) (w159 hw) hyL pd_0 rfl rfl (con_H_fresh l Z a0 hw n1 sc H0 (ctxl_sz K) hq131) rfl (by decide) (by decide) rfl rfl (ceL_eq rfl) (capJ1 cj_23 rfl) (capJ2 cj_23 rfl) ?_
  refine g_istore (pc := 134) (L' := [none, none, some (.int i2), some (.int i3), some (.int i4), some (.int i5), none, some (.int i7), some (.int i8), some (.int i9), some (.int i10), some (.int i11), some (.int i12), some (.int i13), some (.int i14), some (.int i15), none, some (.int t0), some (.int q131), none, none, none, none, none, none, none, none, none]) K.1 at_134 (blt rfl) rfl ?_
  refine g_iload (pc := 136) K.1 at_136 rfl ?_
  refine g_iconst (pc := 138) (v := 1) K.1 at_138 (by decide) ?_
  rcases ifs h with ⟨hc139, h⟩ | ⟨hc139, h⟩
  · refine g_icF (pc := 139) K.1 at_139 ((teq hc139).2) ?_
    refine g_iconst (pc := 142) (v := 1) K.1 at_142 (by decide) ?_
    refine g_goto (pc := 143) (pc' := 147) K.1 at_143 (by decide) ?_
    exact g_less (ok_LAW_b147 K hw hs0  h) (ls (ls (ln (ln (ls (ls (ls (ls (ls (ls (ls (ls (ls (ls (ls (ls (ls (ls (ls (ls (ls (ls (ls (ls (ls (ls (ls (ls l0))))))))))))))))))))))))))))
  refine g_icT (pc := 139) (pc' := 146) K.1 at_139 (by decide) ((feq hc139).2) ?_
  refine g_iconst (pc := 146) (v := 0) K.1 at_146 (by decide) ?_
  exact g_less (ok_LAW_b147 K hw hs0  h) (ls (ls (ln (ln (ls (ls (ls (ls (ls (ls (ls (ls (ls (ls (ls (ls (ls (ls (ls (ls (ls (ls (ls (ls (ls (ls (ls (ls l0))))))))))))))))))))))))))))
def LAW_b124 (NF : Nat)  (i2 : Int32) (i3 : Int32) (i4 : Int32) (i5 : Int32) (i7 : Int32) (i8 : Int32) (i9 : Int32) (i10 : Int32) (i11 : Int32) (i12 : Int32) (i13 : Int32) (i14 : Int32) (i15 : Int32) (x0 : St) : Option (Int32 × List (St × Nat)) :=
  LAW_b125 NF i2 i3 i4 i5 i7 i8 i9 i10 i11 i12 i13 i14 i15 (0 : Int32) x0
theorem ok_LAW_b124 {X : Cx (List (St × Nat))} {Z : State} {a0 : Array Value} {l : Launch} {n1 : Nat} {sc : Addr} {H0 : Heap} {NF : Nat} (K : KM_LAW X Z a0 l n1 sc H0) (hw : HW a0 Z) (hs0 : hsz X = n1)  {i2 : Int32} {i3 : Int32} {i4 : Int32} {i5 : Int32} {i7 : Int32} {i8 : Int32} {i9 : Int32} {i10 : Int32} {i11 : Int32} {i12 : Int32} {i13 : Int32} {i14 : Int32} {i15 : Int32} {x0 : St} {r : Int32 × List (St × Nat)}  (h : LAW_b124 NF  i2 i3 i4 i5 i7 i8 i9 i10 i11 i12 i13 i14 i15 x0 = some r) : Go X (some (.int r.1), r.2) 124 [none, none, some (.int i2), some (.int i3), some (.int i4), some (.int i5), none, some (.int i7), some (.int i8), some (.int i9), some (.int i10), some (.int i11), some (.int i12), some (.int i13), some (.int i14), some (.int i15), none, none, none, none, none, none, none, none, none, none, none, none] [] [(x0, 23)] := by
  unfold LAW_b124 at h
  refine g_iconst (pc := 124) (v := 0) K.1 at_124 (by decide) ?_
  exact ok_LAW_b125 K hw hs0  h
def LAW_b108 (NF : Nat)  (i1 : Int32) (i2 : Int32) (i3 : Int32) (i4 : Int32) (i5 : Int32) (i7 : Int32) (i8 : Int32) (i9 : Int32) (i10 : Int32) (i11 : Int32) (i12 : Int32) (i13 : Int32) (i14 : Int32) (i15 : Int32) (t0 : Int32) (x0 : St) : Option (Int32 × List (St × Nat)) :=
  (if i1 < 0 then LAW_b124 NF i2 i3 i4 i5 i7 i8 i9 i10 i11 i12 i13 i14 i15 x0 else (if i1 < t0 then LAW_b125 NF i2 i3 i4 i5 i7 i8 i9 i10 i11 i12 i13 i14 i15 (1 : Int32) x0 else LAW_b124 NF i2 i3 i4 i5 i7 i8 i9 i10 i11 i12 i13 i14 i15 x0))
theorem ok_LAW_b108 {X : Cx (List (St × Nat))} {Z : State} {a0 : Array Value} {l : Launch} {n1 : Nat} {sc : Addr} {H0 : Heap} {NF : Nat} (K : KM_LAW X Z a0 l n1 sc H0) (hw : HW a0 Z) (hs0 : hsz X = n1)  {i1 : Int32} {i2 : Int32} {i3 : Int32} {i4 : Int32} {i5 : Int32} {i7 : Int32} {i8 : Int32} {i9 : Int32} {i10 : Int32} {i11 : Int32} {i12 : Int32} {i13 : Int32} {i14 : Int32} {i15 : Int32} {t0 : Int32} {x0 : St} {r : Int32 × List (St × Nat)}  (h : LAW_b108 NF  i1 i2 i3 i4 i5 i7 i8 i9 i10 i11 i12 i13 i14 i15 t0 x0 = some r) : Go X (some (.int r.1), r.2) 108 [none, some (.int i1), some (.int i2), some (.int i3), some (.int i4), some (.int i5), none, some (.int i7), some (.int i8), some (.int i9), some (.int i10), some (.int i11), some (.int i12), some (.int i13), some (.int i14), some (.int i15), none, none, none, none, none, none, none, none, none, none, none, none] [.int t0] [(x0, 23)] := by
  unfold LAW_b108 at h
  refine g_istore (pc := 108) (L' := [none, some (.int i1), some (.int i2), some (.int i3), some (.int i4), some (.int i5), none, some (.int i7), some (.int i8), some (.int i9), some (.int i10), some (.int i11), some (.int i12), some (.int i13), some (.int i14), some (.int i15), some (.int t0), none, none, none, none, none, none, none, none, none, none, none]) K.1 at_108 (blt rfl) rfl ?_
  refine g_iloadN (pc := 110) K.1 at_110 rfl ?_
  rcases ifs h with ⟨hc111, h⟩ | ⟨hc111, h⟩
  · refine g_ifT (pc := 111) (pc' := 124) K.1 at_111 (by decide) ((if0 _ _).trans (tlt hc111).1) ?_
    exact g_less (ok_LAW_b124 K hw hs0  h) (ls (ln (ls (ls (ls (ls (ls (ls (ls (ls (ls (ls (ls (ls (ls (ls (ln (ls (ls (ls (ls (ls (ls (ls (ls (ls (ls (ls l0))))))))))))))))))))))))))))
  refine g_ifF (pc := 111) K.1 at_111 ((if0 _ _).trans (flt hc111).1) ?_
  refine g_iloadN (pc := 114) K.1 at_114 rfl ?_
  refine g_iload (pc := 115) K.1 at_115 rfl ?_
  rcases ifs h with ⟨hc117, h⟩ | ⟨hc117, h⟩
  · refine g_icF (pc := 117) K.1 at_117 ((tlt hc117).2.1) ?_
    refine g_iconst (pc := 120) (v := 1) K.1 at_120 (by decide) ?_
    refine g_goto (pc := 121) (pc' := 125) K.1 at_121 (by decide) ?_
    exact g_less (ok_LAW_b125 K hw hs0  h) (ls (ln (ls (ls (ls (ls (ls (ls (ls (ls (ls (ls (ls (ls (ls (ls (ln (ls (ls (ls (ls (ls (ls (ls (ls (ls (ls (ls l0))))))))))))))))))))))))))))
  refine g_icT (pc := 117) (pc' := 124) K.1 at_117 (by decide) ((flt hc117).2.1) ?_
  exact g_less (ok_LAW_b124 K hw hs0  h) (ls (ln (ls (ls (ls (ls (ls (ls (ls (ls (ls (ls (ls (ls (ls (ls (ln (ls (ls (ls (ls (ls (ls (ls (ls (ls (ls (ls l0))))))))))))))))))))))))))))
def LAW (NF : Nat) (v0 : Int32) (v1 : Int32) (v2 : Int32) (v3 : Int32) (v4 : Int32) (v5 : Int32) : Option (Int32 × List (St × Nat)) :=
  ((M_init NF v0 (2 : Int32)).bind fun q6 => ((M_invoke NF q6 v1 v2 v3).bind fun q16 => ((M_step q16.2 v1).bind fun q24 => ((M_invoke NF q24.2 v1 v4 v5).bind fun q36 => ((M_announcedId q36.2 v1).bind fun q44 => ((M_phase q44.2 v1).bind fun q52 => ((M_ownSteps q52.2 v1).bind fun q60 => ((M_operationCount q60.2).bind fun q67 => ((M_tail q67.2).bind fun q74 => ((M_statusOf q74.2 (1 : Int32)).bind fun q82 => (if v0 < (2 : Int32) then LAW_b108 NF v1 v2 v3 v4 v5 q16.1 q24.1 q36.1 q44.1 q52.1 q60.1 q67.1 q74.1 q82.1 (2 : Int32) q82.2 else (if (6 : Int32) < v0 then LAW_b108 NF v1 v2 v3 v4 v5 q16.1 q24.1 q36.1 q44.1 q52.1 q60.1 q67.1 q74.1 q82.1 (6 : Int32) q82.2 else LAW_b108 NF v1 v2 v3 v4 v5 q16.1 q24.1 q36.1 q44.1 q52.1 q60.1 q67.1 q74.1 q82.1 v0 q82.2))))))))))))
theorem ok_LAW {X : Cx (List (St × Nat))} {Z : State} {a0 : Array Value} {l : Launch} {n1 : Nat} {sc : Addr} {H0 : Heap} {NF : Nat} (K : KM_LAW X Z a0 l n1 sc H0) (hw : HW a0 Z) (hs0 : hsz X = n1) {v0 : Int32} {v1 : Int32} {v2 : Int32} {v3 : Int32} {v4 : Int32} {v5 : Int32} {r : Int32 × List (St × Nat)} (h : LAW NF v0 v1 v2 v3 v4 v5 = some r) : Go X (some (.int r.1), r.2) 0 [some (.int v0), some (.int v1), some (.int v2), some (.int v3), some (.int v4), some (.int v5), none, none, none, none, none, none, none, none, none, none, none, none, none, none, none, none, none, none, none, none, none, none] [] [] := by
  unfold LAW at h
  refine l_new (pc := 0) (i := 0) K at_0 (w0 hw) rfl (by decide) hs0 ceI_0 (capN1 cn_ rfl) (capN2 cn_ rfl) rfl ?_
  refine g_dup (pc := 3) K.1 at_3 rfl ?_
  refine g_iloadN (pc := 4) K.1 at_4 rfl ?_
  refine g_iconst (pc := 5) (v := 2) K.1 at_5 (by decide) ?_
  obtain ⟨q6, hq6, h⟩ := Option.bind_eq_some_iff.mp h
  refine l_init (pc := 6) (vs := [.int v0, .int (2 : Int32)]) (i := 0) (W0 := []) (W' := [(q6, 23)]) K at_6 (w3 hw) (w4 hw) (w5 hw) hyC pd_10 (by intro v q; simp only [List.mem_cons, List.not_mem_nil, or_false] at q; rcases q with rfl | rfl <;> rfl) rfl rfl rfl rfl (by decide) rfl rfl (con_M_init l Z a0 hw n1 _ (Nat.le_add_right _ _) hq6) rfl (by decide) (by decide) rfl ceI_nA ceI_0 (capJ1 cj_23 rfl) (capJ2 cj_23 rfl) ?_
  refine g_astore (pc := 9) (L' := [some (.int v0), some (.int v1), some (.int v2), some (.int v3), some (.int v4), some (.int v5), some (.ref 0), none, none, none, none, none, none, none, none, none, none, none, none, none, none, none, none, none, none, none, none, none]) K.1 at_9 (blt rfl) rfl ?_
  refine g_aload (pc := 11) K.1 at_11 rfl ?_
  refine g_iloadN (pc := 13) K.1 at_13 rfl ?_
  refine g_iloadN (pc := 14) K.1 at_14 rfl ?_
  refine g_iloadN (pc := 15) K.1 at_15 rfl ?_
  obtain ⟨q16, hq16, h⟩ := Option.bind_eq_some_iff.mp h
  refine l_call (pc := 16) (vs := [.int v1, .int v2, .int v3]) (i := 0) (W' := [(q16.2, 23)]) K at_16 (w108 hw) (w110 hw) (w109 hw) (w111 hw) (w112 hw) hyC pd_4 (by intro v q; simp only [List.mem_cons, List.not_mem_nil, or_false] at q; rcases q with rfl | rfl | rfl <;> rfl) (by decide) rfl rfl (fun _ q => by cases q; rfl) rfl rfl (con_M_invoke l Z a0 hw n1 _ (Nat.le_add_right _ _) hq16) rfl (by decide) (by decide) rfl rfl (ceL_eq rfl) (capJ1 cj_23 rfl) (capJ2 cj_23 rfl) ?_
  refine g_istore (pc := 19) (L' := [some (.int v0), some (.int v1), some (.int v2), some (.int v3), some (.int v4), some (.int v5), some (.ref 0), some (.int q16.1), none, none, none, none, none, none, none, none, none, none, none, none, none, none, none, none, none, none, none, none]) K.1 at_19 (blt rfl) rfl ?_
  refine g_aload (pc := 21) K.1 at_21 rfl ?_
  refine g_iloadN (pc := 23) K.1 at_23 rfl ?_
  obtain ⟨q24, hq24, h⟩ := Option.bind_eq_some_iff.mp h
  refine l_call (pc := 24) (vs := [.int v1]) (i := 0) (W' := [(q24.2, 23)]) K at_24 (w117 hw) (w119 hw) (w118 hw) (w120 hw) (w121 hw) hyC pd_7 (by intro v q; simp only [List.mem_cons, List.not_mem_nil, or_false] at q; subst q <;> rfl) (by decide) rfl rfl (fun _ q => by cases q; rfl) rfl rfl (con_M_step l Z a0 hw n1 _ (Nat.le_add_right _ _) hq24) rfl (by decide) (by decide) rfl rfl (ceL_eq rfl) (capJ1 cj_23 rfl) (capJ2 cj_23 rfl) ?_
  refine g_istore (pc := 27) (L' := [some (.int v0), some (.int v1), some (.int v2), some (.int v3), some (.int v4), some (.int v5), some (.ref 0), some (.int q16.1), some (.int q24.1), none, none, none, none, none, none, none, none, none, none, none, none, none, none, none, none, none, none, none]) K.1 at_27 (blt rfl) rfl ?_
  refine g_aload (pc := 29) K.1 at_29 rfl ?_
  refine g_iloadN (pc := 31) K.1 at_31 rfl ?_
  refine g_iload (pc := 32) K.1 at_32 rfl ?_
  refine g_iload (pc := 34) K.1 at_34 rfl ?_
  obtain ⟨q36, hq36, h⟩ := Option.bind_eq_some_iff.mp h
  refine l_call (pc := 36) (vs := [.int v1, .int v4, .int v5]) (i := 0) (W' := [(q36.2, 23)]) K at_36 (w108 hw) (w110 hw) (w109 hw) (w111 hw) (w112 hw) hyC pd_4 (by intro v q; simp only [List.mem_cons, List.not_mem_nil, or_false] at q; rcases q with rfl | rfl | rfl <;> rfl) (by decide) rfl rfl (fun _ q => by cases q; rfl) rfl rfl (con_M_invoke l Z a0 hw n1 _ (Nat.le_add_right _ _) hq36) rfl (by decide) (by decide) rfl rfl (ceL_eq rfl) (capJ1 cj_23 rfl) (capJ2 cj_23 rfl) ?_
  refine g_istore (pc := 39) (L' := [some (.int v0), some (.int v1), some (.int v2), some (.int v3), some (.int v4), some (.int v5), some (.ref 0), some (.int q16.1), some (.int q24.1), some (.int q36.1), none, none, none, none, none, none, none, none, none, none, none, none, none, none, none, none, none, none]) K.1 at_39 (blt rfl) rfl ?_
  refine g_aload (pc := 41) K.1 at_41 rfl ?_
  refine g_iloadN (pc := 43) K.1 at_43 rfl ?_
  obtain ⟨q44, hq44, h⟩ := Option.bind_eq_some_iff.mp h
  refine l_call (pc := 44) (vs := [.int v1]) (i := 0) (W' := [(q44.2, 23)]) K at_44 (w122 hw) (w124 hw) (w123 hw) (w125 hw) (w126 hw) hyC pd_7 (by intro v q; simp only [List.mem_cons, List.not_mem_nil, or_false] at q; subst q <;> rfl) (by decide) rfl rfl (fun _ q => by cases q; rfl) rfl rfl (con_M_announcedId l Z a0 hw n1 _ (Nat.le_add_right _ _) hq44) rfl (by decide) (by decide) rfl rfl (ceL_eq rfl) (capJ1 cj_23 rfl) (capJ2 cj_23 rfl) ?_
  refine g_istore (pc := 47) (L' := [some (.int v0), some (.int v1), some (.int v2), some (.int v3), some (.int v4), some (.int v5), some (.ref 0), some (.int q16.1), some (.int q24.1), some (.int q36.1), some (.int q44.1), none, none, none, none, none, none, none, none, none, none, none, none, none, none, none, none, none]) K.1 at_47 (blt rfl) rfl ?_
  refine g_aload (pc := 49) K.1 at_49 rfl ?_
  refine g_iloadN (pc := 51) K.1 at_51 rfl ?_
  obtain ⟨q52, hq52, h⟩ := Option.bind_eq_some_iff.mp h
  refine l_call (pc := 52) (vs := [.int v1]) (i := 0) (W' := [(q52.2, 23)]) K at_52 (w127 hw) (w129 hw) (w128 hw) (w130 hw) (w131 hw) hyC pd_7 (by intro v q; simp only [List.mem_cons, List.not_mem_nil, or_false] at q; subst q <;> rfl) (by decide) rfl rfl (fun _ q => by cases q; rfl) rfl rfl (con_M_phase l Z a0 hw n1 _ (Nat.le_add_right _ _) hq52) rfl (by decide) (by decide) rfl rfl (ceL_eq rfl) (capJ1 cj_23 rfl) (capJ2 cj_23 rfl) ?_
  refine g_istore (pc := 55) (L' := [some (.int v0), some (.int v1), some (.int v2), some (.int v3), some (.int v4), some (.int v5), some (.ref 0), some (.int q16.1), some (.int q24.1), some (.int q36.1), some (.int q44.1), some (.int q52.1), none, none, none, none, none, none, none, none, none, none, none, none, none, none, none, none]) K.1 at_55 (blt rfl) rfl ?_
  refine g_aload (pc := 57) K.1 at_57 rfl ?_
  refine g_iloadN (pc := 59) K.1 at_59 rfl ?_
  obtain ⟨q60, hq60, h⟩ := Option.bind_eq_some_iff.mp h
  refine l_call (pc := 60) (vs := [.int v1]) (i := 0) (W' := [(q60.2, 23)]) K at_60 (w132 hw) (w134 hw) (w133 hw) (w135 hw) (w136 hw) hyC pd_7 (by intro v q; simp only [List.mem_cons, List.not_mem_nil, or_false] at q; subst q <;> rfl) (by decide) rfl rfl (fun _ q => by cases q; rfl) rfl rfl (con_M_ownSteps l Z a0 hw n1 _ (Nat.le_add_right _ _) hq60) rfl (by decide) (by decide) rfl rfl (ceL_eq rfl) (capJ1 cj_23 rfl) (capJ2 cj_23 rfl) ?_
  refine g_istore (pc := 63) (L' := [some (.int v0), some (.int v1), some (.int v2), some (.int v3), some (.int v4), some (.int v5), some (.ref 0), some (.int q16.1), some (.int q24.1), some (.int q36.1), some (.int q44.1), some (.int q52.1), some (.int q60.1), none, none, none, none, none, none, none, none, none, none, none, none, none, none, none]) K.1 at_63 (blt rfl) rfl ?_
  refine g_aload (pc := 65) K.1 at_65 rfl ?_
  obtain ⟨q67, hq67, h⟩ := Option.bind_eq_some_iff.mp h
  refine l_call (pc := 67) (vs := []) (i := 0) (W' := [(q67.2, 23)]) K at_67 (w137 hw) (w139 hw) (w138 hw) (w140 hw) (w141 hw) hyC pd_9 (fun _ q => by cases q) (by decide) rfl rfl (fun _ q => by cases q; rfl) rfl rfl (con_M_operationCount l Z a0 hw n1 _ (Nat.le_add_right _ _) hq67) rfl (by decide) (by decide) rfl rfl (ceL_eq rfl) (capJ1 cj_23 rfl) (capJ2 cj_23 rfl) ?_
  refine g_istore (pc := 70) (L' := [some (.int v0), some (.int v1), some (.int v2), some (.int v3), some (.int v4), some (.int v5), some (.ref 0), some (.int q16.1), some (.int q24.1), some (.int q36.1), some (.int q44.1), some (.int q52.1), some (.int q60.1), some (.int q67.1), none, none, none, none, none, none, none, none, none, none, none, none, none, none]) K.1 at_70 (blt rfl) rfl ?_
  refine g_aload (pc := 72) K.1 at_72 rfl ?_
  obtain ⟨q74, hq74, h⟩ := Option.bind_eq_some_iff.mp h
  refine l_call (pc := 74) (vs := []) (i := 0) (W' := [(q74.2, 23)]) K at_74 (w142 hw) (w144 hw) (w143 hw) (w145 hw) (w146 hw) hyC pd_9 (fun _ q => by cases q) (by decide) rfl rfl (fun _ q => by cases q; rfl) rfl rfl (con_M_tail l Z a0 hw n1 _ (Nat.le_add_right _ _) hq74) rfl (by decide) (by decide) rfl rfl (ceL_eq rfl) (capJ1 cj_23 rfl) (capJ2 cj_23 rfl) ?_
  refine g_istore (pc := 77) (L' := [some (.int v0), some (.int v1), some (.int v2), some (.int v3), some (.int v4), some (.int v5), some (.ref 0), some (.int q16.1), some (.int q24.1), some (.int q36.1), some (.int q44.1), some (.int q52.1), some (.int q60.1), some (.int q67.1), some (.int q74.1), none, none, none, none, none, none, none, none, none, none, none, none, none]) K.1 at_77 (blt rfl) rfl ?_
  refine g_aload (pc := 79) K.1 at_79 rfl ?_
  refine g_iconst (pc := 81) (v := 1) K.1 at_81 (by decide) ?_
  obtain ⟨q82, hq82, h⟩ := Option.bind_eq_some_iff.mp h
  refine l_call (pc := 82) (vs := [.int (1 : Int32)]) (i := 0) (W' := [(q82.2, 23)]) K at_82 (w147 hw) (w149 hw) (w148 hw) (w150 hw) (w151 hw) hyC pd_7 (by intro v q; simp only [List.mem_cons, List.not_mem_nil, or_false] at q; subst q <;> rfl) (by decide) rfl rfl (fun _ q => by cases q; rfl) rfl rfl (con_M_statusOf l Z a0 hw n1 _ (Nat.le_add_right _ _) hq82) rfl (by decide) (by decide) rfl rfl (ceL_eq rfl) (capJ1 cj_23 rfl) (capJ2 cj_23 rfl) ?_
  refine g_istore (pc := 85) (L' := [some (.int v0), some (.int v1), some (.int v2), some (.int v3), some (.int v4), some (.int v5), some (.ref 0), some (.int q16.1), some (.int q24.1), some (.int q36.1), some (.int q44.1), some (.int q52.1), some (.int q60.1), some (.int q67.1), some (.int q74.1), some (.int q82.1), none, none, none, none, none, none, none, none, none, none, none, none]) K.1 at_85 (blt rfl) rfl ?_
  refine g_iloadN (pc := 87) K.1 at_87 rfl ?_
  refine g_iconst (pc := 88) (v := 2) K.1 at_88 (by decide) ?_
  rcases ifs h with ⟨hc89, h⟩ | ⟨hc89, h⟩
  · refine g_icF (pc := 89) K.1 at_89 ((tlt hc89).2.1) ?_
    refine g_iconst (pc := 92) (v := 2) K.1 at_92 (by decide) ?_
    refine g_goto (pc := 93) (pc' := 108) K.1 at_93 (by decide) ?_
    exact g_less (ok_LAW_b108 K hw hs0  h) (ln (ls (ls (ls (ls (ls (ln (ls (ls (ls (ls (ls (ls (ls (ls (ls (ls (ls (ls (ls (ls (ls (ls (ls (ls (ls (ls (ls l0))))))))))))))))))))))))))))
  refine g_icT (pc := 89) (pc' := 96) K.1 at_89 (by decide) ((flt hc89).2.1) ?_
  refine g_iloadN (pc := 96) K.1 at_96 rfl ?_
  refine g_bipush (pc := 97) (v := 6) K.1 at_97 (by decide) ?_
  rcases ifs h with ⟨hc99, h⟩ | ⟨hc99, h⟩
  · refine g_icF (pc := 99) K.1 at_99 ((tlt hc99).2.2.2) ?_
    refine g_bipush (pc := 102) (v := 6) K.1 at_102 (by decide) ?_
    refine g_goto (pc := 104) (pc' := 108) K.1 at_104 (by decide) ?_
    exact g_less (ok_LAW_b108 K hw hs0  h) (ln (ls (ls (ls (ls (ls (ln (ls (ls (ls (ls (ls (ls (ls (ls (ls (ls (ls (ls (ls (ls (ls (ls (ls (ls (ls (ls (ls l0))))))))))))))))))))))))))))
  refine g_icT (pc := 99) (pc' := 107) K.1 at_99 (by decide) ((flt hc99).2.2.2) ?_
  refine g_iloadN (pc := 107) K.1 at_107 rfl ?_
  exact g_less (ok_LAW_b108 K hw hs0  h) (ln (ls (ls (ls (ls (ls (ln (ls (ls (ls (ls (ls (ls (ls (ls (ls (ls (ls (ls (ls (ls (ls (ls (ls (ls (ls (ls (ls l0))))))))))))))))))))))))))))
theorem con_LAW (l : Launch) (Z : State) (a0 : Array Value) (hw : HW a0 Z) (ws : List Jvm.Cond) (sc : Addr) (H0 : Heap) {NF : Nat} {v0 : Int32} {v1 : Int32} {v2 : Int32} {v3 : Int32} {v4 : Int32} {v5 : Int32} {r : Int32 × List (St × Nat)} (h : LAW NF v0 v1 v2 v3 v4 v5 = some r) : MetP l Z x code maxLocals ret room_1 ws H0.size H0 ([.int v0, .int v1, .int v2, .int v3, .int v4, .int v5].map (up (adL sc H0.size 23))).toArray (some (.int r.1)) (fun _ => True) := by
  refine (met_of_go (S := List (St × Nat)) (ad := adL sc H0.size 23) (INV := INVl Z cC cFS cFA 23 H0.size H0) (CE := ceL 27 cFA) (x := []) (x' := r.2) (v := some (.int r.1)) (y := x) pnL rfl ⟨fun i q hq => by simp at hq, by simp [sizeW], Nat.le_refl _, fun _ _ q => q⟩ rfl ?_).mono (fun _ _ => trivial)
  intro p e s m below meth c hs K
  exact ok_LAW ⟨K, layW hw, lgood, rfl, rfl, rfl, rfl, rfl, rfl, rfl, rfl, rfl⟩ hw (by show s.heap.size = _; rw [hs]) h
theorem own_clamp (σ : St) (v lo hi : Int32) : M_clamp σ v lo hi = some (if v < lo then lo else if hi < v then hi else v, σ) := by
  unfold M_clamp; split
  · rfl
  · split <;> rfl
/-- what the constructor's parts keep: no status, no phase, nothing announced -/
def own_J (σ : St) : Prop := (∀ i, gA σ 4 i = 0) ∧ (∀ i, gA σ 7 i = 0) ∧ (∀ i, gA σ 14 i = 0) ∧ ∀ i, gA σ 11 i = 0
def own_Q (σ : St) (o : Option St) : Prop := ∃ σ', o = some σ' ∧ (∀ q, gI σ' q = gI σ q) ∧ own_J σ'
theorem own_J.far {σ : St} (h : own_J σ) {k : Nat} {i : Int} {v : Int32} (hk : k ≠ 4 ∧ k ≠ 7 ∧ k ≠ 14 ∧ k ≠ 11) : own_J (sA σ k i v) := by
  obtain ⟨h1, h2, h3, h4⟩ := h
  refine ⟨fun j => ?_, fun j => ?_, fun j => ?_, fun j => ?_⟩ <;> rw [gA_sA, if_neg (fun q => by have := q.1; omega)]
  · exact h1 j
  · exact h2 j
  · exact h3 j
  · exact h4 j
theorem own_J.zero {σ : St} (h : own_J σ) {k : Nat} {i : Int} : own_J (sA σ k i 0) := by
  obtain ⟨h1, h2, h3, h4⟩ := h
  refine ⟨fun j => ?_, fun j => ?_, fun j => ?_, fun j => ?_⟩ <;> rw [gA_sA] <;> split
  · rfl
  · exact h1 j
  · rfl
  · exact h2 j
  · rfl
  · exact h3 j
  · rfl
  · exact h4 j
theorem own_records {NF : Nat} (hF : 300 < NF) {σ : St} (h : own_J σ) : own_Q σ (M_resetRecords NF σ) := by
  unfold M_resetRecords
  refine loop_up (l := M_resetRecords_l2 NF) (w := M_resetRecords_w2 NF) (fun _ _ _ => rfl) 241 (by decide) (fun _ x => (∀ q, gI x q = gI σ q) ∧ own_J x) (own_Q σ) ?_ ?_ NF 0 σ (by decide) (by decide) ⟨fun _ => rfl, h⟩ (by show (241 : Int) - 0 < _; omega)
  · intro k i x h0 h1 hp ih
    unfold M_resetRecords_w2
    rw [if_neg (by rw [lt_i]; show ¬ (240 : Int) < _; omega), if_pos ⟨h0, h1⟩, if_pos ⟨h0, h1⟩, if_pos ⟨h0, h1⟩, if_pos ⟨h0, h1⟩, if_pos ⟨h0, h1⟩, if_pos ⟨h0, h1⟩]
    exact ih _ ⟨hp.1, ((((hp.2.zero.zero).far (by decide)).zero).zero).zero⟩
  · intro k i x hi hp
    unfold M_resetRecords_w2
    rw [if_pos (by rw [lt_i]; show (240 : Int) < _; omega)]
    exact ⟨x, rfl, hp.1, hp.2⟩
theorem own_tlast {NF : Nat} (hF : 300 < NF) {σ : St} (h : own_J σ) {t : Int32} (t0 : 0 ≤ t.toInt) (t1 : t.toInt < 8) (t2 : t.toInt < 6) : own_Q σ (M_clearThreadLast NF σ t) := by
  unfold M_clearThreadLast
  have em : (t * 6).toInt = t.toInt * 6 := by
    have q := c_imul t 6; have r := rng32 (t * 6)
    have e : (6 : Int32).toInt = 6 := rfl
    rw [e] at q; omega
  refine loop_up (l := fun n i x => M_clearThreadLast_l2 NF n t i x) (w := fun k i x => M_clearThreadLast_w2 NF (fun _ i x => k i x) t i x) (fun _ _ _ => rfl) 6 (by decide) (fun _ x => (∀ q, gI x q = gI σ q) ∧ own_J x) (own_Q σ) ?_ ?_ NF 0 σ (by decide) (by decide) ⟨fun _ => rfl, h⟩ (by show (6 : Int) - 0 < _; omega)
  · intro k i x h0 h1 hp ih
    have ea := i_add (x := t * 6) (y := i) (by omega) (by omega)
    show own_Q σ (M_clearThreadLast_w2 NF (fun _ i x => k i x) t i x)
    unfold M_clearThreadLast_w2 M_setThreadLast
    have e0 : (0 : Int32).toInt = 0 := rfl
    have eN : (6 : Int32).toInt = 6 := rfl
    have eB : (6 : Int32).toInt = 6 := rfl
    rw [if_pos (lt_i.mpr h1), if_neg (by rw [lt_i]; omega), if_pos (by rw [lt_i]; omega), if_neg (by rw [lt_i]; omega), if_pos (by rw [lt_i]; omega), if_pos (by omega)]
    exact ih _ ⟨hp.1, hp.2.far (by decide)⟩
  · intro k i x hi hp
    show own_Q σ (M_clearThreadLast_w2 NF (fun _ i x => k i x) t i x)
    unfold M_clearThreadLast_w2
    rw [if_neg (by rw [lt_i]; show ¬ _ < (6 : Int); omega)]
    exact ⟨x, rfl, hp.1, hp.2⟩
theorem own_cqueue {NF : Nat} (hF : 300 < NF) {σ : St} (h : own_J σ) {t : Int32} (t0 : 0 ≤ t.toInt) (t1 : t.toInt < 8) (t2 : t.toInt < 8) : own_Q σ (M_clearCellQueue NF σ t) := by
  unfold M_clearCellQueue
  have em : (t * 4).toInt = t.toInt * 4 := by
    have q := c_imul t 4; have r := rng32 (t * 4)
    have e : (4 : Int32).toInt = 4 := rfl
    rw [e] at q; omega
  refine loop_up (l := fun n i x => M_clearCellQueue_l2 NF n t i x) (w := fun k i x => M_clearCellQueue_w2 NF (fun _ i x => k i x) t i x) (fun _ _ _ => rfl) 4 (by decide) (fun _ x => (∀ q, gI x q = gI σ q) ∧ own_J x) (own_Q σ) ?_ ?_ NF 0 σ (by decide) (by decide) ⟨fun _ => rfl, h⟩ (by show (4 : Int) - 0 < _; omega)
  · intro k i x h0 h1 hp ih
    have ea := i_add (x := t * 4) (y := i) (by omega) (by omega)
    show own_Q σ (M_clearCellQueue_w2 NF (fun _ i x => k i x) t i x)
    unfold M_clearCellQueue_w2 M_writeQueueSlot
    have e0 : (0 : Int32).toInt = 0 := rfl
    have eN : (4 : Int32).toInt = 4 := rfl
    have eB : (8 : Int32).toInt = 8 := rfl
    rw [if_pos (lt_i.mpr h1), if_neg (by rw [lt_i]; omega), if_pos (by rw [lt_i]; omega), if_neg (by rw [lt_i]; omega), if_pos (by rw [lt_i]; omega), if_pos (by omega)]
    exact ih _ ⟨hp.1, hp.2.far (by decide)⟩
  · intro k i x hi hp
    show own_Q σ (M_clearCellQueue_w2 NF (fun _ i x => k i x) t i x)
    unfold M_clearCellQueue_w2
    rw [if_neg (by rw [lt_i]; show ¬ _ < (4 : Int); omega)]
    exact ⟨x, rfl, hp.1, hp.2⟩
theorem own_clast {NF : Nat} (hF : 300 < NF) {σ : St} (h : own_J σ) {t : Int32} (t0 : 0 ≤ t.toInt) (t1 : t.toInt < 8) (t2 : t.toInt < 8) : own_Q σ (M_clearCellLast NF σ t) := by
  unfold M_clearCellLast
  have em : (t * 6).toInt = t.toInt * 6 := by
    have q := c_imul t 6; have r := rng32 (t * 6)
    have e : (6 : Int32).toInt = 6 := rfl
    rw [e] at q; omega
  refine loop_up (l := fun n i x => M_clearCellLast_l2 NF n t i x) (w := fun k i x => M_clearCellLast_w2 NF (fun _ i x => k i x) t i x) (fun _ _ _ => rfl) 6 (by decide) (fun _ x => (∀ q, gI x q = gI σ q) ∧ own_J x) (own_Q σ) ?_ ?_ NF 0 σ (by decide) (by decide) ⟨fun _ => rfl, h⟩ (by show (6 : Int) - 0 < _; omega)
  · intro k i x h0 h1 hp ih
    have ea := i_add (x := t * 6) (y := i) (by omega) (by omega)
    show own_Q σ (M_clearCellLast_w2 NF (fun _ i x => k i x) t i x)
    unfold M_clearCellLast_w2 M_setCellLast
    have e0 : (0 : Int32).toInt = 0 := rfl
    have eN : (6 : Int32).toInt = 6 := rfl
    have eB : (8 : Int32).toInt = 8 := rfl
    rw [if_pos (lt_i.mpr h1), if_neg (by rw [lt_i]; omega), if_pos (by rw [lt_i]; omega), if_neg (by rw [lt_i]; omega), if_pos (by rw [lt_i]; omega), if_pos (by omega)]
    exact ih _ ⟨hp.1, hp.2.far (by decide)⟩
  · intro k i x hi hp
    show own_Q σ (M_clearCellLast_w2 NF (fun _ i x => k i x) t i x)
    unfold M_clearCellLast_w2
    rw [if_neg (by rw [lt_i]; show ¬ _ < (6 : Int); omega)]
    exact ⟨x, rfl, hp.1, hp.2⟩
theorem own_threads {NF : Nat} (hF : 300 < NF) {σ : St} (h : own_J σ) : own_Q σ (M_resetThreads NF σ) := by
  unfold M_resetThreads
  refine loop_up (l := M_resetThreads_l2 NF) (w := M_resetThreads_w2 NF) (fun _ _ _ => rfl) 6 (by decide) (fun _ x => (∀ q, gI x q = gI σ q) ∧ own_J x) (own_Q σ) ?_ ?_ NF 0 σ (by decide) (by decide) ⟨fun _ => rfl, h⟩ (by show (6 : Int) - 0 < _; omega)
  · intro k i x h0 h1 hp ih
    unfold M_resetThreads_w2
    rw [if_pos (lt_i.mpr h1), if_pos ⟨h0, h1⟩, if_pos ⟨h0, h1⟩, if_pos ⟨h0, h1⟩, if_pos ⟨h0, h1⟩, if_pos ⟨h0, h1⟩, if_pos ⟨h0, h1⟩]
    obtain ⟨x', q1, q2, q3⟩ := own_tlast hF ((((((hp.2.zero (k := 7) (i := i.toInt)).zero (k := 8) (i := i.toInt)).zero (k := 9) (i := i.toInt)).zero (k := 10) (i := i.toInt)).zero (k := 11) (i := i.toInt)).zero (k := 12) (i := i.toInt)) h0 (by omega) h1
    rw [q1]
    exact ih _ ⟨fun q => (q2 q).trans (hp.1 q), q3⟩
  · intro k i x hi hp
    unfold M_resetThreads_w2
    rw [if_neg (by rw [lt_i]; show ¬ _ < (6 : Int); omega)]
    exact ⟨x, rfl, hp.1, hp.2⟩
theorem own_ann {NF : Nat} (hF : 300 < NF) {σ : St} (h : own_J σ) : own_Q σ (M_resetAnnounces NF σ) := by
  unfold M_resetAnnounces
  refine loop_up (l := M_resetAnnounces_l2 NF) (w := M_resetAnnounces_w2 NF) (fun _ _ _ => rfl) 6 (by decide) (fun _ x => (∀ q, gI x q = gI σ q) ∧ own_J x) (own_Q σ) ?_ ?_ NF 0 σ (by decide) (by decide) ⟨fun _ => rfl, h⟩ (by show (6 : Int) - 0 < _; omega)
  · intro k i x h0 h1 hp ih
    unfold M_resetAnnounces_w2
    rw [if_pos (lt_i.mpr h1), if_pos ⟨h0, h1⟩, if_pos ⟨h0, h1⟩, if_pos ⟨h0, h1⟩]
    exact ih _ ⟨hp.1, hp.2.zero.zero.zero⟩
  · intro k i x hi hp
    unfold M_resetAnnounces_w2
    rw [if_neg (by rw [lt_i]; show ¬ _ < (6 : Int); omega)]
    exact ⟨x, rfl, hp.1, hp.2⟩
theorem own_cells {NF : Nat} (hF : 300 < NF) {σ : St} (h : own_J σ) : own_Q σ (M_resetCells NF σ) := by
  unfold M_resetCells
  refine loop_up (l := M_resetCells_l2 NF) (w := M_resetCells_w2 NF) (fun _ _ _ => rfl) 8 (by decide) (fun _ x => (∀ q, gI x q = gI σ q) ∧ own_J x) (own_Q σ) ?_ ?_ NF 0 σ (by decide) (by decide) ⟨fun _ => rfl, h⟩ (by show (8 : Int) - 0 < _; omega)
  · intro k i x h0 h1 hp ih
    unfold M_resetCells_w2
    rw [if_pos (lt_i.mpr h1), if_pos ⟨h0, h1⟩, if_pos ⟨h0, h1⟩, if_pos ⟨h0, h1⟩, if_pos ⟨h0, h1⟩, if_pos ⟨h0, h1⟩]
    obtain ⟨x', q1, q2, q3⟩ := own_cqueue hF (((((hp.2.far (k := 17) (i := i.toInt) (v := -1) (by decide)).zero (k := 18) (i := i.toInt)).zero (k := 19) (i := i.toInt)).zero (k := 20) (i := i.toInt)).zero (k := 21) (i := i.toInt)) h0 h1 h1
    rw [q1]
    simp only [Option.bind_some]
    obtain ⟨x2, r1, r2, r3⟩ := own_clast hF q3 h0 h1 h1
    rw [r1]
    exact ih _ ⟨fun q => ((r2 q).trans (q2 q)).trans (hp.1 q), r3⟩
  · intro k i x hi hp
    unfold M_resetCells_w2
    rw [if_neg (by rw [lt_i]; show ¬ _ < (8 : Int); omega)]
    exact ⟨_, rfl, hp.1, hp.2.zero⟩
theorem own_init {NF : Nat} (hF : 300 < NF) (t c : Int32) : ∃ σ, M_init NF t c = some σ ∧ gI σ 137 = (if t < 2 then 2 else if 6 < t then 6 else t) ∧ gI σ 139 = 0 ∧ gI σ 153 = 0 ∧ own_J σ := by
  unfold M_init
  simp only [own_clamp, Option.bind_some]
  generalize hS : sI (sI (sI _ 138 _) 139 0) 153 0 = S
  have hJ : own_J S := by subst hS; exact ⟨fun _ => rfl, fun _ => rfl, fun _ => rfl, fun _ => rfl⟩
  obtain ⟨s1, a1, a2, a3⟩ := own_records hF hJ
  obtain ⟨s2, b1, b2, b3⟩ := own_threads hF a3
  obtain ⟨s3, c1, c2, c3⟩ := own_ann hF b3
  obtain ⟨s4, d1, d2, d3⟩ := own_cells hF c3
  have eI : ∀ q, gI s4 q = gI S q := fun q => ((d2 q).trans (c2 q)).trans ((b2 q).trans (a2 q))
  simp only [a1, b1, c1, d1, Option.bind_some]
  refine ⟨s4, rfl, ?_, ?_, ?_, d3⟩ <;> rw [eI] <;> subst hS <;> rfl
theorem own_tlastF {NF : Nat} (hF : 300 < NF) (σ : St) {t : Int32} (t0 : 0 ≤ t.toInt) (t2 : t.toInt < 6) : ∃ σ', M_clearThreadLast NF σ t = some σ' ∧ (∀ q, gI σ' q = gI σ q) ∧ ∀ q i, q ≠ 13 → gA σ' q i = gA σ q i := by
  unfold M_clearThreadLast
  have em : (t * 6).toInt = t.toInt * 6 := by
    have q := c_imul t 6; have r := rng32 (t * 6)
    have e : (6 : Int32).toInt = 6 := rfl
    rw [e] at q; omega
  refine loop_up (l := fun n i x => M_clearThreadLast_l2 NF n t i x) (w := fun k i x => M_clearThreadLast_w2 NF (fun _ i x => k i x) t i x) (fun _ _ _ => rfl) 6 (by decide) (fun _ x => (∀ q, gI x q = gI σ q) ∧ ∀ q i, q ≠ 13 → gA x q i = gA σ q i) (fun o => ∃ σ', o = some σ' ∧ (∀ q, gI σ' q = gI σ q) ∧ ∀ q i, q ≠ 13 → gA σ' q i = gA σ q i) ?_ ?_ NF 0 σ (by decide) (by decide) ⟨fun _ => rfl, fun _ _ _ => rfl⟩ (by show (6 : Int) - 0 < _; omega)
  · intro k i x h0 h1 hp ih
    have ea := i_add (x := t * 6) (y := i) (by omega) (by omega)
    show ∃ σ', M_clearThreadLast_w2 NF (fun _ i x => k i x) t i x = some σ' ∧ _
    unfold M_clearThreadLast_w2 M_setThreadLast
    have e0 : (0 : Int32).toInt = 0 := rfl
    have eN : (6 : Int32).toInt = 6 := rfl
    rw [if_pos (lt_i.mpr h1), if_neg (by rw [lt_i]; omega), if_pos (by rw [lt_i]; omega), if_neg (by rw [lt_i]; omega), if_pos (by rw [lt_i]; omega), if_pos (by omega)]
    exact ih _ ⟨hp.1, fun q j hq => by rw [gA_sA, if_neg (fun z => hq z.1)]; exact hp.2 q j hq⟩
  · intro k i x hi hp
    show ∃ σ', M_clearThreadLast_w2 NF (fun _ i x => k i x) t i x = some σ' ∧ _
    unfold M_clearThreadLast_w2
    rw [if_neg (by rw [lt_i]; show ¬ _ < (6 : Int); omega)]
    exact ⟨x, rfl, hp.1, hp.2⟩
theorem own_vt {σ : St} {t n : Int32} (hn : gI σ 137 = n) (n6 : n.toInt ≤ 6) : M_validThread σ t = some (if t < 0 then 0 else if t < n then 1 else 0, σ) := by
  unfold M_validThread
  by_cases h1 : t < 0
  · rw [if_pos h1, if_pos h1]
  · rw [if_neg h1, if_neg h1, hn]
    by_cases h2 : t < n
    · rw [if_pos h2, if_pos h2, if_pos (by rw [lt_i] at h2 ⊢; show _ < (6 : Int); omega)]
    · rw [if_neg h2, if_neg h2]
/-- the first operation is accepted -/
theorem own_accept {NF : Nat} (hF : 300 < NF) {σ : St} (h9 : gI σ 139 = 0) {t kind arg : Int32} (t0 : 0 ≤ t.toInt) (t6 : t.toInt < 6) : ∃ σ', M_acceptInvoke NF σ t kind arg = some (1, σ') ∧ gI σ' 139 = 1 ∧ gI σ' 137 = gI σ 137 ∧ gI σ' 153 = gI σ 153 ∧ gA σ' 4 (1 : Int32).toInt = 1 ∧ gA σ' 7 t.toInt = 1 ∧ gA σ' 8 t.toInt = 1 ∧ gA σ' 11 t.toInt = 0 ∧ ∀ i, gA σ' 14 i = gA σ 14 i := by
  have hr : ∃ τ, M_recordOperation (sI σ 139 1) 1 t kind arg = some τ ∧ (∀ q, gI τ q = gI (sI σ 139 1) q) ∧ gA τ 4 (1 : Int32).toInt = 1 ∧ ∀ i, gA τ 14 i = gA σ 14 i := by
    unfold M_recordOperation M_recordOperation_b36
    by_cases hk : kind = 3
    · subst hk
      simp +decide only [if_true, if_false]
      exact ⟨_, rfl, fun _ => rfl, by simp +decide [gA_sA], fun i => by simp [gA_sA, gA_sI]⟩
    · simp +decide only [hk, if_true, if_false]
      exact ⟨_, rfl, fun _ => rfl, by simp +decide [gA_sA], fun i => by simp [gA_sA, gA_sI]⟩
  obtain ⟨τ, r1, r2, r3, r4⟩ := hr
  have e1 : gI σ 139 + 1 = 1 := by rw [h9]; decide
  unfold M_acceptInvoke
  rw [e1, r1]
  simp only [Option.bind_some]
  have ht : 0 ≤ t.toInt ∧ t.toInt < 6 := ⟨t0, t6⟩
  rw [if_pos ht, if_pos ht, if_pos ht, if_pos ht, if_pos ht, if_pos ht]
  obtain ⟨σ', q1, q2, q3⟩ := own_tlastF hF (sA (sA (sA (sA (sA (sA τ 8 t.toInt 1) 7 t.toInt 1) 11 t.toInt 0) 9 t.toInt 0) 10 t.toInt 0) 12 t.toInt 0) t0 t6
  rw [q1]
  refine ⟨σ', rfl, ?_, ?_, ?_, ?_, ?_, ?_, ?_, fun i => ?_⟩
  · rw [q2]; show gI τ 139 = 1; rw [r2, gI_sI, if_pos rfl]
  · rw [q2]; show gI τ 137 = _; rw [r2]; rfl
  · rw [q2]; show gI τ 153 = _; rw [r2]; rfl
  · have r3' : gA τ 4 1 = 1 := r3
    rw [q3 4 _ (by decide)]; simp only [gA_sA]; simp [r3']
  · rw [q3 7 _ (by decide)]; simp [gA_sA]
  · rw [q3 8 _ (by decide)]; simp [gA_sA]
  · rw [q3 11 _ (by decide)]; simp [gA_sA]
  · rw [q3 14 _ (by decide)]; simp [gA_sA, r4]
theorem own_inv {NF : Nat} (hF : 300 < NF) {σ : St} {t n : Int32} (k a : Int32) (e1 : gI σ 137 = n) (n6 : n.toInt ≤ 6) (e2 : gI σ 139 = 0) (j7 : ∀ i, gA σ 7 i = 0) (h1 : ¬ t < 0) (h2 : t < n) :
    (∃ v, H_fresh 1 k a = some v ∧ ¬ v = 1 ∧ M_invoke NF σ t k a = some (v, σ)) ∨ (H_fresh 1 k a = some 1 ∧ ∃ σ', M_invoke NF σ t k a = some (1, σ') ∧ gI σ' 139 = 1 ∧ gI σ' 137 = gI σ 137 ∧ gI σ' 153 = gI σ 153 ∧ gA σ' 4 (1 : Int32).toInt = 1 ∧ gA σ' 7 t.toInt = 1 ∧ gA σ' 8 t.toInt = 1 ∧ gA σ' 11 t.toInt = 0 ∧ ∀ i, gA σ' 14 i = gA σ 14 i) := by
  have ht : 0 ≤ t.toInt ∧ t.toInt < 6 := by
    rw [lt_i] at h1 h2
    have q0 : (0 : Int32).toInt = 0 := rfl
    omega
  have z10 : ¬ (1 : Int32) = 0 := by decide
  obtain ⟨σ', a1, a2⟩ := own_accept (kind := k) (arg := a) hF e2 ht.1 ht.2
  have hb : M_invoke_b49 NF t k a σ = some (1, σ') := by
    unfold M_invoke_b49
    rw [e2, if_pos (by decide), a1]
    rfl
  unfold M_invoke M_validKind M_validKind_b15 M_validEnqValue H_fresh H_fresh_b24
  by_cases k1 : k = 1
  · subst k1
    refine Or.inr ⟨by simp +decide only [if_true, if_false], σ', ?_, a2⟩
    simp +decide only [own_vt e1 n6, h1, h2, ht, j7, if_true, if_false, Option.bind_some, z10, hb]
  by_cases k2 : k = 2
  · subst k2
    by_cases g1 : a < 0
    · refine Or.inl ⟨-4, ?_, by decide, ?_⟩
      · simp +decide only [g1, if_true, if_false, z10]
      · simp +decide only [own_vt e1 n6, h1, h2, ht, j7, if_true, if_false, Option.bind_some, z10, g1]
    · by_cases g2 : (32767 : Int32) < a
      · refine Or.inl ⟨-4, ?_, by decide, ?_⟩
        · simp +decide only [g1, g2, if_true, if_false, z10]
        · simp +decide only [own_vt e1 n6, h1, h2, ht, j7, if_true, if_false, Option.bind_some, z10, g1, g2]
      · refine Or.inr ⟨?_, σ', ?_, a2⟩
        · simp +decide only [g1, g2, if_true, if_false, z10]
        · simp +decide only [own_vt e1 n6, h1, h2, ht, j7, if_true, if_false, Option.bind_some, z10, g1, g2, hb]
  by_cases k3 : k = 3
  · subst k3
    refine Or.inr ⟨by simp +decide only [if_true, if_false], σ', ?_, a2⟩
    simp +decide only [own_vt e1 n6, h1, h2, ht, j7, if_true, if_false, Option.bind_some, z10, hb]
  · refine Or.inl ⟨-3, ?_, by decide, ?_⟩
    · simp +decide only [k1, k2, k3, if_true, if_false, z10]
    · simp +decide only [own_vt e1 n6, h1, h2, ht, j7, if_true, if_false, Option.bind_some, z10, k1, k2, k3]
theorem own_law {NF : Nat} (hF : 300 < NF) (th t k1 a1 k2 a2 n : Int32) (hn : (if th < 2 then 2 else if 6 < th then 6 else th) = n) : ∃ W, ((M_init NF th (2 : Int32)).bind fun q6 => ((M_invoke NF q6 t k1 a1).bind fun q16 => ((M_step q16.2 t).bind fun q24 => ((M_invoke NF q24.2 t k2 a2).bind fun q36 => ((M_announcedId q36.2 t).bind fun q44 => ((M_phase q44.2 t).bind fun q52 => ((M_ownSteps q52.2 t).bind fun q60 => ((M_operationCount q60.2).bind fun q67 => ((M_tail q67.2).bind fun q74 => ((M_statusOf q74.2 (1 : Int32)).bind fun q82 => LAW_b108 NF t k1 a1 k2 a2 q16.1 q24.1 q36.1 q44.1 q52.1 q60.1 q67.1 q74.1 q82.1 n q82.2)))))))))) = some (1, W) := by
  obtain ⟨σ, e, e1, e2, e3, j4, j7, j14, j11⟩ := own_init hF th 2
  rw [hn] at e1
  have q2 : (2 : Int32).toInt = 2 := rfl
  have q6 : (6 : Int32).toInt = 6 := rfl
  have q0 : (0 : Int32).toInt = 0 := rfl
  have n6 : n.toInt ≤ 6 := by
    subst hn
    split
    · decide
    · split
      · decide
      · rename_i a b; rw [lt_i] at a b; omega
  have z10 : ¬ (1 : Int32) = 0 := by decide
  rw [e]
  simp only [Option.bind_some]
  have out : (t < 0 ∨ ¬ t < n) → ∀ σ, gI σ 137 = n → M_validThread σ t = some (0, σ) := by
    intro h σ e1
    rw [own_vt e1 n6]
    rcases h with h | h
    · rw [if_pos h]
    · rw [if_neg h]; simp
  have inn : ¬ t < 0 → t < n → ∀ σ, gI σ 137 = n → M_validThread σ t = some (1, σ) := by
    intro h h' σ e1
    rw [own_vt e1 n6, if_neg h, if_pos h']
  have bad : (t < 0 ∨ ¬ t < n) → ∃ W, ((M_invoke NF σ t k1 a1).bind fun q16 => ((M_step q16.2 t).bind fun q24 => ((M_invoke NF q24.2 t k2 a2).bind fun q36 => ((M_announcedId q36.2 t).bind fun q44 => ((M_phase q44.2 t).bind fun q52 => ((M_ownSteps q52.2 t).bind fun q60 => ((M_operationCount q60.2).bind fun q67 => ((M_tail q67.2).bind fun q74 => ((M_statusOf q74.2 (1 : Int32)).bind fun q82 => LAW_b125 NF k1 a1 k2 a2 q16.1 q24.1 q36.1 q44.1 q52.1 q60.1 q67.1 q74.1 q82.1 0 q82.2))))))))) = some (1, W) := by
    intro h
    have hv := out h σ e1
    unfold M_invoke M_step M_operationCount M_phase M_ownSteps M_statusOf M_isId M_announcedId M_tail LAW_b125 H_fresh LAW_b147 LAW_b177 LAW_b194 LAW_b195 LAW_b216 LAW_b237 LAW_b267 LAW_b288 LAW_b305 LAW_b317 LAW_b373
    simp +decide only [hv, e2, e3, if_true, if_false, Option.bind_some]
    exact ⟨_, rfl⟩
  unfold LAW_b108 LAW_b124
  by_cases h1 : t < 0
  · simp only [h1, if_true]
    exact bad (Or.inl h1)
  by_cases h2 : t < n
  · have ht : 0 ≤ t.toInt ∧ t.toInt < 6 := by rw [lt_i] at h1 h2; omega
    have hv := inn h1 h2
    simp only [h1, h2, if_true, if_false]
    rcases own_inv (t := t) hF k1 a1 e1 n6 e2 j7 h1 h2 with ⟨v, f1, f2, f3⟩ | ⟨f1, σ1, f3, b1, b2, b3, b4, b5, b6, b7, b8⟩
    · -- the first refused: nothing to step; the second is met as a first
      have hs : M_step σ t = some (0, σ) := by
        unfold M_step
        simp +decide only [hv σ e1, ht, j7, if_true, if_false, Option.bind_some, z10]
      rw [f3]
      simp only [Option.bind_some, hs]
      rcases own_inv (t := t) hF k2 a2 e1 n6 e2 j7 h1 h2 with ⟨w, g1, g2, g3⟩ | ⟨g1, σ1, g3, b1, b2, b3, b4, b5, b6, b7, b8⟩
      · rw [g3]
        unfold M_operationCount M_phase M_ownSteps M_statusOf M_isId M_announcedId M_tail LAW_b125 LAW_b147 LAW_b177 LAW_b194 LAW_b195 LAW_b216 LAW_b237 LAW_b267 LAW_b288 LAW_b305 LAW_b317 LAW_b373
        simp +decide only [hv σ e1, f1, f2, g1, g2, ht, j7, j11, j14, e2, e3, if_true, if_false, Option.bind_some, z10]
        exact ⟨_, rfl⟩
      · rw [g3]
        unfold M_operationCount M_phase M_ownSteps M_statusOf M_isId M_announcedId M_tail LAW_b125 LAW_b147 LAW_b177 LAW_b194 LAW_b195 LAW_b216 LAW_b237 LAW_b267 LAW_b288 LAW_b300 LAW_b305 LAW_b317 LAW_b373
        simp +decide only [hv σ1 (b2.trans e1), f1, f2, g1, ht, b1, b3, b4, b5, b7, b8, j14, e3, if_true, if_false, Option.bind_some, z10]
        exact ⟨_, rfl⟩
    · have hs : ∃ σ2, M_step σ1 t = some (1, σ2) ∧ gI σ2 137 = n ∧ gI σ2 139 = 1 ∧ gI σ2 153 = 0 ∧ gA σ2 4 (1 : Int32).toInt = 1 ∧ gA σ2 7 t.toInt = 2 ∧ gA σ2 11 t.toInt = 1 ∧ gA σ2 14 t.toInt = 1 := by
        unfold M_step M_dispatch M_stepAnnounce M_kindOf M_argOf M_isId
        simp +decide only [hv σ1 (b2.trans e1), ht, b1, b5, b6, b7, gI_sA, gA_sA, if_true, if_false, Option.bind_some, z10]
        refine ⟨_, rfl, ?_, ?_, ?_, ?_, ?_, ?_, ?_⟩
        · exact b2.trans e1
        · exact b1
        · exact b3.trans e3
        · simp +decide only [gA_sA, b4, if_true, if_false, false_and, true_and]
        · simp +decide only [gA_sA, if_true, if_false, false_and, true_and]
        · simp +decide only [gA_sA, if_true, if_false, false_and, true_and]
        · simp +decide only [gA_sA, if_true, if_false, false_and, true_and]
      obtain ⟨σ2, s0, s1, s2, s3, s4, s5, s6, s7⟩ := hs
      have hI : M_invoke NF σ2 t k2 a2 = some (-2, σ2) := by
        unfold M_invoke
        simp +decide only [hv σ2 s1, ht, s5, if_true, if_false, Option.bind_some, z10]
      rw [f3]
      simp only [Option.bind_some, s0, hI]
      unfold M_operationCount M_phase M_ownSteps M_statusOf M_isId M_announcedId M_tail LAW_b125 LAW_b147 LAW_b177 LAW_b194 LAW_b195 LAW_b216 LAW_b237 LAW_b267 LAW_b288 LAW_b300 LAW_b305 LAW_b317 LAW_b373
      simp +decide only [hv σ2 s1, f1, ht, s2, s3, s4, s5, s6, s7, if_true, if_false, Option.bind_some, z10]
      exact ⟨_, rfl⟩
  · simp only [h1, h2, if_true, if_false]
    exact bad (Or.inr h2)
theorem law_true (th t k1 a1 k2 a2 : Int32) : ∃ NF W, LAW NF th t k1 a1 k2 a2 = some (1, W) := by
  refine ⟨1025, ?_⟩
  generalize hNF : 1025 = NF
  have hF : 300 < NF := by omega
  unfold LAW
  by_cases h1 : th < 2
  · simp only [h1, if_true]
    exact own_law hF _ _ _ _ _ _ _ (by simp [h1])
  · by_cases h2 : (6 : Int32) < th
    · simp only [h1, h2, if_true, if_false]
      exact own_law hF _ _ _ _ _ _ _ (by simp [h1, h2])
    · simp only [h1, h2, if_false]
      exact own_law hF _ _ _ _ _ _ _ (by simp [h1, h2])
set_option maxRecDepth 65536 in
set_option maxHeartbeats 40000000 in
theorem comes_1 {Post : Tables → Env → Array Value → State → Outcome → State → Prop} (hpost : ∀ tb e args s v u, (limb_1_1.after args s (.returned v) u = true ∧ limb_1_2.after args s (.returned v) u = true ∧ True) → FrameEnd s (.returned v) u (Jvm.fieldLocs frame_1_writes args s ++ Jvm.arrayLocs frame_1_arrays args s ++ Jvm.staticLocs frame_1_statics s) 56 3456 → Post tb e args s (.returned v) u) :
    Jvm.D.ArmFor flags0 classFile x code maxLocals ret World_1 tables_1 room_1 Calls_1 rest_1 Pre_1 Post := by
  intro l hfl _ _ p e ha hc hk s m args below hf hA hF happ hP
  obtain ⟨hcalls, hrest, hpre⟩ := hP
  obtain ⟨-, -, -, hnamed, -, -, -, hat⟩ := (Spec.applies_iff hf).mp happ
  obtain ⟨hg, hn⟩ := and_e (Cond.before_iff.mp (show (Jvm.Cond.and given_1 narrow_1).before args s = true from hpre))
  have hw : HW args s := fun d (hd : d ∈ tables_1) => atoms_spec (ws := Jvm.Cond.code x code maxLocals ret :: tables_1) hat d (List.mem_cons_of_mem _ hd)
  have hfit : Fit s := fun {y c} hc i hi => by
    obtain ⟨ha, rfl⟩ := Array.getElem?_eq_some_iff.mp hc
    have q := List.all_eq_true.mp ((Array.all_eq_true_iff_forall_mem.mp hF) _ (Array.getElem_mem ha)) i (List.mem_range.mpr hi)
    simpa [Array.getElem?_eq_getElem hi] using q
  obtain ⟨g0, h0⟩ := and_e hg
  obtain ⟨v0, v1, v2, v3, v4, v5, rfl⟩ : ∃ v0 v1 v2 v3 v4 v5 : Value, args = #[v0, v1, v2, v3, v4, v5] := by
    have hs : args.size = 6 := by simpa [Cond.value, given_1] using g0
    obtain ⟨L⟩ := args
    match L, hs with
    | [v0, v1, v2, v3, v4, v5], _ => exact ⟨v0, v1, v2, v3, v4, v5, rfl⟩
  obtain ⟨k0, h1⟩ := and_e h0
  obtain ⟨i0, e0⟩ := is_v k0
  obtain rfl : v0 = (.int i0) := Option.some.inj e0
  obtain ⟨k1, h2⟩ := and_e h1
  obtain ⟨i1, e1⟩ := is_v k1
  obtain rfl : v1 = (.int i1) := Option.some.inj e1
  obtain ⟨k2, h3⟩ := and_e h2
  obtain ⟨i2, e2⟩ := is_v k2
  obtain rfl : v2 = (.int i2) := Option.some.inj e2
  obtain ⟨k3, h4⟩ := and_e h3
  obtain ⟨i3, e3⟩ := is_v k3
  obtain rfl : v3 = (.int i3) := Option.some.inj e3
  obtain ⟨k4, h5⟩ := and_e h4
  obtain ⟨i4, e4⟩ := is_v k4
  obtain rfl : v4 = (.int i4) := Option.some.inj e4
  obtain ⟨i5, e5⟩ := is_v h5
  obtain rfl : v5 = (.int i5) := Option.some.inj e5
  obtain ⟨NF, W, hW⟩ := law_true i0 i1 i2 i3 i4 i5
  obtain ⟨n, o, h1, h2, h3, w, L, rfl, ⟨rfl, N, -⟩, hq⟩ := con_LAW l s _ hw tables_1 0 s.heap hW p e ha hc hk s m _ below hf ((Spec.applies_iff_loose hf).mp happ).1 ⟨rfl, State.Warmed39.refl s, rfl⟩ trivial
  refine ⟨n, _, h1, h2, h3, hpost _ _ _ _ _ _ ⟨Cond.after_iff.mpr rfl, Cond.after_iff.mpr (eq_i res_at (Term.int_eval (1)) rfl), trivial⟩ ⟨hq.1, hq.2.1, (hq.2.2.sift fun y hy => Or.inr (N y hy)).mono (by decide) (by decide)⟩⟩
theorem main_1_1 : Claimed_1_1 := comes_1 fun _ _ _ _ _ _ h hF => ⟨h.1, hF⟩
theorem main_1_2 : Claimed_1_2 := comes_1 fun _ _ _ _ _ _ h hF => ⟨h.2.1, hF⟩
end Jvm.Pilot.@@N@@
namespace Jvm.Pilot.@@N@@
open Jvm Jvm.ClassFile Sem Op Lib Jvm.Free Jvm.Stand Jvm.Pilot.@@N@@.Jvm.D
/-! MADE BY PROGRAM (witnessworld.py) out of the Statement's table words and the real class files: 9 classes; the members and pool entries that the words name. The judged class is class 1, her method 1. -/
namespace start1
open Jvm.ClassFile
def u (s : String) : CpInfo := .utf8 (stringToUtf16 s)
/-- a pool by its gaps: so many unusable entries, then the entry; so many at the end -/
def gap : Nat → List CpInfo → List CpInfo
  | 0, r => r
  | n + 1, r => .unusable :: gap n r
def poolList (es : List (Nat × CpInfo)) (last : Nat) : List CpInfo := es.foldr (fun e r => gap e.1 (e.2 :: r)) (gap last [])
def pool (es : List (Nat × CpInfo)) (last : Nat) : Array CpInfo := ⟨poolList es last⟩
def fileOf (pool : Array CpInfo) (this : Nat) (attrs : Array Attribute := #[]) (ms : Array MethodInfo := #[]) (fl : Nat := 33) (sup : Nat := 0) (ifs : Array Nat := #[]) (fds : Array FieldInfo := #[]) : ClassFile where
  minorVersion := 0
  majorVersion := 65
  constantPool := pool
  accessFlags := fl
  thisClass := this
  superClass := sup
  interfaces := ifs
  fields := fds
  methods := ms
  attributes := attrs
def plain (name : String) (sup : Option ClassId) : Class where
  name := name
  kind := .ordinary
  loader := none
  accessFlags := 33
  super := sup
  interfaces := #[]
  cf := none
  fields := #[]
  methods := #[]
  instanceTypes := #[]
  staticTypes := #[]
  resolved := #[]
  callSites := []
  init := .initialized
  statics := none
  mirror := none

def pool0 : Array CpInfo := pool [(5, u "<init>"), (0, u "()V"), (1, .class_ 10), (1, u "java/lang/Object")] 113

def k0c0 : Code := { maxStack := 0, maxLocals := 1, code := object_method_1_code, exceptionTable := #[], attributes := #[] }
def k0m0 : Method := { name := "<init>", desc := "()V", sig := { parameters := [], returnType := none }, accessFlags := 1, code := some k0c0 }
/-- java/lang/Object -/
def k0 : Class := { plain "java/lang/Object" none with
  accessFlags := 33
  interfaces := #[]
  cf := some (fileOf pool0 8 #[] #[{ accessFlags := 1, nameIndex := 5, descriptorIndex := 6, attributes := #[] }] 33 0 #[] #[])
  fields := #[]
  methods := #[k0m0]
  instanceTypes := #[]
  staticTypes := #[]
  resolved := Array.replicate 124 none
  statics := none }

def pool1 : Array CpInfo := pool [(2, .class_ 4), (1, u "java/lang/Object"), (0, u "<init>"), (0, u "()V"), (0, .class_ 8), (0, u "WaitFreeUniversal"), (0, .methodref 7 10), (0, .nameAndType 5 11), (0, u "(II)V"), (0, .methodref 7 13), (0, .nameAndType 14 15), (0, u "invoke"), (0, u "(III)I"), (0, .methodref 7 17), (0, .nameAndType 18 19), (0, u "step"), (0, u "(I)I"), (0, .methodref 7 21), (0, .nameAndType 22 19), (0, u "announcedId"), (0, .methodref 7 24), (0, .nameAndType 25 19), (0, u "phase"), (0, .methodref 7 27), (0, .nameAndType 28 19), (0, u "ownSteps"), (0, .methodref 7 30), (0, .nameAndType 31 32), (0, u "operationCount"), (0, u "()I"), (0, .methodref 7 34), (0, .nameAndType 35 32), (0, u "tail"), (0, .methodref 7 37), (0, .nameAndType 38 19), (0, u "statusOf"), (0, .methodref 40 41), (0, .class_ 42), (0, .nameAndType 43 44), (0, u "WaitFreeUniversalL2"), (0, u "fresh"), (0, u "(ZII)I"), (2, u "law"), (0, u "(IIIIII)Z")] 3

def k1m0 : Method := { name := "<init>", desc := "()V", sig := { parameters := [], returnType := none }, accessFlags := 1, code := none }
def k1c1 : Code := { maxStack := 4, maxLocals := 28, code := code, exceptionTable := #[], attributes := #[] }
def k1m1 : Method := { name := "law", desc := "(IIIIII)Z", sig := { parameters := [.int, .int, .int, .int, .int, .int], returnType := some .boolean }, accessFlags := 9, code := some k1c1 }
def k1c2 : Code := { maxStack := 2, maxLocals := 3, code := method_3_code, exceptionTable := #[], attributes := #[] }
def k1m2 : Method := { name := "fresh", desc := "(ZII)I", sig := { parameters := [.boolean, .int, .int], returnType := some .int }, accessFlags := 10, code := some k1c2 }
/-- WaitFreeUniversalL2 -/
def k1 : Class := { plain "WaitFreeUniversalL2" (some 0) with
  accessFlags := 33
  interfaces := #[]
  cf := some (fileOf pool1 40 #[] #[{ accessFlags := 1, nameIndex := 5, descriptorIndex := 6, attributes := #[] }, { accessFlags := 9, nameIndex := 47, descriptorIndex := 48, attributes := #[] }, { accessFlags := 10, nameIndex := 43, descriptorIndex := 44, attributes := #[] }] 33 2 #[] #[])
  fields := #[]
  methods := #[k1m0, k1m1, k1m2]
  instanceTypes := #[]
  staticTypes := #[]
  resolved := Array.replicate 52 none
  statics := none }

def pool2 : Array CpInfo := pool [(1, .methodref 2 3), (0, .class_ 4), (0, .nameAndType 5 6), (0, u "java/lang/Object"), (0, u "<init>"), (0, u "()V"), (0, .fieldref 8 9), (0, .class_ 10), (0, .nameAndType 11 12), (0, u "WaitFreeUniversal"), (0, u "opKind"), (0, u "[I"), (0, .fieldref 8 14), (0, .nameAndType 15 12), (0, u "opArg"), (0, .fieldref 8 17), (0, .nameAndType 18 12), (0, u "opThread"), (0, .fieldref 8 20), (0, .nameAndType 21 12), (0, u "opStatus"), (0, .fieldref 8 23), (0, .nameAndType 24 12), (0, u "opResp"), (0, .fieldref 8 26), (0, .nameAndType 27 12), (0, u "opPos"), (0, .fieldref 8 29), (0, .nameAndType 30 12), (0, u "thPhase"), (0, .fieldref 8 32), (0, .nameAndType 33 12), (0, u "thOwn"), (0, .fieldref 8 35), (0, .nameAndType 36 12), (0, u "thP"), (0, .fieldref 8 38), (0, .nameAndType 39 12), (0, u "thC"), (0, .fieldref 8 41), (0, .nameAndType 42 12), (0, u "thSteps"), (0, .fieldref 8 44), (0, .nameAndType 45 12), (0, u "thHelped"), (0, .fieldref 8 47), (0, .nameAndType 48 12), (0, u "thLast"), (0, .fieldref 8 50), (0, .nameAndType 51 12), (0, u "annId"), (0, .fieldref 8 53), (0, .nameAndType 54 12), (0, u "annKind"), (0, .fieldref 8 56), (0, .nameAndType 57 12), (0, u "annArg"), (0, .fieldref 8 59), (0, .nameAndType 60 12), (0, u "cellPos"), (0, .fieldref 8 62), (0, .nameAndType 63 12), (0, u "cellId"), (0, .fieldref 8 65), (0, .nameAndType 66 12), (0, u "cellResp"), (0, .fieldref 8 68), (0, .nameAndType 69 12), (0, u "cellCounter"), (0, .fieldref 8 71), (0, .nameAndType 72 12), (0, u "cellQLen"), (0, .fieldref 8 74), (0, .nameAndType 75 12), (0, u "cellQ"), (0, .fieldref 8 77), (0, .nameAndType 78 12), (0, u "cellLast"), (0, .methodref 8 80), (0, .nameAndType 81 82), (0, u "clamp"), (0, u "(III)I"), (0, .fieldref 8 84), (0, .nameAndType 85 86), (0, u "n"), (0, u "I"), (0, .fieldref 8 88), (0, .nameAndType 89 86), (0, u "cap"), (0, .fieldref 8 91), (0, .nameAndType 92 86), (0, u "opCount"), (0, .fieldref 8 94), (0, .nameAndType 95 86), (0, u "tailValue"), (0, .methodref 8 97), (0, .nameAndType 98 6), (0, u "resetRecords"), (0, .methodref 8 100), (0, .nameAndType 101 6), (0, u "resetThreads"), (0, .methodref 8 103), (0, .nameAndType 104 6), (0, u "resetAnnounces"), (0, .methodref 8 106), (0, .nameAndType 107 6), (0, u "resetCells"), (0, .methodref 8 109), (0, .nameAndType 110 111), (0, u "validThread"), (0, u "(I)Z"), (0, .methodref 8 113), (0, .nameAndType 114 111), (0, u "validKind"), (0, .methodref 8 116), (0, .nameAndType 117 111), (0, u "validEnqValue"), (0, .methodref 8 119), (0, .nameAndType 120 82), (0, u "acceptInvoke"), (0, .methodref 8 122), (0, .nameAndType 123 124), (0, u "dispatch"), (0, u "(II)I"), (6, u "step"), (0, u "(I)I"), (9, u "()I"), (3, .methodref 8 147), (0, .nameAndType 148 111), (0, u "isId"), (5, .methodref 8 155), (0, .nameAndType 156 157), (0, u "clearThreadLast"), (0, u "(I)V"), (0, .methodref 8 159), (0, .nameAndType 160 157), (0, u "clearCellQueue"), (0, .methodref 8 162), (0, .nameAndType 163 157), (0, u "clearCellLast"), (0, .methodref 8 165), (0, .nameAndType 166 167), (0, u "writeQueueSlot"), (0, u "(III)V"), (0, .methodref 8 169), (0, .nameAndType 170 167), (0, u "setCellLast"), (0, .methodref 8 172), (0, .nameAndType 173 174), (0, u "recordOperation"), (0, u "(IIII)V"), (0, .methodref 8 176), (0, .nameAndType 177 132), (0, u "stepAnnounce"), (12, .methodref 8 191), (0, .nameAndType 192 132), (0, u "kindOf"), (0, .methodref 8 194), (0, .nameAndType 195 132), (0, u "argOf"), (3, u "(II)V"), (18, .methodref 8 219), (0, .nameAndType 220 167), (0, u "setThreadLast"), (39, u "MIN_THREADS"), (2, u "MAX_THREADS"), (1, u "MIN_CAPACITY"), (1, u "MAX_CAPACITY"), (1, u "MAX_OPS"), (1, u "MAX_ENQ_VALUE"), (1, u "MAX_SCRIPT"), (1, u "OP_ADD"), (0, u "OP_ENQ"), (0, u "OP_DEQ"), (1, u "RESP_EMPTY"), (1, u "RESP_FULL"), (1, u "ERR_THREAD"), (0, u "ERR_BUSY"), (0, u "ERR_KIND"), (1, u "ERR_ARG"), (1, u "ERR_LIMIT"), (1, u "PH_IDLE"), (1, u "PH_ANNOUNCE"), (0, u "PH_READ_TAIL"), (0, u "PH_READ_CELL"), (0, u "PH_READ_ANN"), (0, u "PH_CAS"), (1, u "STEP_IDLE"), (0, u "STEP_ANNOUNCED"), (0, u "STEP_READ_TAIL"), (0, u "STEP_READ_CELL"), (0, u "STEP_DONE"), (0, u "STEP_READ_ANN"), (0, u "STEP_CAS_OK"), (0, u "STEP_CAS_FAIL"), (1, u "STEP_CAS_DONE"), (1, u "ST_NONE"), (0, u "ST_PENDING"), (0, u "ST_APPLIED"), (0, u "ST_DONE"), (2, u "invoke"), (2, u "phase"), (2, u "announcedId"), (0, u "ownSteps"), (0, u "tail"), (3, u "statusOf"), (2, u "operationCount")] 3

def k2c0 : Code := { maxStack := 5, maxLocals := 3, code := prog_1_method_1_code, exceptionTable := #[], attributes := #[] }
def k2m0 : Method := { name := "<init>", desc := "(II)V", sig := { parameters := [.int, .int], returnType := none }, accessFlags := 1, code := some k2c0 }
def k2c1 : Code := { maxStack := 4, maxLocals := 4, code := prog_1_method_2_code, exceptionTable := #[], attributes := #[] }
def k2m1 : Method := { name := "invoke", desc := "(III)I", sig := { parameters := [.int, .int, .int], returnType := some .int }, accessFlags := 1, code := some k2c1 }
def k2c2 : Code := { maxStack := 4, maxLocals := 3, code := prog_1_method_3_code, exceptionTable := #[], attributes := #[] }
def k2m2 : Method := { name := "step", desc := "(I)I", sig := { parameters := [.int], returnType := some .int }, accessFlags := 1, code := some k2c2 }
def k2c3 : Code := { maxStack := 2, maxLocals := 2, code := prog_1_method_5_code, exceptionTable := #[], attributes := #[] }
def k2m3 : Method := { name := "phase", desc := "(I)I", sig := { parameters := [.int], returnType := some .int }, accessFlags := 1, code := some k2c3 }
def k2c4 : Code := { maxStack := 2, maxLocals := 2, code := prog_1_method_8_code, exceptionTable := #[], attributes := #[] }
def k2m4 : Method := { name := "announcedId", desc := "(I)I", sig := { parameters := [.int], returnType := some .int }, accessFlags := 1, code := some k2c4 }
def k2c5 : Code := { maxStack := 2, maxLocals := 2, code := prog_1_method_9_code, exceptionTable := #[], attributes := #[] }
def k2m5 : Method := { name := "ownSteps", desc := "(I)I", sig := { parameters := [.int], returnType := some .int }, accessFlags := 1, code := some k2c5 }
def k2c6 : Code := { maxStack := 1, maxLocals := 1, code := prog_1_method_10_code, exceptionTable := #[], attributes := #[] }
def k2m6 : Method := { name := "tail", desc := "()I", sig := { parameters := [], returnType := some .int }, accessFlags := 1, code := some k2c6 }
def k2c7 : Code := { maxStack := 2, maxLocals := 2, code := prog_1_method_14_code, exceptionTable := #[], attributes := #[] }
def k2m7 : Method := { name := "statusOf", desc := "(I)I", sig := { parameters := [.int], returnType := some .int }, accessFlags := 1, code := some k2c7 }
def k2c8 : Code := { maxStack := 1, maxLocals := 1, code := prog_1_method_17_code, exceptionTable := #[], attributes := #[] }
def k2m8 : Method := { name := "operationCount", desc := "()I", sig := { parameters := [], returnType := some .int }, accessFlags := 1, code := some k2c8 }
def k2c9 : Code := { maxStack := 2, maxLocals := 4, code := prog_1_method_18_code, exceptionTable := #[], attributes := #[] }
def k2m9 : Method := { name := "clamp", desc := "(III)I", sig := { parameters := [.int, .int, .int], returnType := some .int }, accessFlags := 2, code := some k2c9 }
def k2c10 : Code := { maxStack := 2, maxLocals := 2, code := prog_1_method_19_code, exceptionTable := #[], attributes := #[] }
def k2m10 : Method := { name := "validThread", desc := "(I)Z", sig := { parameters := [.int], returnType := some .boolean }, accessFlags := 2, code := some k2c10 }
def k2c11 : Code := { maxStack := 2, maxLocals := 2, code := prog_1_method_20_code, exceptionTable := #[], attributes := #[] }
def k2m11 : Method := { name := "validKind", desc := "(I)Z", sig := { parameters := [.int], returnType := some .boolean }, accessFlags := 2, code := some k2c11 }
def k2c12 : Code := { maxStack := 2, maxLocals := 2, code := prog_1_method_21_code, exceptionTable := #[], attributes := #[] }
def k2m12 : Method := { name := "validEnqValue", desc := "(I)Z", sig := { parameters := [.int], returnType := some .boolean }, accessFlags := 2, code := some k2c12 }
def k2c13 : Code := { maxStack := 2, maxLocals := 2, code := prog_1_method_22_code, exceptionTable := #[], attributes := #[] }
def k2m13 : Method := { name := "isId", desc := "(I)Z", sig := { parameters := [.int], returnType := some .boolean }, accessFlags := 2, code := some k2c13 }
def k2c14 : Code := { maxStack := 3, maxLocals := 2, code := prog_1_method_27_code, exceptionTable := #[], attributes := #[] }
def k2m14 : Method := { name := "resetRecords", desc := "()V", sig := { parameters := [], returnType := none }, accessFlags := 2, code := some k2c14 }
def k2c15 : Code := { maxStack := 3, maxLocals := 2, code := prog_1_method_28_code, exceptionTable := #[], attributes := #[] }
def k2m15 : Method := { name := "resetThreads", desc := "()V", sig := { parameters := [], returnType := none }, accessFlags := 2, code := some k2c15 }
def k2c16 : Code := { maxStack := 3, maxLocals := 2, code := prog_1_method_29_code, exceptionTable := #[], attributes := #[] }
def k2m16 : Method := { name := "resetAnnounces", desc := "()V", sig := { parameters := [], returnType := none }, accessFlags := 2, code := some k2c16 }
def k2c17 : Code := { maxStack := 3, maxLocals := 2, code := prog_1_method_30_code, exceptionTable := #[], attributes := #[] }
def k2m17 : Method := { name := "resetCells", desc := "()V", sig := { parameters := [], returnType := none }, accessFlags := 2, code := some k2c17 }
def k2c18 : Code := { maxStack := 4, maxLocals := 3, code := prog_1_method_31_code, exceptionTable := #[], attributes := #[] }
def k2m18 : Method := { name := "clearCellQueue", desc := "(I)V", sig := { parameters := [.int], returnType := none }, accessFlags := 2, code := some k2c18 }
def k2c19 : Code := { maxStack := 4, maxLocals := 3, code := prog_1_method_32_code, exceptionTable := #[], attributes := #[] }
def k2m19 : Method := { name := "clearCellLast", desc := "(I)V", sig := { parameters := [.int], returnType := none }, accessFlags := 2, code := some k2c19 }
def k2c20 : Code := { maxStack := 5, maxLocals := 5, code := prog_1_method_33_code, exceptionTable := #[], attributes := #[] }
def k2m20 : Method := { name := "acceptInvoke", desc := "(III)I", sig := { parameters := [.int, .int, .int], returnType := some .int }, accessFlags := 2, code := some k2c20 }
def k2c21 : Code := { maxStack := 4, maxLocals := 5, code := prog_1_method_34_code, exceptionTable := #[], attributes := #[] }
def k2m21 : Method := { name := "recordOperation", desc := "(IIII)V", sig := { parameters := [.int, .int, .int, .int], returnType := none }, accessFlags := 2, code := some k2c21 }
def k2c22 : Code := { maxStack := 2, maxLocals := 2, code := prog_1_method_35_code, exceptionTable := #[], attributes := #[] }
def k2m22 : Method := { name := "kindOf", desc := "(I)I", sig := { parameters := [.int], returnType := some .int }, accessFlags := 2, code := some k2c22 }
def k2c23 : Code := { maxStack := 2, maxLocals := 2, code := prog_1_method_36_code, exceptionTable := #[], attributes := #[] }
def k2m23 : Method := { name := "argOf", desc := "(I)I", sig := { parameters := [.int], returnType := some .int }, accessFlags := 2, code := some k2c23 }
def k2c24 : Code := { maxStack := 2, maxLocals := 3, code := prog_1_method_37_code, exceptionTable := #[], attributes := #[] }
def k2m24 : Method := { name := "dispatch", desc := "(II)I", sig := { parameters := [.int, .int], returnType := some .int }, accessFlags := 2, code := some k2c24 }
def k2c25 : Code := { maxStack := 4, maxLocals := 3, code := prog_1_method_38_code, exceptionTable := #[], attributes := #[] }
def k2m25 : Method := { name := "stepAnnounce", desc := "(I)I", sig := { parameters := [.int], returnType := some .int }, accessFlags := 2, code := some k2c25 }
def k2c26 : Code := { maxStack := 4, maxLocals := 3, code := prog_1_method_45_code, exceptionTable := #[], attributes := #[] }
def k2m26 : Method := { name := "clearThreadLast", desc := "(I)V", sig := { parameters := [.int], returnType := none }, accessFlags := 2, code := some k2c26 }
def k2c27 : Code := { maxStack := 3, maxLocals := 4, code := prog_1_method_47_code, exceptionTable := #[], attributes := #[] }
def k2m27 : Method := { name := "setThreadLast", desc := "(III)V", sig := { parameters := [.int, .int, .int], returnType := none }, accessFlags := 2, code := some k2c27 }
def k2c28 : Code := { maxStack := 3, maxLocals := 4, code := prog_1_method_57_code, exceptionTable := #[], attributes := #[] }
def k2m28 : Method := { name := "writeQueueSlot", desc := "(III)V", sig := { parameters := [.int, .int, .int], returnType := none }, accessFlags := 2, code := some k2c28 }
def k2c29 : Code := { maxStack := 3, maxLocals := 4, code := prog_1_method_59_code, exceptionTable := #[], attributes := #[] }
def k2m29 : Method := { name := "setCellLast", desc := "(III)V", sig := { parameters := [.int, .int, .int], returnType := none }, accessFlags := 2, code := some k2c29 }
/-- WaitFreeUniversal -/
def k2 : Class := { plain "WaitFreeUniversal" (some 0) with
  accessFlags := 49
  interfaces := #[]
  cf := some (fileOf pool2 8 #[] #[{ accessFlags := 1, nameIndex := 5, descriptorIndex := 199, attributes := #[] }, { accessFlags := 1, nameIndex := 316, descriptorIndex := 82, attributes := #[] }, { accessFlags := 1, nameIndex := 131, descriptorIndex := 132, attributes := #[] }, { accessFlags := 1, nameIndex := 319, descriptorIndex := 132, attributes := #[] }, { accessFlags := 1, nameIndex := 322, descriptorIndex := 132, attributes := #[] }, { accessFlags := 1, nameIndex := 323, descriptorIndex := 132, attributes := #[] }, { accessFlags := 1, nameIndex := 324, descriptorIndex := 142, attributes := #[] }, { accessFlags := 1, nameIndex := 328, descriptorIndex := 132, attributes := #[] }, { accessFlags := 1, nameIndex := 331, descriptorIndex := 142, attributes := #[] }, { accessFlags := 2, nameIndex := 81, descriptorIndex := 82, attributes := #[] }, { accessFlags := 2, nameIndex := 110, descriptorIndex := 111, attributes := #[] }, { accessFlags := 2, nameIndex := 114, descriptorIndex := 111, attributes := #[] }, { accessFlags := 2, nameIndex := 117, descriptorIndex := 111, attributes := #[] }, { accessFlags := 2, nameIndex := 148, descriptorIndex := 111, attributes := #[] }, { accessFlags := 2, nameIndex := 98, descriptorIndex := 6, attributes := #[] }, { accessFlags := 2, nameIndex := 101, descriptorIndex := 6, attributes := #[] }, { accessFlags := 2, nameIndex := 104, descriptorIndex := 6, attributes := #[] }, { accessFlags := 2, nameIndex := 107, descriptorIndex := 6, attributes := #[] }, { accessFlags := 2, nameIndex := 160, descriptorIndex := 157, attributes := #[] }, { accessFlags := 2, nameIndex := 163, descriptorIndex := 157, attributes := #[] }, { accessFlags := 2, nameIndex := 120, descriptorIndex := 82, attributes := #[] }, { accessFlags := 2, nameIndex := 173, descriptorIndex := 174, attributes := #[] }, { accessFlags := 2, nameIndex := 192, descriptorIndex := 132, attributes := #[] }, { accessFlags := 2, nameIndex := 195, descriptorIndex := 132, attributes := #[] }, { accessFlags := 2, nameIndex := 123, descriptorIndex := 124, attributes := #[] }, { accessFlags := 2, nameIndex := 177, descriptorIndex := 132, attributes := #[] }, { accessFlags := 2, nameIndex := 156, descriptorIndex := 157, attributes := #[] }, { accessFlags := 2, nameIndex := 220, descriptorIndex := 167, attributes := #[] }, { accessFlags := 2, nameIndex := 166, descriptorIndex := 167, attributes := #[] }, { accessFlags := 2, nameIndex := 170, descriptorIndex := 167, attributes := #[] }] 49 2 #[] #[{ accessFlags := 25, nameIndex := 260, descriptorIndex := 86, attributes := #[] }, { accessFlags := 25, nameIndex := 263, descriptorIndex := 86, attributes := #[] }, { accessFlags := 25, nameIndex := 265, descriptorIndex := 86, attributes := #[] }, { accessFlags := 25, nameIndex := 267, descriptorIndex := 86, attributes := #[] }, { accessFlags := 25, nameIndex := 269, descriptorIndex := 86, attributes := #[] }, { accessFlags := 25, nameIndex := 271, descriptorIndex := 86, attributes := #[] }, { accessFlags := 25, nameIndex := 273, descriptorIndex := 86, attributes := #[] }, { accessFlags := 25, nameIndex := 275, descriptorIndex := 86, attributes := #[] }, { accessFlags := 25, nameIndex := 276, descriptorIndex := 86, attributes := #[] }, { accessFlags := 25, nameIndex := 277, descriptorIndex := 86, attributes := #[] }, { accessFlags := 25, nameIndex := 279, descriptorIndex := 86, attributes := #[] }, { accessFlags := 25, nameIndex := 281, descriptorIndex := 86, attributes := #[] }, { accessFlags := 25, nameIndex := 283, descriptorIndex := 86, attributes := #[] }, { accessFlags := 25, nameIndex := 284, descriptorIndex := 86, attributes := #[] }, { accessFlags := 25, nameIndex := 285, descriptorIndex := 86, attributes := #[] }, { accessFlags := 25, nameIndex := 287, descriptorIndex := 86, attributes := #[] }, { accessFlags := 25, nameIndex := 289, descriptorIndex := 86, attributes := #[] }, { accessFlags := 25, nameIndex := 291, descriptorIndex := 86, attributes := #[] }, { accessFlags := 25, nameIndex := 293, descriptorIndex := 86, attributes := #[] }, { accessFlags := 25, nameIndex := 294, descriptorIndex := 86, attributes := #[] }, { accessFlags := 25, nameIndex := 295, descriptorIndex := 86, attributes := #[] }, { accessFlags := 25, nameIndex := 296, descriptorIndex := 86, attributes := #[] }, { accessFlags := 25, nameIndex := 297, descriptorIndex := 86, attributes := #[] }, { accessFlags := 25, nameIndex := 299, descriptorIndex := 86, attributes := #[] }, { accessFlags := 25, nameIndex := 300, descriptorIndex := 86, attributes := #[] }, { accessFlags := 25, nameIndex := 301, descriptorIndex := 86, attributes := #[] }, { accessFlags := 25, nameIndex := 302, descriptorIndex := 86, attributes := #[] }, { accessFlags := 25, nameIndex := 303, descriptorIndex := 86, attributes := #[] }, { accessFlags := 25, nameIndex := 304, descriptorIndex := 86, attributes := #[] }, { accessFlags := 25, nameIndex := 305, descriptorIndex := 86, attributes := #[] }, { accessFlags := 25, nameIndex := 306, descriptorIndex := 86, attributes := #[] }, { accessFlags := 25, nameIndex := 308, descriptorIndex := 86, attributes := #[] }, { accessFlags := 25, nameIndex := 310, descriptorIndex := 86, attributes := #[] }, { accessFlags := 25, nameIndex := 311, descriptorIndex := 86, attributes := #[] }, { accessFlags := 25, nameIndex := 312, descriptorIndex := 86, attributes := #[] }, { accessFlags := 25, nameIndex := 313, descriptorIndex := 86, attributes := #[] }, { accessFlags := 2, nameIndex := 85, descriptorIndex := 86, attributes := #[] }, { accessFlags := 2, nameIndex := 89, descriptorIndex := 86, attributes := #[] }, { accessFlags := 2, nameIndex := 92, descriptorIndex := 86, attributes := #[] }, { accessFlags := 2, nameIndex := 11, descriptorIndex := 12, attributes := #[] }, { accessFlags := 2, nameIndex := 15, descriptorIndex := 12, attributes := #[] }, { accessFlags := 2, nameIndex := 18, descriptorIndex := 12, attributes := #[] }, { accessFlags := 2, nameIndex := 21, descriptorIndex := 12, attributes := #[] }, { accessFlags := 2, nameIndex := 24, descriptorIndex := 12, attributes := #[] }, { accessFlags := 2, nameIndex := 27, descriptorIndex := 12, attributes := #[] }, { accessFlags := 2, nameIndex := 30, descriptorIndex := 12, attributes := #[] }, { accessFlags := 2, nameIndex := 33, descriptorIndex := 12, attributes := #[] }, { accessFlags := 2, nameIndex := 36, descriptorIndex := 12, attributes := #[] }, { accessFlags := 2, nameIndex := 39, descriptorIndex := 12, attributes := #[] }, { accessFlags := 2, nameIndex := 42, descriptorIndex := 12, attributes := #[] }, { accessFlags := 2, nameIndex := 45, descriptorIndex := 12, attributes := #[] }, { accessFlags := 2, nameIndex := 48, descriptorIndex := 12, attributes := #[] }, { accessFlags := 2, nameIndex := 95, descriptorIndex := 86, attributes := #[] }, { accessFlags := 2, nameIndex := 51, descriptorIndex := 12, attributes := #[] }, { accessFlags := 2, nameIndex := 54, descriptorIndex := 12, attributes := #[] }, { accessFlags := 2, nameIndex := 57, descriptorIndex := 12, attributes := #[] }, { accessFlags := 2, nameIndex := 60, descriptorIndex := 12, attributes := #[] }, { accessFlags := 2, nameIndex := 63, descriptorIndex := 12, attributes := #[] }, { accessFlags := 2, nameIndex := 66, descriptorIndex := 12, attributes := #[] }, { accessFlags := 2, nameIndex := 69, descriptorIndex := 12, attributes := #[] }, { accessFlags := 2, nameIndex := 72, descriptorIndex := 12, attributes := #[] }, { accessFlags := 2, nameIndex := 75, descriptorIndex := 12, attributes := #[] }, { accessFlags := 2, nameIndex := 78, descriptorIndex := 12, attributes := #[] }])
  fields := #[{ name := "MIN_THREADS", type := .int, accessFlags := 25, slot := 0, constantValue := 0 }, { name := "MAX_THREADS", type := .int, accessFlags := 25, slot := 1, constantValue := 0 }, { name := "MIN_CAPACITY", type := .int, accessFlags := 25, slot := 2, constantValue := 0 }, { name := "MAX_CAPACITY", type := .int, accessFlags := 25, slot := 3, constantValue := 0 }, { name := "MAX_OPS", type := .int, accessFlags := 25, slot := 4, constantValue := 0 }, { name := "MAX_ENQ_VALUE", type := .int, accessFlags := 25, slot := 5, constantValue := 0 }, { name := "MAX_SCRIPT", type := .int, accessFlags := 25, slot := 6, constantValue := 0 }, { name := "OP_ADD", type := .int, accessFlags := 25, slot := 7, constantValue := 0 }, { name := "OP_ENQ", type := .int, accessFlags := 25, slot := 8, constantValue := 0 }, { name := "OP_DEQ", type := .int, accessFlags := 25, slot := 9, constantValue := 0 }, { name := "RESP_EMPTY", type := .int, accessFlags := 25, slot := 10, constantValue := 0 }, { name := "RESP_FULL", type := .int, accessFlags := 25, slot := 11, constantValue := 0 }, { name := "ERR_THREAD", type := .int, accessFlags := 25, slot := 12, constantValue := 0 }, { name := "ERR_BUSY", type := .int, accessFlags := 25, slot := 13, constantValue := 0 }, { name := "ERR_KIND", type := .int, accessFlags := 25, slot := 14, constantValue := 0 }, { name := "ERR_ARG", type := .int, accessFlags := 25, slot := 15, constantValue := 0 }, { name := "ERR_LIMIT", type := .int, accessFlags := 25, slot := 16, constantValue := 0 }, { name := "PH_IDLE", type := .int, accessFlags := 25, slot := 17, constantValue := 0 }, { name := "PH_ANNOUNCE", type := .int, accessFlags := 25, slot := 18, constantValue := 0 }, { name := "PH_READ_TAIL", type := .int, accessFlags := 25, slot := 19, constantValue := 0 }, { name := "PH_READ_CELL", type := .int, accessFlags := 25, slot := 20, constantValue := 0 }, { name := "PH_READ_ANN", type := .int, accessFlags := 25, slot := 21, constantValue := 0 }, { name := "PH_CAS", type := .int, accessFlags := 25, slot := 22, constantValue := 0 }, { name := "STEP_IDLE", type := .int, accessFlags := 25, slot := 23, constantValue := 0 }, { name := "STEP_ANNOUNCED", type := .int, accessFlags := 25, slot := 24, constantValue := 0 }, { name := "STEP_READ_TAIL", type := .int, accessFlags := 25, slot := 25, constantValue := 0 }, { name := "STEP_READ_CELL", type := .int, accessFlags := 25, slot := 26, constantValue := 0 }, { name := "STEP_DONE", type := .int, accessFlags := 25, slot := 27, constantValue := 0 }, { name := "STEP_READ_ANN", type := .int, accessFlags := 25, slot := 28, constantValue := 0 }, { name := "STEP_CAS_OK", type := .int, accessFlags := 25, slot := 29, constantValue := 0 }, { name := "STEP_CAS_FAIL", type := .int, accessFlags := 25, slot := 30, constantValue := 0 }, { name := "STEP_CAS_DONE", type := .int, accessFlags := 25, slot := 31, constantValue := 0 }, { name := "ST_NONE", type := .int, accessFlags := 25, slot := 32, constantValue := 0 }, { name := "ST_PENDING", type := .int, accessFlags := 25, slot := 33, constantValue := 0 }, { name := "ST_APPLIED", type := .int, accessFlags := 25, slot := 34, constantValue := 0 }, { name := "ST_DONE", type := .int, accessFlags := 25, slot := 35, constantValue := 0 }, { name := "n", type := .int, accessFlags := 2, slot := 0, constantValue := 0 }, { name := "cap", type := .int, accessFlags := 2, slot := 1, constantValue := 0 }, { name := "opCount", type := .int, accessFlags := 2, slot := 2, constantValue := 0 }, { name := "opKind", type := (.array .int), accessFlags := 2, slot := 3, constantValue := 0 }, { name := "opArg", type := (.array .int), accessFlags := 2, slot := 4, constantValue := 0 }, { name := "opThread", type := (.array .int), accessFlags := 2, slot := 5, constantValue := 0 }, { name := "opStatus", type := (.array .int), accessFlags := 2, slot := 6, constantValue := 0 }, { name := "opResp", type := (.array .int), accessFlags := 2, slot := 7, constantValue := 0 }, { name := "opPos", type := (.array .int), accessFlags := 2, slot := 8, constantValue := 0 }, { name := "thPhase", type := (.array .int), accessFlags := 2, slot := 9, constantValue := 0 }, { name := "thOwn", type := (.array .int), accessFlags := 2, slot := 10, constantValue := 0 }, { name := "thP", type := (.array .int), accessFlags := 2, slot := 11, constantValue := 0 }, { name := "thC", type := (.array .int), accessFlags := 2, slot := 12, constantValue := 0 }, { name := "thSteps", type := (.array .int), accessFlags := 2, slot := 13, constantValue := 0 }, { name := "thHelped", type := (.array .int), accessFlags := 2, slot := 14, constantValue := 0 }, { name := "thLast", type := (.array .int), accessFlags := 2, slot := 15, constantValue := 0 }, { name := "tailValue", type := .int, accessFlags := 2, slot := 16, constantValue := 0 }, { name := "annId", type := (.array .int), accessFlags := 2, slot := 17, constantValue := 0 }, { name := "annKind", type := (.array .int), accessFlags := 2, slot := 18, constantValue := 0 }, { name := "annArg", type := (.array .int), accessFlags := 2, slot := 19, constantValue := 0 }, { name := "cellPos", type := (.array .int), accessFlags := 2, slot := 20, constantValue := 0 }, { name := "cellId", type := (.array .int), accessFlags := 2, slot := 21, constantValue := 0 }, { name := "cellResp", type := (.array .int), accessFlags := 2, slot := 22, constantValue := 0 }, { name := "cellCounter", type := (.array .int), accessFlags := 2, slot := 23, constantValue := 0 }, { name := "cellQLen", type := (.array .int), accessFlags := 2, slot := 24, constantValue := 0 }, { name := "cellQ", type := (.array .int), accessFlags := 2, slot := 25, constantValue := 0 }, { name := "cellLast", type := (.array .int), accessFlags := 2, slot := 26, constantValue := 0 }]
  methods := #[k2m0, k2m1, k2m2, k2m3, k2m4, k2m5, k2m6, k2m7, k2m8, k2m9, k2m10, k2m11, k2m12, k2m13, k2m14, k2m15, k2m16, k2m17, k2m18, k2m19, k2m20, k2m21, k2m22, k2m23, k2m24, k2m25, k2m26, k2m27, k2m28, k2m29]
  instanceTypes := #[.int, .int, .int, (.array .int), (.array .int), (.array .int), (.array .int), (.array .int), (.array .int), (.array .int), (.array .int), (.array .int), (.array .int), (.array .int), (.array .int), (.array .int), .int, (.array .int), (.array .int), (.array .int), (.array .int), (.array .int), (.array .int), (.array .int), (.array .int), (.array .int), (.array .int)]
  staticTypes := #[.int, .int, .int, .int, .int, .int, .int, .int, .int, .int, .int, .int, .int, .int, .int, .int, .int, .int, .int, .int, .int, .int, .int, .int, .int, .int, .int, .int, .int, .int, .int, .int, .int, .int, .int, .int]
  resolved := Array.replicate 335 none
  statics := none }

def pool3 : Array CpInfo := pool [(1, u "java/lang/Cloneable"), (0, .class_ 1), (0, u "java/lang/Object"), (0, .class_ 3)] 3

/-- java/lang/Cloneable -/
def k3 : Class := { plain "java/lang/Cloneable" (some 0) with
  accessFlags := 1537
  interfaces := #[]
  cf := some (fileOf pool3 2 #[] #[] 1537 4 #[] #[])
  fields := #[]
  methods := #[]
  instanceTypes := #[]
  staticTypes := #[]
  resolved := Array.replicate 8 none
  statics := none }

def pool4 : Array CpInfo := pool [(1, u "java/io/Serializable"), (0, .class_ 1), (0, u "java/lang/Object"), (0, .class_ 3)] 3

/-- java/io/Serializable -/
def k4 : Class := { plain "java/io/Serializable" (some 0) with
  accessFlags := 1537
  interfaces := #[]
  cf := some (fileOf pool4 2 #[] #[] 1537 4 #[] #[])
  fields := #[]
  methods := #[]
  instanceTypes := #[]
  staticTypes := #[]
  resolved := Array.replicate 8 none
  statics := none }

/-- the primitive byte -/
def k5 : Class := { plain "byte" none with kind := .primitive 'B', accessFlags := 0x411 }
/-- [B -/
def k6 : Class := { plain "[B" (some 0) with kind := .array 5 .byte, interfaces := #[3, 4], accessFlags := 1041 }

/-- the primitive int -/
def k7 : Class := { plain "int" none with kind := .primitive 'I', accessFlags := 0x411 }
/-- [I -/
def k8 : Class := { plain "[I" (some 0) with kind := .array 7 .int, interfaces := #[3, 4], accessFlags := 1041 }

def heap : Heap := #[]
def classes : Array Class := #[k0, k1, k2, k3, k4, k5, k6, k7, k8]
def interned : List (Array UInt16 × Addr) := []
def slotsUsed : Nat := 0
def theMethod : MethodId := ⟨1, 1⟩
def args0 : Array Value := #[.int 5, .int 5, .int 5, .int 5, .int 5, .int 5]
def aboutOver (below : List Frame) : State where
  vm := { classes := classes, interned := interned.toArray }
  heap := heap
  slotsUsed := slotsUsed
  threads := #[{ frames := .invoking theMethod args0 :: below }]
def below0 : List Frame := [.native { method := ⟨0, 0⟩, args := #[] }]
def about1 : State := aboutOver below0
def p0 : Program := .bare "" "" ""
def e0 : Env := launch0.env 0 0 0
theorem w_frames : about1.frames = Frame.invoking theMethod args0 :: below0 := rfl
set_option maxRecDepth 65536 in
theorem w_args : argsFit about1.vm theMethod args0 = true := by decide +kernel
set_option maxRecDepth 65536 in
theorem w_heap : heapFits about1 = true := by decide +kernel
set_option maxRecDepth 65536 in
theorem w_runnable : about1.curStatus? = some .runnable := by decide +kernel
set_option maxRecDepth 65536 in
theorem w_alone : about1.alone = true := by decide +kernel
set_option maxRecDepth 65536 in
theorem w_named : about1.methodNamed? x = some theMethod := by decide +kernel
set_option maxRecDepth 65536 in
theorem w_hears : about1.hears theMethod below0 = true := by decide +kernel
set_option maxRecDepth 65536 in
theorem w_ripe : about1.ripe theMethod args0 below0 = true := by decide +kernel
theorem w_running : about1.status = .running := rfl
set_option maxRecDepth 65536 in
theorem w_room : about1.hasRoom e0.platform room_1 = true :=
  launch0.hasRoom_least _ room_1 (by decide +kernel) (by decide +kernel) (by decide +kernel) (by decide +kernel) (by decide +kernel) (by decide +kernel)
theorem allAtoms_all (ts : List Jvm.Cond) (a : Array Jvm.Value) (st : Jvm.State) : (allAtoms ts).before a st = ts.all (fun c => c.before a st) := by
  induction ts with
  | nil => rfl
  | cons c t ih =>
    show (Jvm.Cond.and c (allAtoms t)).before a st = _
    rw [Jvm.Cond.before_and, ih, List.all_cons]
def words1 : List Jvm.Cond := Jvm.Cond.code x code maxLocals ret :: tables_1
/-- a 'code' word, met by the world's own term for the bytes: nothing is compared byte by byte -/
theorem code_word {y : MethodName} {bytes : ByteArray} {mx : Nat} {rt : Option FieldType} {a : Array Value} {s : State} {m : MethodId} {meth : Method} {c : Code} (h1 : s.methodNamed? y = some m) (h2 : s.vm.method? m = some meth) (h3 : meth.code = some c) (h4 : c.code = bytes)
    (h5 : (c.maxLocals == mx && c.exceptionTable.isEmpty && decide (c.maxStack ≤ mostOperands) && decide (meth.sig.returnType = rt) && !meth.locks && decide (parseMethodDescriptor y.desc = some meth.sig)) = true) : (Jvm.Cond.code y bytes mx rt).before a s = true := by
  simp only [Bool.and_eq_true, beq_iff_eq, Bool.not_eq_true', decide_eq_true_eq] at h5
  obtain ⟨⟨⟨⟨⟨g1, g2⟩, g3⟩, g4⟩, g5⟩, g6⟩ := h5
  simp [Cond.before, Cond.holds, Cond.value, h1, h2, h3, h4, g1, g2, g3, g4, g5, g6]
def isCode : Jvm.Cond → Bool
  | .code _ _ _ _ => true
  | _ => false
theorem all_split {L : List Jvm.Cond} {P : Jvm.Cond → Bool} (h1 : L.all (fun c => isCode c || P c) = true) (h2 : ∀ c ∈ L.filter isCode, P c = true) : L.all P = true := by
  refine List.all_eq_true.mpr fun c hc => ?_
  have h := List.all_eq_true.mp h1 c hc
  rcases Bool.eq_false_or_eq_true (isCode c) with hi | hi
  · exact h2 c (List.mem_filter.mpr ⟨hc, hi⟩)
  · simpa [hi] using h
set_option maxRecDepth 65536 in
theorem w_c0 : (Jvm.Cond.code x code maxLocals ret).before args0 about1 = true := code_word (m := ⟨1, 1⟩) (meth := k1m1) (c := k1c1) (by decide +kernel) rfl rfl rfl (by decide +kernel)
set_option maxRecDepth 65536 in
theorem w_c1 : (Jvm.Cond.code ({ cls := "WaitFreeUniversal", name := "<init>", desc := "(II)V" } : Jvm.MethodName) prog_1_method_1_code (3 : Nat) (Option.none : Option Jvm.ClassFile.FieldType)).before args0 about1 = true := code_word (m := ⟨2, 0⟩) (meth := k2m0) (c := k2c0) (by decide +kernel) rfl rfl rfl (by decide +kernel)
set_option maxRecDepth 65536 in
theorem w_c2 : (Jvm.Cond.code ({ cls := "java/lang/Object", name := "<init>", desc := "()V" } : Jvm.MethodName) object_method_1_code (1 : Nat) (Option.none : Option Jvm.ClassFile.FieldType)).before args0 about1 = true := code_word (m := ⟨0, 0⟩) (meth := k0m0) (c := k0c0) (by decide +kernel) rfl rfl rfl (by decide +kernel)
set_option maxRecDepth 65536 in
theorem w_c3 : (Jvm.Cond.code ({ cls := "WaitFreeUniversal", name := "clamp", desc := "(III)I" } : Jvm.MethodName) prog_1_method_18_code (4 : Nat) (Option.some Jvm.ClassFile.FieldType.int)).before args0 about1 = true := code_word (m := ⟨2, 9⟩) (meth := k2m9) (c := k2c9) (by decide +kernel) rfl rfl rfl (by decide +kernel)
set_option maxRecDepth 65536 in
theorem w_c4 : (Jvm.Cond.code ({ cls := "WaitFreeUniversal", name := "resetRecords", desc := "()V" } : Jvm.MethodName) prog_1_method_27_code (2 : Nat) (Option.none : Option Jvm.ClassFile.FieldType)).before args0 about1 = true := code_word (m := ⟨2, 14⟩) (meth := k2m14) (c := k2c14) (by decide +kernel) rfl rfl rfl (by decide +kernel)
set_option maxRecDepth 65536 in
theorem w_c5 : (Jvm.Cond.code ({ cls := "WaitFreeUniversal", name := "resetThreads", desc := "()V" } : Jvm.MethodName) prog_1_method_28_code (2 : Nat) (Option.none : Option Jvm.ClassFile.FieldType)).before args0 about1 = true := code_word (m := ⟨2, 15⟩) (meth := k2m15) (c := k2c15) (by decide +kernel) rfl rfl rfl (by decide +kernel)
set_option maxRecDepth 65536 in
theorem w_c6 : (Jvm.Cond.code ({ cls := "WaitFreeUniversal", name := "clearThreadLast", desc := "(I)V" } : Jvm.MethodName) prog_1_method_45_code (3 : Nat) (Option.none : Option Jvm.ClassFile.FieldType)).before args0 about1 = true := code_word (m := ⟨2, 26⟩) (meth := k2m26) (c := k2c26) (by decide +kernel) rfl rfl rfl (by decide +kernel)
set_option maxRecDepth 65536 in
theorem w_c7 : (Jvm.Cond.code ({ cls := "WaitFreeUniversal", name := "setThreadLast", desc := "(III)V" } : Jvm.MethodName) prog_1_method_47_code (4 : Nat) (Option.none : Option Jvm.ClassFile.FieldType)).before args0 about1 = true := code_word (m := ⟨2, 27⟩) (meth := k2m27) (c := k2c27) (by decide +kernel) rfl rfl rfl (by decide +kernel)
set_option maxRecDepth 65536 in
theorem w_c8 : (Jvm.Cond.code ({ cls := "WaitFreeUniversal", name := "resetAnnounces", desc := "()V" } : Jvm.MethodName) prog_1_method_29_code (2 : Nat) (Option.none : Option Jvm.ClassFile.FieldType)).before args0 about1 = true := code_word (m := ⟨2, 16⟩) (meth := k2m16) (c := k2c16) (by decide +kernel) rfl rfl rfl (by decide +kernel)
set_option maxRecDepth 65536 in
theorem w_c9 : (Jvm.Cond.code ({ cls := "WaitFreeUniversal", name := "resetCells", desc := "()V" } : Jvm.MethodName) prog_1_method_30_code (2 : Nat) (Option.none : Option Jvm.ClassFile.FieldType)).before args0 about1 = true := code_word (m := ⟨2, 17⟩) (meth := k2m17) (c := k2c17) (by decide +kernel) rfl rfl rfl (by decide +kernel)
set_option maxRecDepth 65536 in
theorem w_c10 : (Jvm.Cond.code ({ cls := "WaitFreeUniversal", name := "clearCellQueue", desc := "(I)V" } : Jvm.MethodName) prog_1_method_31_code (3 : Nat) (Option.none : Option Jvm.ClassFile.FieldType)).before args0 about1 = true := code_word (m := ⟨2, 18⟩) (meth := k2m18) (c := k2c18) (by decide +kernel) rfl rfl rfl (by decide +kernel)
set_option maxRecDepth 65536 in
theorem w_c11 : (Jvm.Cond.code ({ cls := "WaitFreeUniversal", name := "writeQueueSlot", desc := "(III)V" } : Jvm.MethodName) prog_1_method_57_code (4 : Nat) (Option.none : Option Jvm.ClassFile.FieldType)).before args0 about1 = true := code_word (m := ⟨2, 28⟩) (meth := k2m28) (c := k2c28) (by decide +kernel) rfl rfl rfl (by decide +kernel)
set_option maxRecDepth 65536 in
theorem w_c12 : (Jvm.Cond.code ({ cls := "WaitFreeUniversal", name := "clearCellLast", desc := "(I)V" } : Jvm.MethodName) prog_1_method_32_code (3 : Nat) (Option.none : Option Jvm.ClassFile.FieldType)).before args0 about1 = true := code_word (m := ⟨2, 19⟩) (meth := k2m19) (c := k2c19) (by decide +kernel) rfl rfl rfl (by decide +kernel)
set_option maxRecDepth 65536 in
theorem w_c13 : (Jvm.Cond.code ({ cls := "WaitFreeUniversal", name := "setCellLast", desc := "(III)V" } : Jvm.MethodName) prog_1_method_59_code (4 : Nat) (Option.none : Option Jvm.ClassFile.FieldType)).before args0 about1 = true := code_word (m := ⟨2, 29⟩) (meth := k2m29) (c := k2c29) (by decide +kernel) rfl rfl rfl (by decide +kernel)
set_option maxRecDepth 65536 in
theorem w_c14 : (Jvm.Cond.code ({ cls := "WaitFreeUniversal", name := "invoke", desc := "(III)I" } : Jvm.MethodName) prog_1_method_2_code (4 : Nat) (Option.some Jvm.ClassFile.FieldType.int)).before args0 about1 = true := code_word (m := ⟨2, 1⟩) (meth := k2m1) (c := k2c1) (by decide +kernel) rfl rfl rfl (by decide +kernel)
set_option maxRecDepth 65536 in
theorem w_c15 : (Jvm.Cond.code ({ cls := "WaitFreeUniversal", name := "validThread", desc := "(I)Z" } : Jvm.MethodName) prog_1_method_19_code (2 : Nat) (Option.some Jvm.ClassFile.FieldType.boolean)).before args0 about1 = true := code_word (m := ⟨2, 10⟩) (meth := k2m10) (c := k2c10) (by decide +kernel) rfl rfl rfl (by decide +kernel)
set_option maxRecDepth 65536 in
theorem w_c16 : (Jvm.Cond.code ({ cls := "WaitFreeUniversal", name := "step", desc := "(I)I" } : Jvm.MethodName) prog_1_method_3_code (3 : Nat) (Option.some Jvm.ClassFile.FieldType.int)).before args0 about1 = true := code_word (m := ⟨2, 2⟩) (meth := k2m2) (c := k2c2) (by decide +kernel) rfl rfl rfl (by decide +kernel)
set_option maxRecDepth 65536 in
theorem w_c17 : (Jvm.Cond.code ({ cls := "WaitFreeUniversal", name := "announcedId", desc := "(I)I" } : Jvm.MethodName) prog_1_method_8_code (2 : Nat) (Option.some Jvm.ClassFile.FieldType.int)).before args0 about1 = true := code_word (m := ⟨2, 4⟩) (meth := k2m4) (c := k2c4) (by decide +kernel) rfl rfl rfl (by decide +kernel)
set_option maxRecDepth 65536 in
theorem w_c18 : (Jvm.Cond.code ({ cls := "WaitFreeUniversal", name := "phase", desc := "(I)I" } : Jvm.MethodName) prog_1_method_5_code (2 : Nat) (Option.some Jvm.ClassFile.FieldType.int)).before args0 about1 = true := code_word (m := ⟨2, 3⟩) (meth := k2m3) (c := k2c3) (by decide +kernel) rfl rfl rfl (by decide +kernel)
set_option maxRecDepth 65536 in
theorem w_c19 : (Jvm.Cond.code ({ cls := "WaitFreeUniversal", name := "ownSteps", desc := "(I)I" } : Jvm.MethodName) prog_1_method_9_code (2 : Nat) (Option.some Jvm.ClassFile.FieldType.int)).before args0 about1 = true := code_word (m := ⟨2, 5⟩) (meth := k2m5) (c := k2c5) (by decide +kernel) rfl rfl rfl (by decide +kernel)
set_option maxRecDepth 65536 in
theorem w_c20 : (Jvm.Cond.code ({ cls := "WaitFreeUniversal", name := "operationCount", desc := "()I" } : Jvm.MethodName) prog_1_method_17_code (1 : Nat) (Option.some Jvm.ClassFile.FieldType.int)).before args0 about1 = true := code_word (m := ⟨2, 8⟩) (meth := k2m8) (c := k2c8) (by decide +kernel) rfl rfl rfl (by decide +kernel)
set_option maxRecDepth 65536 in
theorem w_c21 : (Jvm.Cond.code ({ cls := "WaitFreeUniversal", name := "tail", desc := "()I" } : Jvm.MethodName) prog_1_method_10_code (1 : Nat) (Option.some Jvm.ClassFile.FieldType.int)).before args0 about1 = true := code_word (m := ⟨2, 6⟩) (meth := k2m6) (c := k2c6) (by decide +kernel) rfl rfl rfl (by decide +kernel)
set_option maxRecDepth 65536 in
theorem w_c22 : (Jvm.Cond.code ({ cls := "WaitFreeUniversal", name := "statusOf", desc := "(I)I" } : Jvm.MethodName) prog_1_method_14_code (2 : Nat) (Option.some Jvm.ClassFile.FieldType.int)).before args0 about1 = true := code_word (m := ⟨2, 7⟩) (meth := k2m7) (c := k2c7) (by decide +kernel) rfl rfl rfl (by decide +kernel)
set_option maxRecDepth 65536 in
theorem w_c23 : (Jvm.Cond.code ({ cls := "WaitFreeUniversal", name := "isId", desc := "(I)Z" } : Jvm.MethodName) prog_1_method_22_code (2 : Nat) (Option.some Jvm.ClassFile.FieldType.boolean)).before args0 about1 = true := code_word (m := ⟨2, 13⟩) (meth := k2m13) (c := k2c13) (by decide +kernel) rfl rfl rfl (by decide +kernel)
set_option maxRecDepth 65536 in
theorem w_c24 : (Jvm.Cond.code ({ cls := "WaitFreeUniversalL2", name := "fresh", desc := "(ZII)I" } : Jvm.MethodName) method_3_code (3 : Nat) (Option.some Jvm.ClassFile.FieldType.int)).before args0 about1 = true := code_word (m := ⟨1, 2⟩) (meth := k1m2) (c := k1c2) (by decide +kernel) rfl rfl rfl (by decide +kernel)
set_option maxRecDepth 65536 in
theorem w_c25 : (Jvm.Cond.code ({ cls := "WaitFreeUniversal", name := "validKind", desc := "(I)Z" } : Jvm.MethodName) prog_1_method_20_code (2 : Nat) (Option.some Jvm.ClassFile.FieldType.boolean)).before args0 about1 = true := code_word (m := ⟨2, 11⟩) (meth := k2m11) (c := k2c11) (by decide +kernel) rfl rfl rfl (by decide +kernel)
set_option maxRecDepth 65536 in
theorem w_c26 : (Jvm.Cond.code ({ cls := "WaitFreeUniversal", name := "validEnqValue", desc := "(I)Z" } : Jvm.MethodName) prog_1_method_21_code (2 : Nat) (Option.some Jvm.ClassFile.FieldType.boolean)).before args0 about1 = true := code_word (m := ⟨2, 12⟩) (meth := k2m12) (c := k2c12) (by decide +kernel) rfl rfl rfl (by decide +kernel)
set_option maxRecDepth 65536 in
theorem w_c27 : (Jvm.Cond.code ({ cls := "WaitFreeUniversal", name := "acceptInvoke", desc := "(III)I" } : Jvm.MethodName) prog_1_method_33_code (5 : Nat) (Option.some Jvm.ClassFile.FieldType.int)).before args0 about1 = true := code_word (m := ⟨2, 20⟩) (meth := k2m20) (c := k2c20) (by decide +kernel) rfl rfl rfl (by decide +kernel)
set_option maxRecDepth 65536 in
theorem w_c28 : (Jvm.Cond.code ({ cls := "WaitFreeUniversal", name := "recordOperation", desc := "(IIII)V" } : Jvm.MethodName) prog_1_method_34_code (5 : Nat) (Option.none : Option Jvm.ClassFile.FieldType)).before args0 about1 = true := code_word (m := ⟨2, 21⟩) (meth := k2m21) (c := k2c21) (by decide +kernel) rfl rfl rfl (by decide +kernel)
set_option maxRecDepth 65536 in
theorem w_c29 : (Jvm.Cond.code ({ cls := "WaitFreeUniversal", name := "dispatch", desc := "(II)I" } : Jvm.MethodName) prog_1_method_37_code (3 : Nat) (Option.some Jvm.ClassFile.FieldType.int)).before args0 about1 = true := code_word (m := ⟨2, 24⟩) (meth := k2m24) (c := k2c24) (by decide +kernel) rfl rfl rfl (by decide +kernel)
set_option maxRecDepth 65536 in
theorem w_c30 : (Jvm.Cond.code ({ cls := "WaitFreeUniversal", name := "stepAnnounce", desc := "(I)I" } : Jvm.MethodName) prog_1_method_38_code (3 : Nat) (Option.some Jvm.ClassFile.FieldType.int)).before args0 about1 = true := code_word (m := ⟨2, 25⟩) (meth := k2m25) (c := k2c25) (by decide +kernel) rfl rfl rfl (by decide +kernel)
set_option maxRecDepth 65536 in
theorem w_c31 : (Jvm.Cond.code ({ cls := "WaitFreeUniversal", name := "kindOf", desc := "(I)I" } : Jvm.MethodName) prog_1_method_35_code (2 : Nat) (Option.some Jvm.ClassFile.FieldType.int)).before args0 about1 = true := code_word (m := ⟨2, 22⟩) (meth := k2m22) (c := k2c22) (by decide +kernel) rfl rfl rfl (by decide +kernel)
set_option maxRecDepth 65536 in
theorem w_c32 : (Jvm.Cond.code ({ cls := "WaitFreeUniversal", name := "argOf", desc := "(I)I" } : Jvm.MethodName) prog_1_method_36_code (2 : Nat) (Option.some Jvm.ClassFile.FieldType.int)).before args0 about1 = true := code_word (m := ⟨2, 23⟩) (meth := k2m23) (c := k2c23) (by decide +kernel) rfl rfl rfl (by decide +kernel)
def codes1 : List Jvm.Cond := [Jvm.Cond.code x code maxLocals ret, Jvm.Cond.code ({ cls := "WaitFreeUniversal", name := "<init>", desc := "(II)V" } : Jvm.MethodName) prog_1_method_1_code (3 : Nat) (Option.none : Option Jvm.ClassFile.FieldType), Jvm.Cond.code ({ cls := "java/lang/Object", name := "<init>", desc := "()V" } : Jvm.MethodName) object_method_1_code (1 : Nat) (Option.none : Option Jvm.ClassFile.FieldType), Jvm.Cond.code ({ cls := "WaitFreeUniversal", name := "clamp", desc := "(III)I" } : Jvm.MethodName) prog_1_method_18_code (4 : Nat) (Option.some Jvm.ClassFile.FieldType.int), Jvm.Cond.code ({ cls := "WaitFreeUniversal", name := "resetRecords", desc := "()V" } : Jvm.MethodName) prog_1_method_27_code (2 : Nat) (Option.none : Option Jvm.ClassFile.FieldType), Jvm.Cond.code ({ cls := "WaitFreeUniversal", name := "resetThreads", desc := "()V" } : Jvm.MethodName) prog_1_method_28_code (2 : Nat) (Option.none : Option Jvm.ClassFile.FieldType), Jvm.Cond.code ({ cls := "WaitFreeUniversal", name := "clearThreadLast", desc := "(I)V" } : Jvm.MethodName) prog_1_method_45_code (3 : Nat) (Option.none : Option Jvm.ClassFile.FieldType), Jvm.Cond.code ({ cls := "WaitFreeUniversal", name := "setThreadLast", desc := "(III)V" } : Jvm.MethodName) prog_1_method_47_code (4 : Nat) (Option.none : Option Jvm.ClassFile.FieldType), Jvm.Cond.code ({ cls := "WaitFreeUniversal", name := "resetAnnounces", desc := "()V" } : Jvm.MethodName) prog_1_method_29_code (2 : Nat) (Option.none : Option Jvm.ClassFile.FieldType), Jvm.Cond.code ({ cls := "WaitFreeUniversal", name := "resetCells", desc := "()V" } : Jvm.MethodName) prog_1_method_30_code (2 : Nat) (Option.none : Option Jvm.ClassFile.FieldType), Jvm.Cond.code ({ cls := "WaitFreeUniversal", name := "clearCellQueue", desc := "(I)V" } : Jvm.MethodName) prog_1_method_31_code (3 : Nat) (Option.none : Option Jvm.ClassFile.FieldType), Jvm.Cond.code ({ cls := "WaitFreeUniversal", name := "writeQueueSlot", desc := "(III)V" } : Jvm.MethodName) prog_1_method_57_code (4 : Nat) (Option.none : Option Jvm.ClassFile.FieldType), Jvm.Cond.code ({ cls := "WaitFreeUniversal", name := "clearCellLast", desc := "(I)V" } : Jvm.MethodName) prog_1_method_32_code (3 : Nat) (Option.none : Option Jvm.ClassFile.FieldType), Jvm.Cond.code ({ cls := "WaitFreeUniversal", name := "setCellLast", desc := "(III)V" } : Jvm.MethodName) prog_1_method_59_code (4 : Nat) (Option.none : Option Jvm.ClassFile.FieldType), Jvm.Cond.code ({ cls := "WaitFreeUniversal", name := "invoke", desc := "(III)I" } : Jvm.MethodName) prog_1_method_2_code (4 : Nat) (Option.some Jvm.ClassFile.FieldType.int), Jvm.Cond.code ({ cls := "WaitFreeUniversal", name := "validThread", desc := "(I)Z" } : Jvm.MethodName) prog_1_method_19_code (2 : Nat) (Option.some Jvm.ClassFile.FieldType.boolean), Jvm.Cond.code ({ cls := "WaitFreeUniversal", name := "step", desc := "(I)I" } : Jvm.MethodName) prog_1_method_3_code (3 : Nat) (Option.some Jvm.ClassFile.FieldType.int), Jvm.Cond.code ({ cls := "WaitFreeUniversal", name := "announcedId", desc := "(I)I" } : Jvm.MethodName) prog_1_method_8_code (2 : Nat) (Option.some Jvm.ClassFile.FieldType.int), Jvm.Cond.code ({ cls := "WaitFreeUniversal", name := "phase", desc := "(I)I" } : Jvm.MethodName) prog_1_method_5_code (2 : Nat) (Option.some Jvm.ClassFile.FieldType.int), Jvm.Cond.code ({ cls := "WaitFreeUniversal", name := "ownSteps", desc := "(I)I" } : Jvm.MethodName) prog_1_method_9_code (2 : Nat) (Option.some Jvm.ClassFile.FieldType.int), Jvm.Cond.code ({ cls := "WaitFreeUniversal", name := "operationCount", desc := "()I" } : Jvm.MethodName) prog_1_method_17_code (1 : Nat) (Option.some Jvm.ClassFile.FieldType.int), Jvm.Cond.code ({ cls := "WaitFreeUniversal", name := "tail", desc := "()I" } : Jvm.MethodName) prog_1_method_10_code (1 : Nat) (Option.some Jvm.ClassFile.FieldType.int), Jvm.Cond.code ({ cls := "WaitFreeUniversal", name := "statusOf", desc := "(I)I" } : Jvm.MethodName) prog_1_method_14_code (2 : Nat) (Option.some Jvm.ClassFile.FieldType.int), Jvm.Cond.code ({ cls := "WaitFreeUniversal", name := "isId", desc := "(I)Z" } : Jvm.MethodName) prog_1_method_22_code (2 : Nat) (Option.some Jvm.ClassFile.FieldType.boolean), Jvm.Cond.code ({ cls := "WaitFreeUniversalL2", name := "fresh", desc := "(ZII)I" } : Jvm.MethodName) method_3_code (3 : Nat) (Option.some Jvm.ClassFile.FieldType.int), Jvm.Cond.code ({ cls := "WaitFreeUniversal", name := "validKind", desc := "(I)Z" } : Jvm.MethodName) prog_1_method_20_code (2 : Nat) (Option.some Jvm.ClassFile.FieldType.boolean), Jvm.Cond.code ({ cls := "WaitFreeUniversal", name := "validEnqValue", desc := "(I)Z" } : Jvm.MethodName) prog_1_method_21_code (2 : Nat) (Option.some Jvm.ClassFile.FieldType.boolean), Jvm.Cond.code ({ cls := "WaitFreeUniversal", name := "acceptInvoke", desc := "(III)I" } : Jvm.MethodName) prog_1_method_33_code (5 : Nat) (Option.some Jvm.ClassFile.FieldType.int), Jvm.Cond.code ({ cls := "WaitFreeUniversal", name := "recordOperation", desc := "(IIII)V" } : Jvm.MethodName) prog_1_method_34_code (5 : Nat) (Option.none : Option Jvm.ClassFile.FieldType), Jvm.Cond.code ({ cls := "WaitFreeUniversal", name := "dispatch", desc := "(II)I" } : Jvm.MethodName) prog_1_method_37_code (3 : Nat) (Option.some Jvm.ClassFile.FieldType.int), Jvm.Cond.code ({ cls := "WaitFreeUniversal", name := "stepAnnounce", desc := "(I)I" } : Jvm.MethodName) prog_1_method_38_code (3 : Nat) (Option.some Jvm.ClassFile.FieldType.int), Jvm.Cond.code ({ cls := "WaitFreeUniversal", name := "kindOf", desc := "(I)I" } : Jvm.MethodName) prog_1_method_35_code (2 : Nat) (Option.some Jvm.ClassFile.FieldType.int), Jvm.Cond.code ({ cls := "WaitFreeUniversal", name := "argOf", desc := "(I)I" } : Jvm.MethodName) prog_1_method_36_code (2 : Nat) (Option.some Jvm.ClassFile.FieldType.int)]
set_option maxRecDepth 65536 in
theorem codes_eq : words1.filter isCode = codes1 := rfl
theorem w_codes : ∀ c ∈ words1.filter isCode, c.before args0 about1 = true := by
  rw [codes_eq]
  intro c hc
  simp only [codes1, List.mem_cons, List.not_mem_nil, or_false] at hc
  rcases hc with rfl | rfl | rfl | rfl | rfl | rfl | rfl | rfl | rfl | rfl | rfl | rfl | rfl | rfl | rfl | rfl | rfl | rfl | rfl | rfl | rfl | rfl | rfl | rfl | rfl | rfl | rfl | rfl | rfl | rfl | rfl | rfl | rfl
  · exact w_c0
  · exact w_c1
  · exact w_c2
  · exact w_c3
  · exact w_c4
  · exact w_c5
  · exact w_c6
  · exact w_c7
  · exact w_c8
  · exact w_c9
  · exact w_c10
  · exact w_c11
  · exact w_c12
  · exact w_c13
  · exact w_c14
  · exact w_c15
  · exact w_c16
  · exact w_c17
  · exact w_c18
  · exact w_c19
  · exact w_c20
  · exact w_c21
  · exact w_c22
  · exact w_c23
  · exact w_c24
  · exact w_c25
  · exact w_c26
  · exact w_c27
  · exact w_c28
  · exact w_c29
  · exact w_c30
  · exact w_c31
  · exact w_c32
set_option maxRecDepth 65536 in
theorem w_t1 : (words1.take 24).all (fun c => isCode c || c.before args0 about1) = true := by decide +kernel
set_option maxRecDepth 65536 in
theorem w_t2 : ((words1.drop 24).take 24).all (fun c => isCode c || c.before args0 about1) = true := by decide +kernel
set_option maxRecDepth 65536 in
theorem w_t3 : (((words1.drop 24).drop 24).take 24).all (fun c => isCode c || c.before args0 about1) = true := by decide +kernel
set_option maxRecDepth 65536 in
theorem w_t4 : ((((words1.drop 24).drop 24).drop 24).take 24).all (fun c => isCode c || c.before args0 about1) = true := by decide +kernel
set_option maxRecDepth 65536 in
theorem w_t5 : (((((words1.drop 24).drop 24).drop 24).drop 24).take 24).all (fun c => isCode c || c.before args0 about1) = true := by decide +kernel
set_option maxRecDepth 65536 in
theorem w_t6 : ((((((words1.drop 24).drop 24).drop 24).drop 24).drop 24).take 24).all (fun c => isCode c || c.before args0 about1) = true := by decide +kernel
set_option maxRecDepth 65536 in
theorem w_t7 : (((((((words1.drop 24).drop 24).drop 24).drop 24).drop 24).drop 24).take 24).all (fun c => isCode c || c.before args0 about1) = true := by decide +kernel
set_option maxRecDepth 65536 in
theorem w_t8 : ((((((((words1.drop 24).drop 24).drop 24).drop 24).drop 24).drop 24).drop 24).take 24).all (fun c => isCode c || c.before args0 about1) = true := by decide +kernel
set_option maxRecDepth 65536 in
theorem w_t9 : ((((((((words1.drop 24).drop 24).drop 24).drop 24).drop 24).drop 24).drop 24).drop 24).all (fun c => isCode c || c.before args0 about1) = true := by decide +kernel
theorem w_tables : (allAtoms (Jvm.Cond.code x code maxLocals ret :: tables_1)).before args0 about1 = true := by
  rw [allAtoms_all]
  show words1.all (fun c => c.before args0 about1) = true
  refine all_split ?_ w_codes
  rw [← List.take_append_drop 24 words1, List.all_append, w_t1, ← List.take_append_drop 24 (words1.drop 24), List.all_append, w_t2, ← List.take_append_drop 24 ((words1.drop 24).drop 24), List.all_append, w_t3, ← List.take_append_drop 24 (((words1.drop 24).drop 24).drop 24), List.all_append, w_t4, ← List.take_append_drop 24 ((((words1.drop 24).drop 24).drop 24).drop 24), List.all_append, w_t5, ← List.take_append_drop 24 (((((words1.drop 24).drop 24).drop 24).drop 24).drop 24), List.all_append, w_t6, ← List.take_append_drop 24 ((((((words1.drop 24).drop 24).drop 24).drop 24).drop 24).drop 24), List.all_append, w_t7, ← List.take_append_drop 24 (((((((words1.drop 24).drop 24).drop 24).drop 24).drop 24).drop 24).drop 24), List.all_append, w_t8, w_t9]
  rfl
set_option maxRecDepth 65536 in
theorem w_case : (Jvm.Cond.and given_1 narrow_1).before args0 about1 = true := by decide +kernel
theorem w_applies : (headSpec (Jvm.Cond.code x code maxLocals ret :: tables_1) room_1).applies x e0.platform about1 = true :=
  (Spec.applies_iff w_frames).mpr ⟨w_running, w_runnable, w_alone, w_named, w_hears, w_ripe, w_room, w_tables⟩
theorem atStart : AtStart classFile x code maxLocals ret World_1 tables_1 room_1 Calls_1 rest_1 Pre_1 launch0 p0 e0 about1 theMethod args0 below0 :=
  ⟨lists_1, trivial, launch0.admits_env _ _ _, launch0.least_env, fairChoices_fair.cas, fairChoices_fair.clock, w_frames, w_args, w_heap, w_applies, trivial, trivial, w_case⟩
end start1
theorem witness_1 : WitnessClaimed_1 := ⟨start1.p0, start1.e0, start1.about1, start1.theMethod, start1.args0, start1.below0, start1.atStart⟩
end Jvm.Pilot.@@N@@
