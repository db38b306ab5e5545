import JvmDerived
import JvmDerived.Pilot.@@N@@Statement
import JvmDerived.Pilot.@@N@@Code
set_option linter.unusedVariables false
set_option linter.unusedSimpArgs false
namespace Jvm.OwnFlat
open Jvm Jvm.ClassFile Sem Op Lib Jvm.Free Jvm.Stand Jvm.LawKit Jvm.RoadKit
/-! ## 1. the abstract object: int-like fields, longs, arrays of int-like values -/
abbrev St : Type := (Nat → Int32) × (Nat → Int64) × (Nat → Int → Int32)
def gI (σ : St) (k : Nat) : Int32 := σ.1 k
def gL (σ : St) (k : Nat) : Int64 := σ.2.1 k
def gA (σ : St) (k : Nat) (i : Int) : Int32 := σ.2.2 k i
def sI (σ : St) (k : Nat) (v : Int32) : St := (fun q => if q = k then v else σ.1 q, σ.2.1, σ.2.2)
def sL (σ : St) (k : Nat) (v : Int64) : St := (σ.1, fun q => if q = k then v else σ.2.1 q, σ.2.2)
def sA (σ : St) (k : Nat) (i : Int) (v : Int32) : St := (σ.1, σ.2.1, fun q j => if q = k ∧ j = i then v else σ.2.2 q j)
def z0 : St := (fun _ => 0, fun _ => 0, fun _ _ => 0)
theorem gI_sI (σ : St) (k q : Nat) (v : Int32) : gI (sI σ k v) q = if q = k then v else gI σ q := rfl
theorem gI_sL (σ : St) (k q : Nat) (v : Int64) : gI (sL σ k v) q = gI σ q := rfl
theorem gI_sA (σ : St) (k q : Nat) (i : Int) (v : Int32) : gI (sA σ k i v) q = gI σ q := rfl
theorem gL_sI (σ : St) (k q : Nat) (v : Int32) : gL (sI σ k v) q = gL σ q := rfl
theorem gL_sL (σ : St) (k q : Nat) (v : Int64) : gL (sL σ k v) q = if q = k then v else gL σ q := rfl
theorem gL_sA (σ : St) (k q : Nat) (i : Int) (v : Int32) : gL (sA σ k i v) q = gL σ q := rfl
theorem gA_sI (σ : St) (k q : Nat) (j : Int) (v : Int32) : gA (sI σ k v) q j = gA σ q j := rfl
theorem gA_sL (σ : St) (k q : Nat) (j : Int) (v : Int64) : gA (sL σ k v) q j = gA σ q j := rfl
theorem gA_sA (σ : St) (k q : Nat) (i j : Int) (v : Int32) : gA (sA σ k i v) q j = if q = k ∧ j = i then v else gA σ q j := rfl
/-! ## 2. values and local variables -/
def up (ad : Nat → Addr) : Value → Value
  | .ref k => .ref (ad k)
  | v => v
theorem up_cat (ad : Nat → Addr) (v : Value) : (up ad v).category = v.category := by cases v <;> rfl
theorem up_cats (ad : Nat → Addr) (st : List Value) : ((st.map (up ad)).map fun v => v.category) = st.map fun v => v.category := by
  rw [List.map_map]; exact List.map_congr_left fun v _ => up_cat ad v
def WF (A : Array Slot) : Prop := (∀ i : Nat, A[i]? = some Slot.second → ∃ (j : Nat) (w : Value), i = j + 1 ∧ A[j]? = some (Slot.val w) ∧ w.category = 2) ∧ ∀ (i : Nat) (w : Value), A[i]? = some (Slot.val w) → w.category = 2 → A[i + 1]? = some Slot.second
def LocOK (ad : Nat → Addr) (L : List (Option Value)) (A : Array Slot) : Prop := A.size = L.length ∧ WF A ∧ ∀ (i : Nat) (v : Value), L[i]? = some (some v) → A[i]? = some (Slot.val (up ad v))
def isL2 : Option (Option Value) → Bool
  | some (some v) => v.category == 2
  | _ => false
def st1 (L : List (Option Value)) (i : Nat) (v : Value) : List (Option Value) := (bif isL2 L[i - 1]? then L.set (i - 1) none else L).set i (some v)
def st2 (L : List (Option Value)) (i : Nat) (v : Value) : List (Option Value) := (st1 L i v).set (i + 1) none
theorem cat12 (v : Value) : v.category = 1 ∨ v.category = 2 := by cases v <;> simp [Value.category]
theorem store_c1 {A : Array Slot} {i : Nat} {v : Value} (hw : WF A) (hi : i < A.size) (hv : v.category = 1) :
    ∃ A', storeLocals A i v = some A' ∧ A'.size = A.size ∧ A'[i]? = some (Slot.val v) ∧ WF A' ∧
      ∀ k, k ≠ i → A'[k]? = A[k]? ∨ (k + 1 = i ∧ A[i]? = some .second) ∨ A[k]? = some .second := by
  obtain ⟨w1, w2⟩ := hw
  have hA : A[i]? = some A[i] := Array.getElem?_eq_getElem hi
  cases hc : A[i] with
  | second =>
    rw [hc] at hA
    obtain ⟨j, w, rfl, hj, hw2⟩ := w1 i hA
    have hj' : j < A.size := by omega
    refine ⟨(A.setIfInBounds j .unset).setIfInBounds (j + 1) (.val v), ?_, by simp, by simp [hi], ⟨fun k hk => ?_, fun k u hk hu => ?_⟩, fun k hk => ?_⟩
    · simp [storeLocals, storeSelf, setAt, hc, hi, hj', hv]
    · by_cases e1 : j + 1 = k
      · subst e1; simp [hi] at hk
      · by_cases e2 : j = k
        · subst e2; simp [hj'] at hk
        · rw [Array.getElem?_setIfInBounds_ne e1, Array.getElem?_setIfInBounds_ne e2] at hk
          obtain ⟨q, u, rfl, h1, h2⟩ := w1 k hk
          refine ⟨q, u, rfl, ?_, h2⟩
          have n1 : j + 1 ≠ q := fun z => by subst z; rw [hA] at h1; cases h1
          have n2 : j ≠ q := fun z => by omega
          rw [Array.getElem?_setIfInBounds_ne n1, Array.getElem?_setIfInBounds_ne n2]; exact h1
    · by_cases e1 : j + 1 = k
      · subst e1; simp [hi] at hk; subst hk; omega
      · by_cases e2 : j = k
        · subst e2; simp [hj'] at hk
        · rw [Array.getElem?_setIfInBounds_ne e1, Array.getElem?_setIfInBounds_ne e2] at hk
          have := w2 k u hk hu
          have n1 : j + 1 ≠ k + 1 := by omega
          have n2 : j ≠ k + 1 := fun z => by subst z; rw [hj] at this; cases this
          rw [Array.getElem?_setIfInBounds_ne n1, Array.getElem?_setIfInBounds_ne n2]; exact this
    · by_cases e2 : j = k
      · subst e2; exact Or.inr (Or.inl ⟨rfl, hA⟩)
      · rw [Array.getElem?_setIfInBounds_ne (Ne.symm hk), Array.getElem?_setIfInBounds_ne e2]; exact Or.inl rfl
  | unset =>
    rw [hc] at hA
    refine ⟨A.setIfInBounds i (.val v), by simp [storeLocals, storeSelf, setAt, hc, hi, hv], by simp, by simp [hi], ⟨fun k hk => ?_, fun k u hk hu => ?_⟩, fun k hk => by rw [Array.getElem?_setIfInBounds_ne (Ne.symm hk)]; exact Or.inl rfl⟩
    · by_cases e1 : i = k
      · subst e1; simp [hi] at hk
      · rw [Array.getElem?_setIfInBounds_ne e1] at hk
        obtain ⟨q, u, rfl, h1, h2⟩ := w1 k hk
        have n1 : i ≠ q := fun z => by subst z; rw [hA] at h1; cases h1
        exact ⟨q, u, rfl, by rw [Array.getElem?_setIfInBounds_ne n1]; exact h1, h2⟩
    · by_cases e1 : i = k
      · subst e1; simp [hi] at hk; subst hk; omega
      · rw [Array.getElem?_setIfInBounds_ne e1] at hk
        have := w2 k u hk hu
        have n1 : i ≠ k + 1 := fun z => by subst z; rw [hA] at this; cases this
        rw [Array.getElem?_setIfInBounds_ne n1]; exact this
  | val old =>
    rw [hc] at hA
    rcases cat12 old with ho | ho
    · refine ⟨A.setIfInBounds i (.val v), by simp [storeLocals, storeSelf, setAt, hc, hi, hv, ho], by simp, by simp [hi], ⟨fun k hk => ?_, fun k u hk hu => ?_⟩, fun k hk => by rw [Array.getElem?_setIfInBounds_ne (Ne.symm hk)]; exact Or.inl rfl⟩
      · by_cases e1 : i = k
        · subst e1; simp [hi] at hk
        · rw [Array.getElem?_setIfInBounds_ne e1] at hk
          obtain ⟨q, u, rfl, h1, h2⟩ := w1 k hk
          have n1 : i ≠ q := fun z => by subst z; rw [hA] at h1; cases h1; omega
          exact ⟨q, u, rfl, by rw [Array.getElem?_setIfInBounds_ne n1]; exact h1, h2⟩
      · by_cases e1 : i = k
        · subst e1; simp [hi] at hk; subst hk; omega
        · rw [Array.getElem?_setIfInBounds_ne e1] at hk
          have := w2 k u hk hu
          have n1 : i ≠ k + 1 := fun z => by subst z; rw [hA] at this; cases this
          rw [Array.getElem?_setIfInBounds_ne n1]; exact this
    · have hs := w2 i old hA ho
      have hi' : i + 1 < A.size := (Array.getElem?_eq_some_iff.mp hs).1
      refine ⟨(A.setIfInBounds (i + 1) .unset).setIfInBounds i (.val v), by simp [storeLocals, storeSelf, setAt, hc, hi, hi', hv, ho], by simp, by simp [hi], ⟨fun k hk => ?_, fun k u hk hu => ?_⟩, fun k hk => ?_⟩
      · by_cases e1 : i = k
        · subst e1; simp [hi] at hk
        · by_cases e2 : i + 1 = k
          · subst e2; rw [Array.getElem?_setIfInBounds_ne e1] at hk; simp [hi'] at hk
          · rw [Array.getElem?_setIfInBounds_ne e1, Array.getElem?_setIfInBounds_ne e2] at hk
            obtain ⟨q, u, rfl, h1, h2⟩ := w1 k hk
            have n1 : i ≠ q := fun z => by omega
            have n2 : i + 1 ≠ q := fun z => by subst z; rw [hs] at h1; cases h1
            exact ⟨q, u, rfl, by rw [Array.getElem?_setIfInBounds_ne n1, Array.getElem?_setIfInBounds_ne n2]; exact h1, h2⟩
      · by_cases e1 : i = k
        · subst e1; simp [hi] at hk; subst hk; omega
        · by_cases e2 : i + 1 = k
          · subst e2; rw [Array.getElem?_setIfInBounds_ne e1] at hk; simp [hi'] at hk
          · rw [Array.getElem?_setIfInBounds_ne e1, Array.getElem?_setIfInBounds_ne e2] at hk
            have := w2 k u hk hu
            have n1 : i ≠ k + 1 := fun z => by subst z; rw [hA] at this; cases this
            have n2 : i + 1 ≠ k + 1 := by omega
            rw [Array.getElem?_setIfInBounds_ne n1, Array.getElem?_setIfInBounds_ne n2]; exact this
      · by_cases e2 : i + 1 = k
        · subst e2; exact Or.inr (Or.inr hs)
        · rw [Array.getElem?_setIfInBounds_ne (Ne.symm hk), Array.getElem?_setIfInBounds_ne e2]; exact Or.inl rfl
theorem st1_get {L : List (Option Value)} {i k : Nat} {v u : Value} (h : (st1 L i v)[k]? = some (some u)) : (k = i ∧ u = v) ∨ (k ≠ i ∧ L[k]? = some (some u) ∧ ¬ (k = i - 1 ∧ u.category = 2)) := by
  unfold st1 at h
  by_cases e : k = i
  · subst e
    refine Or.inl ⟨rfl, ?_⟩
    have hl := (List.getElem?_eq_some_iff.mp h).1
    rw [List.getElem?_set_self (by simpa using hl)] at h
    exact (Option.some.inj (Option.some.inj h)).symm
  · refine Or.inr ⟨e, ?_⟩
    rw [List.getElem?_set_ne (Ne.symm e)] at h
    by_cases e2 : k = i - 1
    · subst e2
      cases hb : isL2 L[i - 1]? with
      | true =>
        rw [hb] at h
        have hl := (List.getElem?_eq_some_iff.mp h).1
        rw [cond_true] at h hl
        rw [List.getElem?_set_self (by simpa using hl)] at h
        cases Option.some.inj h
      | false =>
        rw [hb, cond_false] at h
        refine ⟨h, fun q => ?_⟩
        rw [h] at hb
        simp [isL2, q.2] at hb
    · cases hb : isL2 L[i - 1]? with
      | true => rw [hb, cond_true, List.getElem?_set_ne (Ne.symm e2)] at h; exact ⟨h, fun q => e2 q.1⟩
      | false => rw [hb, cond_false] at h; exact ⟨h, fun q => e2 q.1⟩
theorem st1_len (L : List (Option Value)) (i : Nat) (v : Value) : (st1 L i v).length = L.length := by
  unfold st1; cases isL2 L[i - 1]? <;> simp
theorem loc_st1 {ad : Nat → Addr} {L : List (Option Value)} {A : Array Slot} (H : LocOK ad L A) {i : Nat} (hi : i < L.length) {v : Value} (hv : v.category = 1) :
    ∃ A', storeLocals A i (up ad v) = some A' ∧ LocOK ad (st1 L i v) A' := by
  obtain ⟨h1, h2, h3⟩ := H
  obtain ⟨A', q1, q2, q3, q4, q5⟩ := store_c1 h2 (by omega : i < A.size) ((up_cat ad v).trans hv)
  refine ⟨A', q1, by rw [q2, st1_len]; exact h1, q4, fun k u hu => ?_⟩
  rcases st1_get hu with ⟨rfl, rfl⟩ | ⟨e, hL, hn⟩
  · exact q3
  · have ha := h3 k u hL
    rcases q5 k e with q | ⟨q, q'⟩ | q
    · rw [q]; exact ha
    · obtain ⟨j, w, g1, g2, g3⟩ := h2.1 i q'
      have : j = k := by omega
      subst this
      rw [ha] at g2; cases g2
      rw [up_cat] at g3
      exact absurd ⟨by omega, g3⟩ hn
    · rw [ha] at q; cases q
theorem store_c2 {A : Array Slot} {i : Nat} {v : Value} (hw : WF A) (hi : i + 1 < A.size) (hv : v.category = 2) :
    ∃ A', storeLocals A i v = some A' ∧ A'.size = A.size ∧ A'[i]? = some (Slot.val v) ∧ A'[i + 1]? = some Slot.second ∧ WF A' ∧
      ∀ k, k ≠ i → k ≠ i + 1 → A'[k]? = A[k]? ∨ (k + 1 = i ∧ A[i]? = some .second) ∨ A[k]? = some .second := by
  -- first as if a word of one slot were stored, then the second half
  obtain ⟨B, b1, b2, b3, b4, b5⟩ := store_c1 (v := .int 0) hw (by omega : i < A.size) rfl
  have hB : ∀ w : Value, w.category = 2 → storeLocals A i w = storeSelf B i w := by
    intro w hw2
    have hi0 : i < A.size := by omega
    cases hc : A[i] with
    | second =>
      simp [storeLocals, storeSelf, setAt, hc, hi0, Value.category] at b1
      obtain ⟨j, u, rfl, hj, hu⟩ := hw.1 i (by rw [Array.getElem?_eq_getElem hi0, hc])
      have hj' : j < A.size := by omega
      simp [hj'] at b1
      obtain ⟨-, rfl⟩ := b1
      simp [storeLocals, storeSelf, setAt, hc, hi0, hj', hw2, Array.setIfInBounds_setIfInBounds]
    | unset =>
      simp [storeLocals, storeSelf, setAt, hc, hi0, Value.category] at b1
      subst b1
      simp [storeLocals, storeSelf, setAt, hc, hi0, hw2, Array.setIfInBounds_setIfInBounds]
    | val old =>
      rcases cat12 old with ho | ho
      · simp [storeLocals, storeSelf, setAt, hc, hi0, Value.category] at b1
        have : ¬ old.category = 2 := by omega
        simp only [Value.category] at this
        simp [this] at b1
        subst b1
        simp [storeLocals, storeSelf, setAt, hc, hi0, hw2, ho, Array.setIfInBounds_setIfInBounds]
      · have hs := hw.2 i old (by rw [Array.getElem?_eq_getElem hi0, hc]) ho
        simp [storeLocals, storeSelf, setAt, hc, hi0, ho, hi] at b1
        simp [Value.category] at b1
        subst b1
        simp [storeLocals, storeSelf, setAt, hc, hi0, hi, hw2, ho, Array.setIfInBounds_setIfInBounds]
  obtain ⟨w1, w2⟩ := b4
  have hiB : i < B.size := by omega
  have hiB' : i + 1 < B.size := by omega
  have hn : B[i + 1]? ≠ some .second := fun z => by
    obtain ⟨j, u, e, g1, g2⟩ := w1 _ z
    have : j = i := by omega
    subst this
    rw [b3] at g1; cases g1; simp [Value.category] at g2
  have hA1 : B[i + 1]? = some B[i + 1] := Array.getElem?_eq_getElem hiB'
  -- the array with both halves, and what else was cleared
  have key : ∀ C : Array Slot, C.size = B.size → C[i]? = some (.val v) → C[i + 1]? = some .second → (∀ k, k ≠ i → k ≠ i + 1 → C[k]? = B[k]? ∨ (C[k]? = some .unset ∧ B[k]? = some .second ∧ k = i + 2)) → (∀ u, B[i + 1]? = some (.val u) → u.category = 2 → C[i + 2]? = some .unset) →
      C.size = A.size ∧ C[i]? = some (.val v) ∧ C[i + 1]? = some .second ∧ WF C ∧ ∀ k, k ≠ i → k ≠ i + 1 → C[k]? = A[k]? ∨ (k + 1 = i ∧ A[i]? = some .second) ∨ A[k]? = some .second := by
    intro C c1 c2 c3 c4 c5
    refine ⟨by omega, c2, c3, ⟨fun k hk => ?_, fun k u hk hu => ?_⟩, fun k k1 k2 => ?_⟩
    · by_cases e1 : k = i
      · subst e1; rw [c2] at hk; cases hk
      · by_cases e2 : k = i + 1
        · exact ⟨i, v, e2, c2, hv⟩
        · rcases c4 k e1 e2 with q | ⟨q, -, -⟩
          · rw [q] at hk
            obtain ⟨j, u, rfl, g1, g2⟩ := w1 k hk
            have n1 : j ≠ i := fun z => by omega
            have n2 : j ≠ i + 1 := fun z => by
              subst z
              have := c5 u g1 g2
              rw [q, hk] at this; cases this
            rcases c4 j n1 n2 with q' | ⟨q', q'', -⟩
            · exact ⟨j, u, rfl, by rw [q']; exact g1, g2⟩
            · rw [g1] at q''; cases q''
          · rw [q] at hk; cases hk
    · by_cases e1 : k = i
      · subst e1; exact c3
      · by_cases e2 : k = i + 1
        · subst e2; rw [c3] at hk; cases hk
        · rcases c4 k e1 e2 with q | ⟨q, -, -⟩
          · rw [q] at hk
            have g := w2 k u hk hu
            have n1 : k + 1 ≠ i := fun z => by rw [z] at g; rw [b3] at g; cases g
            have n2 : k + 1 ≠ i + 1 := fun z => by omega
            rcases c4 (k + 1) n1 n2 with q' | ⟨-, -, q''⟩
            · rw [q']; exact g
            · omega
          · rw [q] at hk; cases hk
    · rcases c4 k k1 k2 with q | ⟨-, q, q'⟩
      · rcases b5 k k1 with z | z | z
        · exact Or.inl (q.trans z)
        · exact Or.inr (Or.inl z)
        · exact Or.inr (Or.inr z)
      · rcases b5 k k1 with z | z | z
        · exact Or.inr (Or.inr (z.symm.trans q))
        · exact Or.inr (Or.inl z)
        · exact Or.inr (Or.inr z)
  cases hc : B[i + 1] with
  | second => rw [hc] at hA1; exact absurd hA1 hn
  | unset =>
    rw [hc] at hA1
    refine ⟨(B.setIfInBounds i (.val v)).setIfInBounds (i + 1) .second, ?_, key _ (by simp) (by simp [hiB]) (by simp [hiB']) (fun k k1 k2 => Or.inl (by rw [Array.getElem?_setIfInBounds_ne (Ne.symm k2), Array.getElem?_setIfInBounds_ne (Ne.symm k1)])) (fun u hu => by rw [hA1] at hu; cases hu)⟩
    rw [hB v hv]; simp [storeSelf, setAt, hiB, hiB', hv, hc, Array.getElem_setIfInBounds]
  | val old =>
    rw [hc] at hA1
    rcases cat12 old with ho | ho
    · refine ⟨(B.setIfInBounds i (.val v)).setIfInBounds (i + 1) .second, ?_, key _ (by simp) (by simp [hiB]) (by simp [hiB']) (fun k k1 k2 => Or.inl (by rw [Array.getElem?_setIfInBounds_ne (Ne.symm k2), Array.getElem?_setIfInBounds_ne (Ne.symm k1)])) (fun u hu hu2 => by rw [hA1] at hu; cases hu; omega)⟩
      rw [hB v hv]; simp [storeSelf, setAt, hiB, hiB', hv, hc, ho, Array.getElem_setIfInBounds]
    · have hs := w2 _ old hA1 ho
      have hi2 : i + 2 < B.size := (Array.getElem?_eq_some_iff.mp hs).1
      refine ⟨((B.setIfInBounds i (.val v)).setIfInBounds (i + 2) .unset).setIfInBounds (i + 1) .second, ?_, key _ (by simp) ?_ (by simp [hiB']) (fun k k1 k2 => ?_) (fun u hu hu2 => ?_)⟩
      · rw [hB v hv]; simp [storeSelf, setAt, hiB, hiB', hi2, hv, hc, ho, Array.getElem_setIfInBounds]
      · rw [Array.getElem?_setIfInBounds_ne (by omega), Array.getElem?_setIfInBounds_ne (by omega)]; simp [hiB]
      · rw [Array.getElem?_setIfInBounds_ne (Ne.symm k2)]
        by_cases e : i + 2 = k
        · subst e; exact Or.inr ⟨by simp [hi2], hs, rfl⟩
        · rw [Array.getElem?_setIfInBounds_ne e, Array.getElem?_setIfInBounds_ne (Ne.symm k1)]; exact Or.inl rfl
      · rw [Array.getElem?_setIfInBounds_ne (by omega)]; simp [hi2]
theorem loc_st2 {ad : Nat → Addr} {L : List (Option Value)} {A : Array Slot} (H : LocOK ad L A) {i : Nat} (hi : i + 1 < L.length) {v : Value} (hv : v.category = 2) :
    ∃ A', storeLocals A i (up ad v) = some A' ∧ LocOK ad (st2 L i v) A' := by
  obtain ⟨h1, h2, h3⟩ := H
  obtain ⟨A', q1, q2, q3, q3', q4, q5⟩ := store_c2 h2 (by omega : i + 1 < A.size) ((up_cat ad v).trans hv)
  refine ⟨A', q1, by rw [q2]; unfold st2; rw [List.length_set, st1_len]; exact h1, q4, fun k u hu => ?_⟩
  unfold st2 at hu
  by_cases e2 : k = i + 1
  · subst e2
    rw [List.getElem?_set_self (by rw [st1_len]; omega)] at hu; cases Option.some.inj hu
  · rw [List.getElem?_set_ne (Ne.symm e2)] at hu
    rcases st1_get hu with ⟨rfl, rfl⟩ | ⟨e, hL, hn⟩
    · exact q3
    · have ha := h3 k u hL
      rcases q5 k e e2 with q | ⟨q, q'⟩ | q
      · rw [q]; exact ha
      · obtain ⟨j, w, g1, g2, g3⟩ := h2.1 i q'
        have : j = k := by omega
        subst this
        rw [ha] at g2; cases g2
        rw [up_cat] at g3
        exact absurd ⟨by omega, g3⟩ hn
      · rw [ha] at q; cases q
/-- fewer known variables -/
def Less (L' L : List (Option Value)) : Prop := L'.length = L.length ∧ ∀ (i : Nat) (v : Value), L'[i]? = some (some v) → L[i]? = some (some v)
def lessB : List (Option Value) → List (Option Value) → Prop
  | [], [] => True
  | a :: r, b :: q => (a = none ∨ a = b) ∧ lessB r q
  | _, _ => False
theorem ls {a : Option Value} {r q : List (Option Value)} (h : lessB r q) : lessB (a :: r) (a :: q) := ⟨Or.inr rfl, h⟩
theorem ln {b : Option Value} {r q : List (Option Value)} (h : lessB r q) : lessB (none :: r) (b :: q) := ⟨Or.inl rfl, h⟩
theorem l0 : lessB [] [] := trivial
theorem lessB.less : ∀ {L' L : List (Option Value)}, lessB L' L → Less L' L
  | [], [], _ => ⟨rfl, fun i v h => by simp at h⟩
  | a :: r, b :: q, h => by
    obtain ⟨h1, h2⟩ := lessB.less h.2
    refine ⟨by simp [h1], fun i v hv => ?_⟩
    cases i with
    | zero =>
      simp only [List.getElem?_cons_zero, Option.some.injEq] at hv ⊢
      rcases h.1 with e | e
      · rw [e] at hv; cases hv
      · rw [← e]; exact hv
    | succ i => simp only [List.getElem?_cons_succ] at hv ⊢; exact h2 i v hv
  | [], _ :: _, h => h.elim
  | _ :: _, [], h => h.elim
theorem LocOK.less {ad : Nat → Addr} {L L' : List (Option Value)} {A : Array Slot} (H : LocOK ad L A) (q : Less L' L) : LocOK ad L' A := ⟨by rw [q.1]; exact H.1, H.2.1, fun i v h => H.2.2 i v (q.2 i v h)⟩
/-! ### the entry frame -/
def ent1 (v : Value) : List (Option Value) := if v.category = 2 then [some v, none] else [some v]
def ent (vs : List Value) (ml : Nat) : List (Option Value) := let q := vs.flatMap ent1; q ++ List.replicate (ml - q.length) none
def entS1 (v : Value) : List Slot := if v.category = 2 then [.val v, .second] else [.val v]
theorem args_list (vs : List Value) : ∀ acc : Array Slot, (vs.foldl (fun acc v => if v.category = 2 then (acc.push (.val v)).push .second else acc.push (.val v)) acc).toList = acc.toList ++ vs.flatMap entS1 := by
  induction vs with
  | nil => intro acc; simp
  | cons v r ih =>
    intro acc
    rw [List.foldl_cons, ih, List.flatMap_cons]
    by_cases h : v.category = 2 <;> simp [h, entS1]
theorem wf_ent (vs : List Value) (n : Nat) : WF (vs.flatMap entS1 ++ List.replicate n Slot.unset).toArray := by
  suffices h : ∀ (q : List Slot), q = vs.flatMap entS1 ++ List.replicate n Slot.unset → (∀ i : Nat, q[i]? = some Slot.second → ∃ (j : Nat) (w : Value), i = j + 1 ∧ q[j]? = some (Slot.val w) ∧ w.category = 2) ∧ ∀ (i : Nat) (w : Value), q[i]? = some (Slot.val w) → w.category = 2 → q[i + 1]? = some Slot.second by
    have := h _ rfl
    simpa [WF] using this
  induction vs with
  | nil =>
    intro q hq
    subst hq
    refine ⟨fun i hi => ?_, fun i w hi => ?_⟩ <;> simp [List.getElem?_replicate] at hi
  | cons v r ih =>
    intro q hq
    obtain ⟨g1, g2⟩ := ih _ rfl
    subst hq
    by_cases h : v.category = 2
    · simp only [List.flatMap_cons, entS1, h, if_true, List.cons_append, List.nil_append]
      refine ⟨fun i hi => ?_, fun i w hi hw => ?_⟩
      · match i with
        | 0 => simp at hi
        | 1 => exact ⟨0, v, rfl, rfl, h⟩
        | i + 2 =>
          obtain ⟨j, w, e, e1, e2⟩ := g1 i (by simpa using hi)
          exact ⟨j + 2, w, by omega, by simpa using e1, e2⟩
      · match i with
        | 0 => rfl
        | 1 => simp at hi
        | i + 2 => simpa using g2 i w (by simpa using hi) hw
    · simp only [List.flatMap_cons, entS1, h, if_false, List.cons_append, List.nil_append]
      refine ⟨fun i hi => ?_, fun i w hi hw => ?_⟩
      · match i with
        | 0 => simp at hi
        | i + 1 =>
          obtain ⟨j, w, e, e1, e2⟩ := g1 i (by simpa using hi)
          exact ⟨j + 1, w, by omega, by simpa using e1, e2⟩
      · match i with
        | 0 => simp at hi; subst hi; exact absurd hw h
        | i + 1 => simpa using g2 i w (by simpa using hi) hw
theorem ent_get (ad : Nat → Addr) (vs : List Value) : ∀ (n : Nat) (i : Nat) (u : Value), (vs.flatMap ent1 ++ List.replicate n none)[i]? = some (some u) → ((vs.map (up ad)).flatMap entS1 ++ List.replicate n Slot.unset)[i]? = some (.val (up ad u)) := by
  induction vs with
  | nil => intro n i u h; simp [List.getElem?_replicate] at h
  | cons v r ih =>
    intro n i u h
    by_cases hc : v.category = 2
    · have hc' : (up ad v).category = 2 := (up_cat ad v).trans hc
      simp only [List.flatMap_cons, List.map_cons, ent1, entS1, hc, hc', if_true, List.cons_append, List.nil_append] at h ⊢
      match i with
      | 0 => simp at h ⊢; rw [h]
      | 1 => simp at h
      | i + 2 => simpa using ih n i u (by simpa using h)
    · have hc' : ¬ (up ad v).category = 2 := by rw [up_cat]; exact hc
      simp only [List.flatMap_cons, List.map_cons, ent1, entS1, hc, hc', if_false, List.cons_append, List.nil_append] at h ⊢
      match i with
      | 0 => simp at h ⊢; rw [h]
      | i + 1 => simpa using ih n i u (by simpa using h)
theorem ent_len (ad : Nat → Addr) (vs : List Value) : ((vs.map (up ad)).flatMap entS1).length = (vs.flatMap ent1).length := by
  induction vs with
  | nil => rfl
  | cons v r ih =>
    have := up_cat ad v
    by_cases hc : v.category = 2 <;> simp [ent1, entS1, hc, this, ih]
theorem loc_ent (ad : Nat → Addr) (vs : List Value) (ml : Nat) : LocOK ad (ent vs ml) (argsToLocals (vs.map (up ad)).toArray ml) := by
  have e : argsToLocals (vs.map (up ad)).toArray ml = ((vs.map (up ad)).flatMap entS1 ++ List.replicate (ml - (vs.flatMap ent1).length) Slot.unset).toArray := by
    have q := args_list (vs.map (up ad)) #[]
    simp only [List.nil_append] at q
    have q3 : ((vs.map (up ad)).toArray.foldl (fun acc v => if v.category = 2 then (acc.push (Slot.val v)).push Slot.second else acc.push (Slot.val v)) #[]) = ((vs.map (up ad)).flatMap entS1).toArray := by
      apply Array.ext'
      rw [List.foldl_toArray]; simpa using q
    unfold argsToLocals
    simp only [q3]
    rw [List.size_toArray, ent_len]
    simp
  rw [e]
  refine ⟨by simp only [ent, List.size_toArray, List.length_append, List.length_replicate, ent_len], wf_ent _ _, fun i u h => ?_⟩
  have := ent_get ad vs (ml - (vs.flatMap ent1).length) i u (by simpa [ent] using h)
  simpa using this
/-! ## small things -/
theorem ifs {α : Type} {c : Prop} [Decidable c] {a b r : α} (h : (if c then a else b) = r) : (c ∧ a = r) ∨ (¬ c ∧ b = r) := by
  by_cases q : c
  · exact Or.inl ⟨q, (if_pos q).symm.trans h⟩
  · exact Or.inr ⟨q, (if_neg q).symm.trans h⟩
theorem ifn {α : Type} {c : Prop} [Decidable c] {a : Option α} {r : α} (h : (if c then a else none) = some r) : c ∧ a = some r := by
  by_cases q : c
  · exact ⟨q, (if_pos q).symm.trans h⟩
  · cases (if_neg q).symm.trans h
theorem ifz {α : Type} {c : Prop} [Decidable c] {a : Option α} {r : α} (h : (if c then none else a) = some r) : ¬ c ∧ a = some r := by
  by_cases q : c
  · cases (if_pos q).symm.trans h
  · exact ⟨q, (if_neg q).symm.trans h⟩
theorem ble {a b : Nat} (h : Nat.ble a b = true) : a ≤ b := Nat.le_of_ble_eq_true h
theorem blt {a b : Nat} (h : Nat.blt a b = true) : a < b := Nat.le_of_ble_eq_true h
theorem cl_lt {x y : Int64} : XT.cmpL x y < 0 ↔ x < y := by
  unfold XT.cmpL; split <;> (try split) <;> simp_all [Int64.lt_iff_toInt_lt, ← Int64.toInt_inj] <;> omega
theorem cl_gt {x y : Int64} : 0 < XT.cmpL x y ↔ y < x := by
  unfold XT.cmpL; split <;> (try split) <;> simp_all [Int64.lt_iff_toInt_lt, ← Int64.toInt_inj] <;> omega
theorem cl_eq {x y : Int64} : XT.cmpL x y = 0 ↔ x = y := by
  unfold XT.cmpL; split <;> (try split) <;> simp_all [Int64.lt_iff_toInt_lt, ← Int64.toInt_inj] <;> omega
/-! ## 3. the machine -/
abbrev Cx (S : Type) : Type := Program × Launch × Env × Room × State × MethodId × Array Value × List Frame × Method × Code × (Nat → Addr) × (S → Heap → Prop) × (S → Nat × Nat) × Nat × Nat × Nat
/-- from here the run ends, returning r -/
def Go {S : Type} (X : Cx S) (r : Option Value × S) (pc : Nat) (L : List (Option Value)) (st : List Value) (x : S) : Prop :=
  match X with
  | (p, l, e, R, s, m, args, below, meth, c, ad, INV, CE, n0, kc, ks) =>
    ∀ (T : State) (locs : List Loc) (A : Array Slot), Stand p l e R s m args below meth c T locs (CE x).1 (CE x).2 → Fr n0 locs → INV x T.heap → LocOK ad L A →
      ∃ s₂, Steps p.tables e below (T.setTop (mkF m pc A (st.map (up ad)))) s₂ ∧ s₂.status = .running ∧ Ended s₂ below (.returned (r.1.map (up ad))) ∧ INV r.2 s₂.heap ∧
        ∃ L', Fr n0 L' ∧ s.WarmedH s₂.vm ∧ s.sameButNew ({ s₂ with vm := s.vm } : State) L' kc ks
def Ctx {S : Type} (X : Cx S) (Z : State) (own nm : String) (code : ByteArray) (ml : Nat) (ret : Option FieldType) : Prop :=
  match X with
  | (p, l, e, R, s, m, args, below, meth, c, ad, INV, CE, n0, kc, ks) =>
    p.tables.exec = Jvm.exec ∧ c.code = code ∧ c.maxLocals = ml ∧ s.vm.findClass own = some m.cls ∧ Z.Warmed39 s.vm ∧ meth.sig.returnType = ret ∧ meth.locks = false ∧ meth.name = nm
def hsz {S : Type} (X : Cx S) : Nat := X.2.2.2.2.1.heap.size
section Rules
variable {S : Type} {X : Cx S} {Z : State} {own nm : String} {code : ByteArray} {ml : Nat} {ret : Option FieldType} {r : Option Value × S} {pc : Nat} {L L' : List (Option Value)} {st : List Value} {x : S}
theorem g_iloadN (K : Ctx X Z own nm code ml ret) {k : Fin 4} {v : Int32} (hd : decode code pc = .ok (.iload_n k, 1)) (hl : L[k.val]? = some (some (.int v))) (h : Go X r (pc + 1) L (.int v :: st) x) : Go X r pc L (st) x := by
  obtain ⟨p, l, e, R, s, m, args, below, meth, c, ad, INV, CE, n0, kc, ks⟩ := X
  obtain ⟨hx, hby, -⟩ := K
  intro T locs A Y N I LO
  obtain ⟨s₂, h1, h2⟩ := h T locs A Y N I LO
  exact ⟨s₂, XS.iloadN Y.here hx rfl (hb hby hd) (LO.2.2 _ _ hl) h1, h2⟩
theorem g_iload (K : Ctx X Z own nm code ml ret) {k : Nat} {v : Int32} (hd : decode code pc = .ok (.iload k, 2)) (hl : L[k]? = some (some (.int v))) (h : Go X r (pc + 2) L (.int v :: st) x) : Go X r pc L (st) x := by
  obtain ⟨p, l, e, R, s, m, args, below, meth, c, ad, INV, CE, n0, kc, ks⟩ := X
  obtain ⟨hx, hby, -⟩ := K
  intro T locs A Y N I LO
  obtain ⟨s₂, h1, h2⟩ := h T locs A Y N I LO
  exact ⟨s₂, XS.iload Y.here hx rfl (hb hby hd) (LO.2.2 _ _ hl) h1, h2⟩
theorem g_aloadN (K : Ctx X Z own nm code ml ret) {k : Fin 4} {v : Nat} (hd : decode code pc = .ok (.aload_n k, 1)) (hl : L[k.val]? = some (some (.ref v))) (h : Go X r (pc + 1) L (.ref v :: st) x) : Go X r pc L (st) x := by
  obtain ⟨p, l, e, R, s, m, args, below, meth, c, ad, INV, CE, n0, kc, ks⟩ := X
  obtain ⟨hx, hby, -⟩ := K
  intro T locs A Y N I LO
  obtain ⟨s₂, h1, h2⟩ := h T locs A Y N I LO
  exact ⟨s₂, XS.aloadN Y.here hx rfl (hb hby hd) (LO.2.2 _ _ hl) rfl h1, h2⟩
theorem g_aload (K : Ctx X Z own nm code ml ret) {k : Nat} {v : Nat} (hd : decode code pc = .ok (.aload k, 2)) (hl : L[k]? = some (some (.ref v))) (h : Go X r (pc + 2) L (.ref v :: st) x) : Go X r pc L (st) x := by
  obtain ⟨p, l, e, R, s, m, args, below, meth, c, ad, INV, CE, n0, kc, ks⟩ := X
  obtain ⟨hx, hby, -⟩ := K
  intro T locs A Y N I LO
  obtain ⟨s₂, h1, h2⟩ := h T locs A Y N I LO
  exact ⟨s₂, XS.aload Y.here hx rfl (hb hby hd) (LO.2.2 _ _ hl) rfl h1, h2⟩
theorem g_lloadN (K : Ctx X Z own nm code ml ret) {k : Fin 4} {v : Int64} (hd : decode code pc = .ok (.lload_n k, 1)) (hl : L[k.val]? = some (some (.long v))) (h : Go X r (pc + 1) L (.long v :: st) x) : Go X r pc L (st) x := by
  obtain ⟨p, l, e, R, s, m, args, below, meth, c, ad, INV, CE, n0, kc, ks⟩ := X
  obtain ⟨hx, hby, -⟩ := K
  intro T locs A Y N I LO
  obtain ⟨s₂, h1, h2⟩ := h T locs A Y N I LO
  exact ⟨s₂, XT.lloadN Y.here hx rfl (hb hby hd) (LO.2.2 _ _ hl) h1, h2⟩
theorem g_lload (K : Ctx X Z own nm code ml ret) {k : Nat} {v : Int64} (hd : decode code pc = .ok (.lload k, 2)) (hl : L[k]? = some (some (.long v))) (h : Go X r (pc + 2) L (.long v :: st) x) : Go X r pc L (st) x := by
  obtain ⟨p, l, e, R, s, m, args, below, meth, c, ad, INV, CE, n0, kc, ks⟩ := X
  obtain ⟨hx, hby, -⟩ := K
  intro T locs A Y N I LO
  obtain ⟨s₂, h1, h2⟩ := h T locs A Y N I LO
  exact ⟨s₂, XT.lload Y.here hx rfl (hb hby hd) (LO.2.2 _ _ hl) h1, h2⟩
theorem g_iconst (K : Ctx X Z own nm code ml ret) {i : Int} {v : Int32} (hd : decode code pc = .ok (.iconst i, 1)) (hv : Int32.ofInt i = v) (h : Go X r (pc + 1) L (.int v :: st) x) : Go X r pc L (st) x := by
  obtain ⟨p, l, e, R, s, m, args, below, meth, c, ad, INV, CE, n0, kc, ks⟩ := X
  obtain ⟨hx, hby, -⟩ := K
  intro T locs A Y N I LO
  subst hv
  have LO₁ := LO
  have ⟨A₁, hA₁⟩ : ∃ A₁, A₁ = A := ⟨_, rfl⟩
  subst hA₁
  obtain ⟨s₂, h1, h2⟩ := h T locs A₁ Y N I LO₁
  exact ⟨s₂, XS.iconst Y.here hx rfl (hb hby hd) h1, h2⟩
theorem g_bipush (K : Ctx X Z own nm code ml ret) {i : Int} {v : Int32} (hd : decode code pc = .ok (.bipush i, 2)) (hv : (Int8.ofInt i).toInt32 = v) (h : Go X r (pc + 2) L (.int v :: st) x) : Go X r pc L (st) x := by
  obtain ⟨p, l, e, R, s, m, args, below, meth, c, ad, INV, CE, n0, kc, ks⟩ := X
  obtain ⟨hx, hby, -⟩ := K
  intro T locs A Y N I LO
  subst hv
  have LO₁ := LO
  have ⟨A₁, hA₁⟩ : ∃ A₁, A₁ = A := ⟨_, rfl⟩
  subst hA₁
  obtain ⟨s₂, h1, h2⟩ := h T locs A₁ Y N I LO₁
  exact ⟨s₂, XS.bipush Y.here hx rfl (hb hby hd) h1, h2⟩
theorem g_sipush (K : Ctx X Z own nm code ml ret) {i : Int} {v : Int32} (hd : decode code pc = .ok (.sipush i, 3)) (hv : (Int16.ofInt i).toInt32 = v) (h : Go X r (pc + 3) L (.int v :: st) x) : Go X r pc L (st) x := by
  obtain ⟨p, l, e, R, s, m, args, below, meth, c, ad, INV, CE, n0, kc, ks⟩ := X
  obtain ⟨hx, hby, -⟩ := K
  intro T locs A Y N I LO
  subst hv
  have LO₁ := LO
  have ⟨A₁, hA₁⟩ : ∃ A₁, A₁ = A := ⟨_, rfl⟩
  subst hA₁
  obtain ⟨s₂, h1, h2⟩ := h T locs A₁ Y N I LO₁
  exact ⟨s₂, XS.sipush Y.here hx rfl (hb hby hd) h1, h2⟩
theorem g_lconst (K : Ctx X Z own nm code ml ret) {k : Fin 2} {v : Int64} (hd : decode code pc = .ok (.lconst k, 1)) (hv : Int64.ofNat k = v) (h : Go X r (pc + 1) L (.long v :: st) x) : Go X r pc L (st) x := by
  obtain ⟨p, l, e, R, s, m, args, below, meth, c, ad, INV, CE, n0, kc, ks⟩ := X
  obtain ⟨hx, hby, -⟩ := K
  intro T locs A Y N I LO
  subst hv
  have LO₁ := LO
  have ⟨A₁, hA₁⟩ : ∃ A₁, A₁ = A := ⟨_, rfl⟩
  subst hA₁
  obtain ⟨s₂, h1, h2⟩ := h T locs A₁ Y N I LO₁
  exact ⟨s₂, XT.lconst Y.here hx rfl (hb hby hd) h1, h2⟩
theorem g_iadd (K : Ctx X Z own nm code ml ret) {v w : Int32} (hd : decode code pc = .ok (.iadd, 1)) (h : Go X r (pc + 1) L (.int (v + w) :: st) x) : Go X r pc L (.int w :: .int v :: st) x := by
  obtain ⟨p, l, e, R, s, m, args, below, meth, c, ad, INV, CE, n0, kc, ks⟩ := X
  obtain ⟨hx, hby, -⟩ := K
  intro T locs A Y N I LO
  obtain ⟨s₂, h1, h2⟩ := h T locs A Y N I LO
  exact ⟨s₂, XS.iadd Y.here hx rfl (hb hby hd) rfl h1, h2⟩
theorem g_isub (K : Ctx X Z own nm code ml ret) {v w : Int32} (hd : decode code pc = .ok (.isub, 1)) (h : Go X r (pc + 1) L (.int (v - w) :: st) x) : Go X r pc L (.int w :: .int v :: st) x := by
  obtain ⟨p, l, e, R, s, m, args, below, meth, c, ad, INV, CE, n0, kc, ks⟩ := X
  obtain ⟨hx, hby, -⟩ := K
  intro T locs A Y N I LO
  obtain ⟨s₂, h1, h2⟩ := h T locs A Y N I LO
  exact ⟨s₂, XS.isub Y.here hx rfl (hb hby hd) rfl h1, h2⟩
theorem g_imul (K : Ctx X Z own nm code ml ret) {v w : Int32} (hd : decode code pc = .ok (.imul, 1)) (h : Go X r (pc + 1) L (.int (v * w) :: st) x) : Go X r pc L (.int w :: .int v :: st) x := by
  obtain ⟨p, l, e, R, s, m, args, below, meth, c, ad, INV, CE, n0, kc, ks⟩ := X
  obtain ⟨hx, hby, -⟩ := K
  intro T locs A Y N I LO
  obtain ⟨s₂, h1, h2⟩ := h T locs A Y N I LO
  exact ⟨s₂, XS.imul Y.here hx rfl (hb hby hd) rfl h1, h2⟩
theorem g_iand (K : Ctx X Z own nm code ml ret) {v w : Int32} (hd : decode code pc = .ok (.iand, 1)) (h : Go X r (pc + 1) L (.int (v &&& w) :: st) x) : Go X r pc L (.int w :: .int v :: st) x := by
  obtain ⟨p, l, e, R, s, m, args, below, meth, c, ad, INV, CE, n0, kc, ks⟩ := X
  obtain ⟨hx, hby, -⟩ := K
  intro T locs A Y N I LO
  obtain ⟨s₂, h1, h2⟩ := h T locs A Y N I LO
  exact ⟨s₂, XS.iand Y.here hx rfl (hb hby hd) rfl h1, h2⟩
theorem g_ior (K : Ctx X Z own nm code ml ret) {v w : Int32} (hd : decode code pc = .ok (.ior, 1)) (h : Go X r (pc + 1) L (.int (v ||| w) :: st) x) : Go X r pc L (.int w :: .int v :: st) x := by
  obtain ⟨p, l, e, R, s, m, args, below, meth, c, ad, INV, CE, n0, kc, ks⟩ := X
  obtain ⟨hx, hby, -⟩ := K
  intro T locs A Y N I LO
  obtain ⟨s₂, h1, h2⟩ := h T locs A Y N I LO
  exact ⟨s₂, XT.ior Y.here hx rfl (hb hby hd) rfl h1, h2⟩
theorem g_ixor (K : Ctx X Z own nm code ml ret) {v w : Int32} (hd : decode code pc = .ok (.ixor, 1)) (h : Go X r (pc + 1) L (.int (v ^^^ w) :: st) x) : Go X r pc L (.int w :: .int v :: st) x := by
  obtain ⟨p, l, e, R, s, m, args, below, meth, c, ad, INV, CE, n0, kc, ks⟩ := X
  obtain ⟨hx, hby, -⟩ := K
  intro T locs A Y N I LO
  obtain ⟨s₂, h1, h2⟩ := h T locs A Y N I LO
  exact ⟨s₂, XT.ixor Y.here hx rfl (hb hby hd) rfl h1, h2⟩
theorem g_ishl (K : Ctx X Z own nm code ml ret) {v w : Int32} (hd : decode code pc = .ok (.ishl, 1)) (h : Go X r (pc + 1) L (.int (v <<< (w &&& 31)) :: st) x) : Go X r pc L (.int w :: .int v :: st) x := by
  obtain ⟨p, l, e, R, s, m, args, below, meth, c, ad, INV, CE, n0, kc, ks⟩ := X
  obtain ⟨hx, hby, -⟩ := K
  intro T locs A Y N I LO
  obtain ⟨s₂, h1, h2⟩ := h T locs A Y N I LO
  exact ⟨s₂, XT.ishl Y.here hx rfl (hb hby hd) rfl h1, h2⟩
theorem g_ishr (K : Ctx X Z own nm code ml ret) {v w : Int32} (hd : decode code pc = .ok (.ishr, 1)) (h : Go X r (pc + 1) L (.int (v >>> (w &&& 31)) :: st) x) : Go X r pc L (.int w :: .int v :: st) x := by
  obtain ⟨p, l, e, R, s, m, args, below, meth, c, ad, INV, CE, n0, kc, ks⟩ := X
  obtain ⟨hx, hby, -⟩ := K
  intro T locs A Y N I LO
  obtain ⟨s₂, h1, h2⟩ := h T locs A Y N I LO
  exact ⟨s₂, XT.ishr Y.here hx rfl (hb hby hd) rfl h1, h2⟩
theorem g_iushr (K : Ctx X Z own nm code ml ret) {v w : Int32} (hd : decode code pc = .ok (.iushr, 1)) (h : Go X r (pc + 1) L (.int (XT.ushr v w) :: st) x) : Go X r pc L (.int w :: .int v :: st) x := by
  obtain ⟨p, l, e, R, s, m, args, below, meth, c, ad, INV, CE, n0, kc, ks⟩ := X
  obtain ⟨hx, hby, -⟩ := K
  intro T locs A Y N I LO
  obtain ⟨s₂, h1, h2⟩ := h T locs A Y N I LO
  exact ⟨s₂, XT.iushr Y.here hx rfl (hb hby hd) rfl h1, h2⟩
theorem g_idiv (K : Ctx X Z own nm code ml ret) {v w : Int32} (hd : decode code pc = .ok (.idiv, 1)) (hw : w ≠ 0) (h : Go X r (pc + 1) L (.int (v / w) :: st) x) : Go X r pc L (.int w :: .int v :: st) x := by
  obtain ⟨p, l, e, R, s, m, args, below, meth, c, ad, INV, CE, n0, kc, ks⟩ := X
  obtain ⟨hx, hby, -⟩ := K
  intro T locs A Y N I LO
  obtain ⟨s₂, h1, h2⟩ := h T locs A Y N I LO
  exact ⟨s₂, XS.idiv Y.here hx rfl (hb hby hd) rfl hw h1, h2⟩
theorem g_irem (K : Ctx X Z own nm code ml ret) {v w : Int32} (hd : decode code pc = .ok (.irem, 1)) (hw : w ≠ 0) (h : Go X r (pc + 1) L (.int (v % w) :: st) x) : Go X r pc L (.int w :: .int v :: st) x := by
  obtain ⟨p, l, e, R, s, m, args, below, meth, c, ad, INV, CE, n0, kc, ks⟩ := X
  obtain ⟨hx, hby, -⟩ := K
  intro T locs A Y N I LO
  obtain ⟨s₂, h1, h2⟩ := h T locs A Y N I LO
  exact ⟨s₂, iremM Y hx rfl (hb hby hd) rfl hw h1, h2⟩
theorem g_ineg (K : Ctx X Z own nm code ml ret) {v : Int32} (hd : decode code pc = .ok (.ineg, 1)) (h : Go X r (pc + 1) L (.int (-v) :: st) x) : Go X r pc L (.int v :: st) x := by
  obtain ⟨p, l, e, R, s, m, args, below, meth, c, ad, INV, CE, n0, kc, ks⟩ := X
  obtain ⟨hx, hby, -⟩ := K
  intro T locs A Y N I LO
  obtain ⟨s₂, h1, h2⟩ := h T locs A Y N I LO
  exact ⟨s₂, XS.ineg Y.here hx rfl (hb hby hd) rfl h1, h2⟩
theorem g_ladd (K : Ctx X Z own nm code ml ret) {v w : Int64} (hd : decode code pc = .ok (.ladd, 1)) (h : Go X r (pc + 1) L (.long (v + w) :: st) x) : Go X r pc L (.long w :: .long v :: st) x := by
  obtain ⟨p, l, e, R, s, m, args, below, meth, c, ad, INV, CE, n0, kc, ks⟩ := X
  obtain ⟨hx, hby, -⟩ := K
  intro T locs A Y N I LO
  obtain ⟨s₂, h1, h2⟩ := h T locs A Y N I LO
  exact ⟨s₂, XT.ladd Y.here hx rfl (hb hby hd) rfl h1, h2⟩
theorem g_lsub (K : Ctx X Z own nm code ml ret) {v w : Int64} (hd : decode code pc = .ok (.lsub, 1)) (h : Go X r (pc + 1) L (.long (v - w) :: st) x) : Go X r pc L (.long w :: .long v :: st) x := by
  obtain ⟨p, l, e, R, s, m, args, below, meth, c, ad, INV, CE, n0, kc, ks⟩ := X
  obtain ⟨hx, hby, -⟩ := K
  intro T locs A Y N I LO
  obtain ⟨s₂, h1, h2⟩ := h T locs A Y N I LO
  exact ⟨s₂, XT.lsub Y.here hx rfl (hb hby hd) rfl h1, h2⟩
theorem g_lmul (K : Ctx X Z own nm code ml ret) {v w : Int64} (hd : decode code pc = .ok (.lmul, 1)) (h : Go X r (pc + 1) L (.long (v * w) :: st) x) : Go X r pc L (.long w :: .long v :: st) x := by
  obtain ⟨p, l, e, R, s, m, args, below, meth, c, ad, INV, CE, n0, kc, ks⟩ := X
  obtain ⟨hx, hby, -⟩ := K
  intro T locs A Y N I LO
  obtain ⟨s₂, h1, h2⟩ := h T locs A Y N I LO
  exact ⟨s₂, XT.lmul Y.here hx rfl (hb hby hd) rfl h1, h2⟩
theorem g_land (K : Ctx X Z own nm code ml ret) {v w : Int64} (hd : decode code pc = .ok (.land, 1)) (h : Go X r (pc + 1) L (.long (v &&& w) :: st) x) : Go X r pc L (.long w :: .long v :: st) x := by
  obtain ⟨p, l, e, R, s, m, args, below, meth, c, ad, INV, CE, n0, kc, ks⟩ := X
  obtain ⟨hx, hby, -⟩ := K
  intro T locs A Y N I LO
  obtain ⟨s₂, h1, h2⟩ := h T locs A Y N I LO
  exact ⟨s₂, XT.land Y.here hx rfl (hb hby hd) rfl h1, h2⟩
theorem g_lor (K : Ctx X Z own nm code ml ret) {v w : Int64} (hd : decode code pc = .ok (.lor, 1)) (h : Go X r (pc + 1) L (.long (v ||| w) :: st) x) : Go X r pc L (.long w :: .long v :: st) x := by
  obtain ⟨p, l, e, R, s, m, args, below, meth, c, ad, INV, CE, n0, kc, ks⟩ := X
  obtain ⟨hx, hby, -⟩ := K
  intro T locs A Y N I LO
  obtain ⟨s₂, h1, h2⟩ := h T locs A Y N I LO
  exact ⟨s₂, XT.lor Y.here hx rfl (hb hby hd) rfl h1, h2⟩
theorem g_lxor (K : Ctx X Z own nm code ml ret) {v w : Int64} (hd : decode code pc = .ok (.lxor, 1)) (h : Go X r (pc + 1) L (.long (v ^^^ w) :: st) x) : Go X r pc L (.long w :: .long v :: st) x := by
  obtain ⟨p, l, e, R, s, m, args, below, meth, c, ad, INV, CE, n0, kc, ks⟩ := X
  obtain ⟨hx, hby, -⟩ := K
  intro T locs A Y N I LO
  obtain ⟨s₂, h1, h2⟩ := h T locs A Y N I LO
  exact ⟨s₂, XT.lxor Y.here hx rfl (hb hby hd) rfl h1, h2⟩
theorem g_lshl (K : Ctx X Z own nm code ml ret) {v : Int64} {w : Int32} (hd : decode code pc = .ok (.lshl, 1)) (h : Go X r (pc + 1) L (.long (v <<< (w.toInt64 &&& 63)) :: st) x) : Go X r pc L (.int w :: .long v :: st) x := by
  obtain ⟨p, l, e, R, s, m, args, below, meth, c, ad, INV, CE, n0, kc, ks⟩ := X
  obtain ⟨hx, hby, -⟩ := K
  intro T locs A Y N I LO
  obtain ⟨s₂, h1, h2⟩ := h T locs A Y N I LO
  exact ⟨s₂, XT.lshl Y.here hx rfl (hb hby hd) rfl h1, h2⟩
theorem g_lshr (K : Ctx X Z own nm code ml ret) {v : Int64} {w : Int32} (hd : decode code pc = .ok (.lshr, 1)) (h : Go X r (pc + 1) L (.long (v >>> (w.toInt64 &&& 63)) :: st) x) : Go X r pc L (.int w :: .long v :: st) x := by
  obtain ⟨p, l, e, R, s, m, args, below, meth, c, ad, INV, CE, n0, kc, ks⟩ := X
  obtain ⟨hx, hby, -⟩ := K
  intro T locs A Y N I LO
  obtain ⟨s₂, h1, h2⟩ := h T locs A Y N I LO
  exact ⟨s₂, XT.lshr Y.here hx rfl (hb hby hd) rfl h1, h2⟩
theorem g_lushr (K : Ctx X Z own nm code ml ret) {v : Int64} {w : Int32} (hd : decode code pc = .ok (.lushr, 1)) (h : Go X r (pc + 1) L (.long (XT.ushrL v w) :: st) x) : Go X r pc L (.int w :: .long v :: st) x := by
  obtain ⟨p, l, e, R, s, m, args, below, meth, c, ad, INV, CE, n0, kc, ks⟩ := X
  obtain ⟨hx, hby, -⟩ := K
  intro T locs A Y N I LO
  obtain ⟨s₂, h1, h2⟩ := h T locs A Y N I LO
  exact ⟨s₂, XT.lushr Y.here hx rfl (hb hby hd) rfl h1, h2⟩
theorem g_ldiv (K : Ctx X Z own nm code ml ret) {v w : Int64} (hd : decode code pc = .ok (.ldiv, 1)) (hw : w ≠ 0) (h : Go X r (pc + 1) L (.long (v / w) :: st) x) : Go X r pc L (.long w :: .long v :: st) x := by
  obtain ⟨p, l, e, R, s, m, args, below, meth, c, ad, INV, CE, n0, kc, ks⟩ := X
  obtain ⟨hx, hby, -⟩ := K
  intro T locs A Y N I LO
  obtain ⟨s₂, h1, h2⟩ := h T locs A Y N I LO
  exact ⟨s₂, XT.ldiv Y.here hx rfl (hb hby hd) rfl hw h1, h2⟩
theorem g_lrem (K : Ctx X Z own nm code ml ret) {v w : Int64} (hd : decode code pc = .ok (.lrem, 1)) (hw : w ≠ 0) (h : Go X r (pc + 1) L (.long (v % w) :: st) x) : Go X r pc L (.long w :: .long v :: st) x := by
  obtain ⟨p, l, e, R, s, m, args, below, meth, c, ad, INV, CE, n0, kc, ks⟩ := X
  obtain ⟨hx, hby, -⟩ := K
  intro T locs A Y N I LO
  obtain ⟨s₂, h1, h2⟩ := h T locs A Y N I LO
  exact ⟨s₂, XT.lrem Y.here hx rfl (hb hby hd) rfl hw (lrem_mod v w ▸ h1), h2⟩
theorem g_lneg (K : Ctx X Z own nm code ml ret) {v : Int64} (hd : decode code pc = .ok (.lneg, 1)) (h : Go X r (pc + 1) L (.long (-v) :: st) x) : Go X r pc L (.long v :: st) x := by
  obtain ⟨p, l, e, R, s, m, args, below, meth, c, ad, INV, CE, n0, kc, ks⟩ := X
  obtain ⟨hx, hby, -⟩ := K
  intro T locs A Y N I LO
  obtain ⟨s₂, h1, h2⟩ := h T locs A Y N I LO
  exact ⟨s₂, XT.lneg Y.here hx rfl (hb hby hd) rfl h1, h2⟩
theorem g_i2l (K : Ctx X Z own nm code ml ret) {v : Int32} (hd : decode code pc = .ok (.i2l, 1)) (h : Go X r (pc + 1) L (.long v.toInt64 :: st) x) : Go X r pc L (.int v :: st) x := by
  obtain ⟨p, l, e, R, s, m, args, below, meth, c, ad, INV, CE, n0, kc, ks⟩ := X
  obtain ⟨hx, hby, -⟩ := K
  intro T locs A Y N I LO
  obtain ⟨s₂, h1, h2⟩ := h T locs A Y N I LO
  exact ⟨s₂, XT.i2l Y.here hx rfl (hb hby hd) rfl h1, h2⟩
theorem g_l2i (K : Ctx X Z own nm code ml ret) {v : Int64} (hd : decode code pc = .ok (.l2i, 1)) (h : Go X r (pc + 1) L (.int v.toInt32 :: st) x) : Go X r pc L (.long v :: st) x := by
  obtain ⟨p, l, e, R, s, m, args, below, meth, c, ad, INV, CE, n0, kc, ks⟩ := X
  obtain ⟨hx, hby, -⟩ := K
  intro T locs A Y N I LO
  obtain ⟨s₂, h1, h2⟩ := h T locs A Y N I LO
  exact ⟨s₂, XT.l2i Y.here hx rfl (hb hby hd) rfl h1, h2⟩
theorem g_i2b (K : Ctx X Z own nm code ml ret) {v : Int32} (hd : decode code pc = .ok (.i2b, 1)) (h : Go X r (pc + 1) L (.int (nar .byte v) :: st) x) : Go X r pc L (.int v :: st) x := by
  obtain ⟨p, l, e, R, s, m, args, below, meth, c, ad, INV, CE, n0, kc, ks⟩ := X
  obtain ⟨hx, hby, -⟩ := K
  intro T locs A Y N I LO
  obtain ⟨s₂, h1, h2⟩ := h T locs A Y N I LO
  exact ⟨s₂, XT.i2b Y.here hx rfl (hb hby hd) rfl h1, h2⟩
theorem g_i2c (K : Ctx X Z own nm code ml ret) {v : Int32} (hd : decode code pc = .ok (.i2c, 1)) (h : Go X r (pc + 1) L (.int (nar .char v) :: st) x) : Go X r pc L (.int v :: st) x := by
  obtain ⟨p, l, e, R, s, m, args, below, meth, c, ad, INV, CE, n0, kc, ks⟩ := X
  obtain ⟨hx, hby, -⟩ := K
  intro T locs A Y N I LO
  obtain ⟨s₂, h1, h2⟩ := h T locs A Y N I LO
  exact ⟨s₂, XT.i2c Y.here hx rfl (hb hby hd) rfl h1, h2⟩
theorem g_lcmp (K : Ctx X Z own nm code ml ret) {v w : Int64} (hd : decode code pc = .ok (.lcmp, 1)) (h : Go X r (pc + 1) L (.int (XT.cmpL v w) :: st) x) : Go X r pc L (.long w :: .long v :: st) x := by
  obtain ⟨p, l, e, R, s, m, args, below, meth, c, ad, INV, CE, n0, kc, ks⟩ := X
  obtain ⟨hx, hby, -⟩ := K
  intro T locs A Y N I LO
  obtain ⟨s₂, h1, h2⟩ := h T locs A Y N I LO
  exact ⟨s₂, XT.lcmp Y.here hx rfl (hb hby hd) rfl h1, h2⟩
theorem g_pop (K : Ctx X Z own nm code ml ret) {v : Value} (hd : decode code pc = .ok (.pop, 1)) (hc : v.category = 1) (h : Go X r (pc + 1) L (st) x) : Go X r pc L (v :: st) x := by
  obtain ⟨p, l, e, R, s, m, args, below, meth, c, ad, INV, CE, n0, kc, ks⟩ := X
  obtain ⟨hx, hby, -⟩ := K
  intro T locs A Y N I LO
  obtain ⟨s₂, h1, h2⟩ := h T locs A Y N I LO
  exact ⟨s₂, XT.pop Y.here hx rfl (hb hby hd) rfl ((up_cat _ _).trans hc) h1, h2⟩
theorem g_dup (K : Ctx X Z own nm code ml ret) {v : Value} (hd : decode code pc = .ok (.dup, 1)) (hc : v.category = 1) (h : Go X r (pc + 1) L (v :: v :: st) x) : Go X r pc L (v :: st) x := by
  obtain ⟨p, l, e, R, s, m, args, below, meth, c, ad, INV, CE, n0, kc, ks⟩ := X
  obtain ⟨hx, hby, -⟩ := K
  intro T locs A Y N I LO
  obtain ⟨s₂, h1, h2⟩ := h T locs A Y N I LO
  exact ⟨s₂, XS.dup Y.here hx rfl (hb hby hd) rfl ((up_cat _ _).trans hc) h1, h2⟩
theorem g_dup2 (K : Ctx X Z own nm code ml ret) {v w : Value} (hd : decode code pc = .ok (.dup2, 1)) (hc : v.category = 1) (hc' : w.category = 1) (h : Go X r (pc + 1) L (v :: w :: v :: w :: st) x) : Go X r pc L (v :: w :: st) x := by
  obtain ⟨p, l, e, R, s, m, args, below, meth, c, ad, INV, CE, n0, kc, ks⟩ := X
  obtain ⟨hx, hby, -⟩ := K
  intro T locs A Y N I LO
  obtain ⟨s₂, h1, h2⟩ := h T locs A Y N I LO
  exact ⟨s₂, XT.dup2 Y.here hx rfl (hb hby hd) rfl ((up_cat _ _).trans hc) ((up_cat _ _).trans hc') h1, h2⟩
theorem g_istoreN (K : Ctx X Z own nm code ml ret) {k : Fin 4} {v : Int32} (hd : decode code pc = .ok (.istore_n k, 1)) (hk : k.val < L.length) (hL : st1 L k.val (.int v) = L') (h : Go X r (pc + 1) L' (st) x) : Go X r pc L (.int v :: st) x := by
  obtain ⟨p, l, e, R, s, m, args, below, meth, c, ad, INV, CE, n0, kc, ks⟩ := X
  obtain ⟨hx, hby, -⟩ := K
  intro T locs A Y N I LO
  subst hL
  obtain ⟨A₁, hA₁, LO₁⟩ := loc_st1 LO hk (v := .int v) rfl
  obtain ⟨s₂, h1, h2⟩ := h T locs A₁ Y N I LO₁
  exact ⟨s₂, XS.istoreN Y.here hx rfl (hb hby hd) rfl hA₁ h1, h2⟩
theorem g_istore (K : Ctx X Z own nm code ml ret) {k : Nat} {v : Int32} (hd : decode code pc = .ok (.istore k, 2)) (hk : k < L.length) (hL : st1 L k (.int v) = L') (h : Go X r (pc + 2) L' (st) x) : Go X r pc L (.int v :: st) x := by
  obtain ⟨p, l, e, R, s, m, args, below, meth, c, ad, INV, CE, n0, kc, ks⟩ := X
  obtain ⟨hx, hby, -⟩ := K
  intro T locs A Y N I LO
  subst hL
  obtain ⟨A₁, hA₁, LO₁⟩ := loc_st1 LO hk (v := .int v) rfl
  obtain ⟨s₂, h1, h2⟩ := h T locs A₁ Y N I LO₁
  exact ⟨s₂, XS.istore Y.here hx rfl (hb hby hd) rfl hA₁ h1, h2⟩
theorem g_astoreN (K : Ctx X Z own nm code ml ret) {k : Fin 4} {v : Nat} (hd : decode code pc = .ok (.astore_n k, 1)) (hk : k.val < L.length) (hL : st1 L k.val (.ref v) = L') (h : Go X r (pc + 1) L' (st) x) : Go X r pc L (.ref v :: st) x := by
  obtain ⟨p, l, e, R, s, m, args, below, meth, c, ad, INV, CE, n0, kc, ks⟩ := X
  obtain ⟨hx, hby, -⟩ := K
  intro T locs A Y N I LO
  subst hL
  obtain ⟨A₁, hA₁, LO₁⟩ := loc_st1 LO hk (v := .ref v) rfl
  obtain ⟨s₂, h1, h2⟩ := h T locs A₁ Y N I LO₁
  exact ⟨s₂, XS.astoreN Y.here hx rfl (hb hby hd) rfl rfl hA₁ h1, h2⟩
theorem g_astore (K : Ctx X Z own nm code ml ret) {k : Nat} {v : Nat} (hd : decode code pc = .ok (.astore k, 2)) (hk : k < L.length) (hL : st1 L k (.ref v) = L') (h : Go X r (pc + 2) L' (st) x) : Go X r pc L (.ref v :: st) x := by
  obtain ⟨p, l, e, R, s, m, args, below, meth, c, ad, INV, CE, n0, kc, ks⟩ := X
  obtain ⟨hx, hby, -⟩ := K
  intro T locs A Y N I LO
  subst hL
  obtain ⟨A₁, hA₁, LO₁⟩ := loc_st1 LO hk (v := .ref v) rfl
  obtain ⟨s₂, h1, h2⟩ := h T locs A₁ Y N I LO₁
  exact ⟨s₂, XS.astore Y.here hx rfl (hb hby hd) rfl rfl hA₁ h1, h2⟩
theorem g_lstoreN (K : Ctx X Z own nm code ml ret) {k : Fin 4} {v : Int64} (hd : decode code pc = .ok (.lstore_n k, 1)) (hk : k.val + 1 < L.length) (hL : st2 L k.val (.long v) = L') (h : Go X r (pc + 1) L' (st) x) : Go X r pc L (.long v :: st) x := by
  obtain ⟨p, l, e, R, s, m, args, below, meth, c, ad, INV, CE, n0, kc, ks⟩ := X
  obtain ⟨hx, hby, -⟩ := K
  intro T locs A Y N I LO
  subst hL
  obtain ⟨A₁, hA₁, LO₁⟩ := loc_st2 LO hk (v := .long v) rfl
  obtain ⟨s₂, h1, h2⟩ := h T locs A₁ Y N I LO₁
  exact ⟨s₂, XT.lstoreN Y.here hx rfl (hb hby hd) rfl hA₁ h1, h2⟩
theorem g_lstore (K : Ctx X Z own nm code ml ret) {k : Nat} {v : Int64} (hd : decode code pc = .ok (.lstore k, 2)) (hk : k + 1 < L.length) (hL : st2 L k (.long v) = L') (h : Go X r (pc + 2) L' (st) x) : Go X r pc L (.long v :: st) x := by
  obtain ⟨p, l, e, R, s, m, args, below, meth, c, ad, INV, CE, n0, kc, ks⟩ := X
  obtain ⟨hx, hby, -⟩ := K
  intro T locs A Y N I LO
  subst hL
  obtain ⟨A₁, hA₁, LO₁⟩ := loc_st2 LO hk (v := .long v) rfl
  obtain ⟨s₂, h1, h2⟩ := h T locs A₁ Y N I LO₁
  exact ⟨s₂, XT.lstore Y.here hx rfl (hb hby hd) rfl hA₁ h1, h2⟩
theorem g_iinc (K : Ctx X Z own nm code ml ret) {k : Nat} {i : Int} {v w : Int32} (hd : decode code pc = .ok (.iinc k i, 3)) (hl : L[k]? = some (some (.int v))) (hv : Int32.ofInt i = w) (hL : st1 L k (.int (v + w)) = L') (h : Go X r (pc + 3) L' (st) x) : Go X r pc L (st) x := by
  obtain ⟨p, l, e, R, s, m, args, below, meth, c, ad, INV, CE, n0, kc, ks⟩ := X
  obtain ⟨hx, hby, -⟩ := K
  intro T locs A Y N I LO
  subst hL
  subst hv
  obtain ⟨A₁, hA₁, LO₁⟩ := loc_st1 LO (List.getElem?_eq_some_iff.mp hl).1 (v := .int (v + Int32.ofInt i)) rfl
  obtain ⟨s₂, h1, h2⟩ := h T locs A₁ Y N I LO₁
  exact ⟨s₂, XS.iinc Y.here hx rfl (hb hby hd) (LO.2.2 _ _ hl) hA₁ h1, h2⟩
theorem g_goto (K : Ctx X Z own nm code ml ret) {o : Int} {pc' : Nat} (hd : decode code pc = .ok (.goto o, 3)) (hp : (pc : Int) + o = (pc' : Nat)) (h : Go X r (pc') L (st) x) : Go X r pc L (st) x := by
  obtain ⟨p, l, e, R, s, m, args, below, meth, c, ad, INV, CE, n0, kc, ks⟩ := X
  obtain ⟨hx, hby, -⟩ := K
  intro T locs A Y N I LO
  have ho : 0 ≤ (pc : Int) + o := by omega
  have hq : ((pc : Int) + o).toNat = pc' := by omega
  have LO₁ := LO
  have ⟨A₁, hA₁⟩ : ∃ A₁, A₁ = A := ⟨_, rfl⟩
  subst hA₁
  obtain ⟨s₂, h1, h2⟩ := h T locs A₁ Y N I LO₁
  exact ⟨s₂, XS.goto Y.here hx rfl rfl (hb hby hd) ho hq h1, h2⟩
theorem g_ifT (K : Ctx X Z own nm code ml ret) {cd : ClassFile.Cond} {v : Int32} {o : Int} {pc' : Nat} (hd : decode code pc = .ok (.ifCond cd o, 3)) (hp : (pc : Int) + o = (pc' : Nat)) (hc : ifCond.holds cd v = true) (h : Go X r (pc') L (st) x) : Go X r pc L (.int v :: st) x := by
  obtain ⟨p, l, e, R, s, m, args, below, meth, c, ad, INV, CE, n0, kc, ks⟩ := X
  obtain ⟨hx, hby, -⟩ := K
  intro T locs A Y N I LO
  have ho : 0 ≤ (pc : Int) + o := by omega
  have hq : ((pc : Int) + o).toNat = pc' := by omega
  have LO₁ := LO
  have ⟨A₁, hA₁⟩ : ∃ A₁, A₁ = A := ⟨_, rfl⟩
  subst hA₁
  obtain ⟨s₂, h1, h2⟩ := h T locs A₁ Y N I LO₁
  exact ⟨s₂, XS.ifYes Y.here hx rfl rfl (hb hby hd) rfl hc ho hq h1, h2⟩
theorem g_ifF (K : Ctx X Z own nm code ml ret) {cd : ClassFile.Cond} {v : Int32} {o : Int} (hd : decode code pc = .ok (.ifCond cd o, 3)) (hc : ifCond.holds cd v = false) (h : Go X r (pc + 3) L (st) x) : Go X r pc L (.int v :: st) x := by
  obtain ⟨p, l, e, R, s, m, args, below, meth, c, ad, INV, CE, n0, kc, ks⟩ := X
  obtain ⟨hx, hby, -⟩ := K
  intro T locs A Y N I LO
  obtain ⟨s₂, h1, h2⟩ := h T locs A Y N I LO
  exact ⟨s₂, XS.ifNo Y.here hx rfl (hb hby hd) rfl hc h1, h2⟩
theorem g_icT (K : Ctx X Z own nm code ml ret) {cd : ClassFile.Cond} {v w : Int32} {o : Int} {pc' : Nat} (hd : decode code pc = .ok (.if_icmp cd o, 3)) (hp : (pc : Int) + o = (pc' : Nat)) (hc : if_icmp.holds cd v w = true) (h : Go X r (pc') L (st) x) : Go X r pc L (.int w :: .int v :: st) x := by
  obtain ⟨p, l, e, R, s, m, args, below, meth, c, ad, INV, CE, n0, kc, ks⟩ := X
  obtain ⟨hx, hby, -⟩ := K
  intro T locs A Y N I LO
  have ho : 0 ≤ (pc : Int) + o := by omega
  have hq : ((pc : Int) + o).toNat = pc' := by omega
  have LO₁ := LO
  have ⟨A₁, hA₁⟩ : ∃ A₁, A₁ = A := ⟨_, rfl⟩
  subst hA₁
  obtain ⟨s₂, h1, h2⟩ := h T locs A₁ Y N I LO₁
  exact ⟨s₂, XS.icmpYes Y.here hx rfl rfl (hb hby hd) rfl hc ho hq h1, h2⟩
theorem g_icF (K : Ctx X Z own nm code ml ret) {cd : ClassFile.Cond} {v w : Int32} {o : Int} (hd : decode code pc = .ok (.if_icmp cd o, 3)) (hc : if_icmp.holds cd v w = false) (h : Go X r (pc + 3) L (st) x) : Go X r pc L (.int w :: .int v :: st) x := by
  obtain ⟨p, l, e, R, s, m, args, below, meth, c, ad, INV, CE, n0, kc, ks⟩ := X
  obtain ⟨hx, hby, -⟩ := K
  intro T locs A Y N I LO
  obtain ⟨s₂, h1, h2⟩ := h T locs A Y N I LO
  exact ⟨s₂, XS.icmpNo Y.here hx rfl (hb hby hd) rfl hc h1, h2⟩
theorem g_tswIn (K : Ctx X Z own nm code ml ret) {df lo hi : Int} {offs : Array Int} {len : Nat} {v : Int32} {o : Int} {pc' : Nat} (hd : decode code pc = .ok (.tableswitch df lo hi offs, len)) (hi' : ¬ (v.toInt < lo ∨ v.toInt > hi)) (hoff : offs[(v.toInt - lo).toNat]? = some o) (hp : (pc : Int) + o = (pc' : Nat)) (h : Go X r (pc') L (st) x) : Go X r pc L (.int v :: st) x := by
  obtain ⟨p, l, e, R, s, m, args, below, meth, c, ad, INV, CE, n0, kc, ks⟩ := X
  obtain ⟨hx, hby, -⟩ := K
  intro T locs A Y N I LO
  have ho : 0 ≤ (pc : Int) + o := by omega
  have hq : ((pc : Int) + o).toNat = pc' := by omega
  have LO₁ := LO
  have ⟨A₁, hA₁⟩ : ∃ A₁, A₁ = A := ⟨_, rfl⟩
  subst hA₁
  obtain ⟨s₂, h1, h2⟩ := h T locs A₁ Y N I LO₁
  exact ⟨s₂, XS.tswIn Y.here hx rfl rfl (hb hby hd) rfl hi' hoff ho hq h1, h2⟩
theorem g_tswOut (K : Ctx X Z own nm code ml ret) {df lo hi : Int} {offs : Array Int} {len : Nat} {v : Int32} {pc' : Nat} (hd : decode code pc = .ok (.tableswitch df lo hi offs, len)) (hi' : v.toInt < lo ∨ v.toInt > hi) (hp : (pc : Int) + df = (pc' : Nat)) (h : Go X r (pc') L (st) x) : Go X r pc L (.int v :: st) x := by
  obtain ⟨p, l, e, R, s, m, args, below, meth, c, ad, INV, CE, n0, kc, ks⟩ := X
  obtain ⟨hx, hby, -⟩ := K
  intro T locs A Y N I LO
  have ho : 0 ≤ (pc : Int) + df := by omega
  have hq : ((pc : Int) + df).toNat = pc' := by omega
  have LO₁ := LO
  have ⟨A₁, hA₁⟩ : ∃ A₁, A₁ = A := ⟨_, rfl⟩
  subst hA₁
  obtain ⟨s₂, h1, h2⟩ := h T locs A₁ Y N I LO₁
  exact ⟨s₂, XS.tswOut Y.here hx rfl rfl (hb hby hd) rfl hi' ho hq h1, h2⟩
end Rules
section Rules2
variable {S : Type} {X : Cx S} {Z : State} {own nm : String} {code : ByteArray} {ml : Nat} {ret : Option FieldType} {r : Option Value × S} {pc : Nat} {L L' : List (Option Value)} {st : List Value} {x : S}
theorem g_less (h : Go X r pc L' st x) (q : lessB L' L) : Go X r pc L st x := by
  obtain ⟨p, l, e, R, s, m, args, below, meth, c, ad, INV, CE, n0, kc, ks⟩ := X
  intro T locs A Y N I LO
  exact h T locs A Y N I (LO.less q.less)
theorem retI {p : Program} {l : Launch} {e : Env} {R : Room} {s : State} {m : MethodId} {args : Array Value} {below : List Frame} {meth : Method} {c : Code} {T : State} {locs : List Loc} {cells slots : Nat}
    (X : Stand p l e R s m args below meth c T locs cells slots) (hx : p.tables.exec = Jvm.exec) {pc : Nat} {Ls : Array Slot} {z : Int32} {rest : List Value} (hret : meth.sig.returnType = some .int) (hd : decode c.code pc = .ok (.ireturn, 1)) {fs : List Frame}
    (hl : ∀ (f : JFrame) (acts : List Action), f.method = m → f.locked = none → f.entered = [] → (doReturn e (T.setTop f) acts (some (.int z))).1 = T.setFrames fs) : Steps p.tables e below (T.setTop (mkF m pc Ls (.int z :: rest))) (T.setFrames fs) := by
  have hm' : T.vm.method? m = some meth := X.method'
  have hn : narrow .int (.int z) = .int z := rfl
  show Steps p.tables e below (T.setTop { method := m, pc := pc, locals := Ls, stack := _ :: rest, locked := none }) _
  jvm_step X.here [X.here.top, hx, hd, hm', hret, hn]
  first | (intro acts; rw [hl _ acts rfl rfl rfl]) | rw [hl _ _ rfl rfl rfl]
  exact Steps.refl _
/-- the figures of the frame -/
def Cap (X : Cx S) (x : S) : Prop :=
  match X with
  | (p, l, e, R, s, m, args, below, meth, c, ad, INV, CE, n0, kc, ks) => (CE x).1 ≤ kc ∧ (CE x).2 ≤ ks
theorem g_ireturn (K : Ctx X Z own nm code ml (some .int)) {v : Int32} (hd : decode code pc = .ok (.ireturn, 1)) (hk : Cap X x) : Go X (some (.int v), x) pc L (.int v :: st) x := by
  obtain ⟨p, l, e, R, s, m, args, below, meth, c, ad, INV, CE, n0, kc, ks⟩ := X
  obtain ⟨hx, hby, -, -, -, hret, hlk, -⟩ := K
  intro T locs A Y N I LO
  obtain ⟨fs, hr, hrun, hended, hW, hsame⟩ := Y.leave (v := some (.int v)) (fun h => by rw [hret] at h; cases h) hlk
  exact ⟨_, retI Y hx hret (hb hby hd) hr, hrun, hended, I, locs, N, hW, hsame.mono hk.1 hk.2⟩
theorem g_ireturnN (K : Ctx X Z own nm code ml ret) {v w : Int32} {t : FieldType} (hret' : ret = some t) (ht : t = .boolean ∨ t = .byte ∨ t = .char ∨ t = .short) (hd : decode code pc = .ok (.ireturn, 1)) (hw : nar t v = w) (hk : Cap X x) : Go X (some (.int w), x) pc L (.int v :: st) x := by
  obtain ⟨p, l, e, R, s, m, args, below, meth, c, ad, INV, CE, n0, kc, ks⟩ := X
  subst hret'
  subst hw
  obtain ⟨hx, hby, -, -, -, hret, hlk, -⟩ := K
  intro T locs A Y N I LO
  obtain ⟨fs, hr, hrun, hended, hW, hsame⟩ := Y.leave (v := some (.int (nar t v))) (fun h => by rw [hret] at h; cases h) hlk
  exact ⟨_, retN Y hx hret ht (hb hby hd) hr, hrun, hended, I, locs, N, hW, hsame.mono hk.1 hk.2⟩
theorem g_lreturn (K : Ctx X Z own nm code ml (some .long)) {v : Int64} (hd : decode code pc = .ok (.lreturn, 1)) (hk : Cap X x) : Go X (some (.long v), x) pc L [.long v] x := by
  obtain ⟨p, l, e, R, s, m, args, below, meth, c, ad, INV, CE, n0, kc, ks⟩ := X
  obtain ⟨hx, hby, -, -, -, hret, hlk, -⟩ := K
  intro T locs A Y N I LO
  obtain ⟨fs, hr, hrun, hended, hW, hsame⟩ := Y.leave (v := some (.long v)) (fun h => by rw [hret] at h; cases h) hlk
  exact ⟨_, Y.lreturnOut hx hret (hb hby hd) hr, hrun, hended, I, locs, N, hW, hsame.mono hk.1 hk.2⟩
theorem g_return (K : Ctx X Z own nm code ml none) (hd : decode code pc = .ok (.return_, 1)) (hk : Cap X x) : Go X (none, x) pc L [] x := by
  obtain ⟨p, l, e, R, s, m, args, below, meth, c, ad, INV, CE, n0, kc, ks⟩ := X
  obtain ⟨hx, hby, -, -, -, hret, hlk, -⟩ := K
  intro T locs A Y N I LO
  obtain ⟨fs, hr, hrun, hended, hW, hsame⟩ := Y.leave (v := none) (fun _ => rfl) hlk
  exact ⟨_, Y.returnOut hx hret (hb hby hd) hr, hrun, hended, I, locs, N, hW, hsame.mono hk.1 hk.2⟩
theorem g_ldc {a0 : Array Value} (K : Ctx X Z own nm code ml ret) {idx : Nat} {v : Int32} (hd : decode code pc = .ok (.ldc idx, 2)) (w : (Cond.constant own idx v).before a0 Z = true) (h : Go X r (pc + 2) L (.int v :: st) x) : Go X r pc L st x := by
  obtain ⟨p, l, e, R, s, m, args, below, meth, c, ad, INV, CE, n0, kc, ks⟩ := X
  obtain ⟨hx, hby, -, hown, hZ, -⟩ := K
  intro T locs A Y N I LO
  obtain ⟨s₂, h1, h2⟩ := h T locs A Y N I LO
  exact ⟨s₂, Y.ldcI hx hown (mv hZ w) rfl (hb hby hd) h1, h2⟩
theorem g_ldcw {a0 : Array Value} (K : Ctx X Z own nm code ml ret) {idx : Nat} {v : Int32} (hd : decode code pc = .ok (.ldc_w idx, 3)) (w : (Cond.constant own idx v).before a0 Z = true) (h : Go X r (pc + 3) L (.int v :: st) x) : Go X r pc L st x := by
  obtain ⟨p, l, e, R, s, m, args, below, meth, c, ad, INV, CE, n0, kc, ks⟩ := X
  obtain ⟨hx, hby, -, hown, hZ, -⟩ := K
  intro T locs A Y N I LO
  obtain ⟨s₂, h1, h2⟩ := h T locs A Y N I LO
  exact ⟨s₂, Y.ldcWI hx hown (mv hZ w) rfl (hb hby hd) h1, h2⟩
theorem g_ldc2 {a0 : Array Value} (K : Ctx X Z own nm code ml ret) {idx : Nat} {v : Int64} (hd : decode code pc = .ok (.ldc2_w idx, 3)) (w : (Cond.constantLong own idx v).before a0 Z = true) (h : Go X r (pc + 3) L (.long v :: st) x) : Go X r pc L st x := by
  obtain ⟨p, l, e, R, s, m, args, below, meth, c, ad, INV, CE, n0, kc, ks⟩ := X
  obtain ⟨hx, hby, -, hown, hZ, -⟩ := K
  intro T locs A Y N I LO
  obtain ⟨s₂, h1, h2⟩ := h T locs A Y N I LO
  exact ⟨s₂, Y.ldc2J hx hown (mv hZ w) rfl (hb hby hd) h1, h2⟩
end Rules2
/-! ## 4. one object: what stands in the heap -/
abbrev FSpec : Type := Nat × String × String × Nat
abbrev ASpec : Type := Nat × FieldType × Nat
def fval (a : Nat) (j : Nat) (σ : St) (f : FSpec) : Value :=
  match f.2.2.2 with
  | 0 => .int (gI σ f.1)
  | 1 => .long (gL σ f.1)
  | _ => if f.1 ≤ j then .ref (a + f.1) else .null
def ArI (Z : State) (h : Heap) (b : Nat) (ty : FieldType) (n : Nat) (g : Int → Int32) : Prop := ∃ c : Cell, Arr Z h b c ty ∧ c.slots.size = n ∧ ∀ i : Nat, i < n → c.slots[i]? = some (.int (g (i : Int)))
def Rep (Z : State) (C : String) (FS : List FSpec) (FA : List ASpec) (a : Nat) (j : Nat) (h : Heap) (σ : St) : Prop :=
  Exa Z h a C ∧ (∀ f ∈ FS, Fld Z h a C f.2.1 f.2.2.1 (fval a j σ f)) ∧ ∀ q ∈ FA, q.1 ≤ j → ArI Z h (a + q.1) q.2.1 q.2.2 (gA σ q.1)
def LayW (Z : State) (a0 : Array Value) (C : String) (FS : List FSpec) (kk : Nat) : Prop := (∀ f ∈ FS, Laid Z a0 C C f.2.1 f.2.2.1) ∧ (Cond.instantiable C kk).before a0 Z = true ∧ (Cond.initialized C).before a0 Z = true
/-- the layout is sound: names and numbers unlike, descriptors read, arrays numbered from 1 -/
def layGood (FS : List FSpec) (FA : List ASpec) (nA : Nat) : Bool :=
  decide ((FS.map fun f => f.2.1).Nodup) && decide ((FS.map fun f => f.1).Nodup) && decide ((FA.map fun q => q.1).Nodup) &&
  FS.all (fun f => decide ((parseFieldDescriptor f.2.2.1).map defaultValue = some (fval 0 0 z0 f)) && (f.2.2.2 != 2 || decide (1 ≤ f.1))) &&
  FA.all (fun q => decide (1 ≤ q.1) && decide (q.1 ≤ nA) && decide (q.2.2 < 2 ^ 31))
theorem nodup_key {α β : Type} {f : α → β} : ∀ {l : List α}, (l.map f).Nodup → ∀ {x y : α}, x ∈ l → y ∈ l → f x = f y → x = y
  | [], _, _, _, hx, _, _ => nomatch hx
  | a :: l, h, x, y, hx, hy, e => by
    rw [List.map_cons, List.nodup_cons] at h
    rcases List.mem_cons.mp hx with rfl | hx' <;> rcases List.mem_cons.mp hy with rfl | hy'
    · rfl
    · exact absurd (List.mem_map.mpr ⟨y, hy', e.symm⟩) h.1
    · exact absurd (List.mem_map.mpr ⟨x, hx', e⟩) h.1
    · exact nodup_key h.2 hx' hy' e
section One
variable {Z : State} {a0 : Array Value} {C : String} {FS : List FSpec} {FA : List ASpec} {a : Nat} {j kk nA : Nat} {h h' : Heap} {σ : St}
theorem lay_names (G : layGood FS FA nA = true) {f g : FSpec} (hf : f ∈ FS) (hg : g ∈ FS) (e : f.2.1 = g.2.1) : f = g := by
  simp only [layGood, Bool.and_eq_true, decide_eq_true_eq] at G
  exact nodup_key G.1.1.1.1 hf hg e
theorem lay_keys (G : layGood FS FA nA = true) {f g : FSpec} (hf : f ∈ FS) (hg : g ∈ FS) (e : f.1 = g.1) : f = g := by
  simp only [layGood, Bool.and_eq_true, decide_eq_true_eq] at G
  exact nodup_key G.1.1.1.2 hf hg e
theorem lay_arr (G : layGood FS FA nA = true) {f g : ASpec} (hf : f ∈ FA) (hg : g ∈ FA) (e : f.1 = g.1) : f = g := by
  simp only [layGood, Bool.and_eq_true, decide_eq_true_eq] at G
  exact nodup_key G.1.1.2 hf hg e
theorem lay_desc (G : layGood FS FA nA = true) {f : FSpec} (hf : f ∈ FS) : ∃ t, parseFieldDescriptor f.2.2.1 = some t ∧ defaultValue t = fval 0 0 z0 f := by
  simp only [layGood, Bool.and_eq_true, decide_eq_true_eq] at G
  have q := List.all_eq_true.mp G.1.2 f hf
  simp only [Bool.and_eq_true, decide_eq_true_eq, Option.map_eq_some_iff] at q
  exact q.1
theorem lay_one (G : layGood FS FA nA = true) {f : FSpec} (hf : f ∈ FS) (hk : f.2.2.2 = 2) : 1 ≤ f.1 := by
  simp only [layGood, Bool.and_eq_true, decide_eq_true_eq] at G
  have q := List.all_eq_true.mp G.1.2 f hf
  simp only [Bool.and_eq_true, Bool.or_eq_true, bne_iff_ne, ne_eq, decide_eq_true_eq] at q
  exact q.2.resolve_left (fun z => z hk)
theorem lay_pos (G : layGood FS FA nA = true) {q : ASpec} (hq : q ∈ FA) : 1 ≤ q.1 ∧ q.1 ≤ nA ∧ q.2.2 < 2 ^ 31 := by
  simp only [layGood, Bool.and_eq_true, decide_eq_true_eq] at G
  have := List.all_eq_true.mp G.2 q hq
  simp only [Bool.and_eq_true, decide_eq_true_eq] at this
  exact ⟨this.1.1, this.1.2, this.2⟩
theorem ArI.other {b : Nat} {ty : FieldType} {n sl : Nat} {v : Value} {g : Int → Int32} {x : Nat} (F : ArI Z h b ty n g) (W : Wr h h' x sl v) (q : b ≠ x) : ArI Z h' b ty n g := by
  obtain ⟨c, A, r⟩ := F; exact ⟨c, A.other W q, r⟩
theorem ArI.keep {b : Nat} {ty : FieldType} {n : Nat} {g : Int → Int32} {ws : List Addr} (F : ArI Z h b ty n g) (K : Keep h h' ws) (q : b ∉ ws) : ArI Z h' b ty n g := by
  obtain ⟨c, A, r⟩ := F; exact ⟨c, ⟨K.2.1 b c A.1 q, A.2⟩, r⟩
theorem ArI.ext {b : Nat} {ty : FieldType} {n : Nat} {g : Int → Int32} (F : ArI Z h b ty n g) (E : Ext h h') : ArI Z h' b ty n g := by
  obtain ⟨c, A, r⟩ := F; exact ⟨c, A.ext E, r⟩
/-- a field is written -/
theorem Rep.put (G : layGood FS FA nA = true) (hL : LayW Z a0 C FS kk) (Rp : Rep Z C FS FA a j h σ) {f : FSpec} (hf : f ∈ FS) {v : Value} (W : Wr h h' a (RoadKit.slotOf Z C f.2.1 f.2.2.1) v) {j' : Nat} {σ' : St}
    (hv : fval a j' σ' f = v) (ho : ∀ g ∈ FS, g ≠ f → fval a j' σ' g = fval a j σ g) (hA : ∀ q ∈ FA, q.1 ≤ j' → ArI Z h (a + q.1) q.2.1 q.2.2 (gA σ' q.1)) : Rep Z C FS FA a j' h' σ' := by
  obtain ⟨r1, r2, r3⟩ := Rp
  refine ⟨r1.wr W, fun g hg => ?_, fun q hq hqj => (hA q hq hqj).other W (by have := (lay_pos G hq).1; omega)⟩
  by_cases e : g = f
  · subst e; rw [hv]; exact (r2 g hg).same W
  · rw [ho g hg e]
    obtain ⟨t, ht, -⟩ := lay_desc G hg
    obtain ⟨t', ht', -⟩ := lay_desc G hf
    exact (r2 g hg).other W (Or.inr (slot_ne (hL.1 g hg) (hL.1 f hf) (fun z => e (lay_names G hg hf z)) ht ht'))
theorem Rep.putI (G : layGood FS FA nA = true) (hL : LayW Z a0 C FS kk) (Rp : Rep Z C FS FA a j h σ) {k : Nat} {n d : String} (hf : (k, n, d, 0) ∈ FS) {v : Int32} (W : Wr h h' a (RoadKit.slotOf Z C n d) (.int v)) : Rep Z C FS FA a j h' (sI σ k v) := by
  refine Rp.put G hL hf W (by simp [fval, gI_sI]) (fun g hg ne => ?_) Rp.2.2
  have hk : g.1 ≠ k := fun z => ne (lay_keys G hg hf z)
  unfold fval
  split <;> simp [gI_sI, gL_sI, hk]
theorem Rep.putL (G : layGood FS FA nA = true) (hL : LayW Z a0 C FS kk) (Rp : Rep Z C FS FA a j h σ) {k : Nat} {n d : String} (hf : (k, n, d, 1) ∈ FS) {v : Int64} (W : Wr h h' a (RoadKit.slotOf Z C n d) (.long v)) : Rep Z C FS FA a j h' (sL σ k v) := by
  refine Rp.put G hL hf W (by simp [fval, gL_sL]) (fun g hg ne => ?_) Rp.2.2
  have hk : g.1 ≠ k := fun z => ne (lay_keys G hg hf z)
  unfold fval
  split <;> simp [gI_sL, gL_sL, hk]
/-- an array's component is written -/
theorem Rep.set (G : layGood FS FA nA = true) (Rp : Rep Z C FS FA a j h σ) {k : Nat} {ty : FieldType} {n : Nat} (hq : (k, ty, n) ∈ FA) (hk : k ≤ j) {i : Int32} (h0 : 0 ≤ i.toInt) (h1 : i.toInt < n) {v : Int32} (W : Wr h h' (a + k) i.toNatClampNeg (.int v)) : Rep Z C FS FA a j h' (sA σ k i.toInt v) := by
  obtain ⟨r1, r2, r3⟩ := Rp
  have hp := (lay_pos G hq).1
  refine ⟨r1.wr W, fun g hg => ?_, fun q hq' hqj => ?_⟩
  · have e : fval a j (sA σ k i.toInt v) g = fval a j σ g := by unfold fval; split <;> simp [gI_sA, gL_sA]
    rw [e]; exact (r2 g hg).other W (Or.inl (Nat.ne_of_lt (Nat.lt_add_of_pos_right hp)))
  · by_cases e : q.1 = k
    · have := lay_arr G hq' hq e
      subst this
      obtain ⟨c, A, s1, s2⟩ := r3 _ hq' hqj
      refine ⟨_, A.same W, by rw [sz_set]; exact s1, fun x hx => ?_⟩
      simp only [gA_sA, true_and]
      have hi : (i.toNatClampNeg : Int) = i.toInt := by simp only [Int32.toNatClampNeg]; omega
      by_cases u : (x : Int) = i.toInt
      · have : i.toNatClampNeg = x := by omega
        subst this
        simp only [hi, if_true]
        simp [Cell.setSlot, s1, hx]
      · have : i.toNatClampNeg ≠ x := by omega
        simp only [u, if_false]
        simp only [Cell.setSlot]
        rw [Array.getElem?_setIfInBounds_ne this]; exact s2 x hx
    · have eq : gA (sA σ k i.toInt v) q.1 = gA σ q.1 := by funext y; simp [gA_sA, e]
      rw [eq]; exact (r3 q hq' hqj).other W (by omega)
theorem Rep.keep (Rp : Rep Z C FS FA a j h σ) {ws : List Addr} (K : Keep h h' ws) (q : ∀ k, a + k ∉ ws) : Rep Z C FS FA a j h' σ := by
  obtain ⟨r1, r2, r3⟩ := Rp
  exact ⟨r1.keep K, fun f hf => (r2 f hf).keep K (q 0), fun x hx hj => (r3 x hx hj).keep K (q _)⟩
theorem Rep.ext (Rp : Rep Z C FS FA a j h σ) (E : Ext h h') : Rep Z C FS FA a j h' σ := by
  obtain ⟨r1, r2, r3⟩ := Rp
  exact ⟨r1.ext E, fun f hf => (r2 f hf).ext E, fun x hx hj => (r3 x hx hj).ext E⟩
theorem Rep.keep' (G : layGood FS FA nA = true) (Rp : Rep Z C FS FA a j h σ) {ws : List Addr} (K : Keep h h' ws) (q : ∀ k, k ≤ nA → a + k ∉ ws) : Rep Z C FS FA a j h' σ := by
  obtain ⟨r1, r2, r3⟩ := Rp
  exact ⟨r1.keep K, fun f hf => (r2 f hf).keep K (q 0 (Nat.zero_le _)), fun x hx hj => (r3 x hx hj).keep K (q _ (lay_pos G hx).2.1)⟩
end One
/-! ## 5. the rules of a method's body that works on its own object ('this' is reference 0, its arrays 1, 2 ..) -/
def wsOf (a : Nat) (nA : Nat) : List Addr := (List.range (nA + 1)).map fun k => a + k
theorem mem_ws {a : Nat} {nA k : Nat} (h : k ≤ nA) : a + k ∈ wsOf a nA := List.mem_map.mpr ⟨k, List.mem_range.mpr (by omega), rfl⟩
theorem of_ws {a x : Nat} {nA : Nat} (h : x ∈ wsOf a nA) : a ≤ x ∧ x ≤ a + nA := by
  obtain ⟨k, hk, rfl⟩ := List.mem_map.mp h
  have := List.mem_range.mp hk; omega
def INVc (Z : State) (C : String) (FS : List FSpec) (FA : List ASpec) (nA : Nat) (a : Nat) (h0 : Heap) (ce : Nat → Nat × Nat) : St × Nat → Heap → Prop := fun x h => Rep Z C FS FA a x.2 h x.1 ∧ Keep h0 h (wsOf a nA) ∧ h.size = h0.size + (ce x.2).1
def CtxC (X : Cx (St × Nat)) (Z : State) (a0 : Array Value) (C : String) (FS : List FSpec) (FA : List ASpec) (nA kk : Nat) (l0 : Launch) (n1 : Nat) (a : Nat) (h0 : Heap) (ce : Nat → Nat × Nat) (rm : Room) (nm : String) (code : ByteArray) (ml : Nat) (ret : Option FieldType) : Prop :=
  Ctx X Z C nm code ml ret ∧ LayW Z a0 C FS kk ∧ layGood FS FA nA = true ∧
  match X with
  | (p, l, e, R, s, m, args, below, meth, c, ad, INV, CE, n0, kc, ks) => ad = (fun k => a + k) ∧ INV = INVc Z C FS FA nA a h0 ce ∧ CE = (fun x => ce x.2) ∧ n0 = n1 ∧ n1 ≤ a ∧ l = l0 ∧ R = rm ∧ kc = rm.cells ∧ ks = rm.slots ∧ ce nA = (rm.cells, rm.slots) ∧ s.heap = h0
theorem fits_int (v : Int32) : fits .int (.int v) = true := rfl
theorem fits_bool (v : Int32) : fits .boolean (.int (nar .boolean v)) = true := by
  simp only [fits, nar, Bool.or_eq_true, beq_iff_eq]
  have h := c_mask v 1 1 (by decide) (by decide)
  have h2 : v.toInt % 2 = 0 ∨ v.toInt % 2 = 1 := by omega
  rcases h2 with q | q
  · left; apply Int32.toInt_inj.mp; rw [h]; simpa using q
  · right; apply Int32.toInt_inj.mp; rw [h]; simpa using q
section RulesC
variable {X : Cx (St × Nat)} {Z : State} {a0 : Array Value} {C : String} {FS : List FSpec} {FA : List ASpec} {nA kk : Nat} {l0 : Launch} {n1 : Nat} {a : Nat} {h0 : Heap} {ce : Nat → Nat × Nat} {rm : Room} {nm : String} {code : ByteArray} {ml : Nat} {ret : Option FieldType} {r : Option Value × (St × Nat)} {pc : Nat} {L : List (Option Value)} {st : List Value} {σ : St} {j : Nat}
theorem capC (K : CtxC X Z a0 C FS FA nA kk l0 n1 a h0 ce rm nm code ml ret) : Cap X (σ, nA) := by
  obtain ⟨p, l, e, R, s, m, args, below, meth, c, ad, INV, CE, n0, kc, ks⟩ := X
  obtain ⟨-, -, -, rfl, rfl, rfl, rfl, -, rfl, rfl, rfl, rfl, hce, hs0⟩ := K
  show (ce nA).1 ≤ _ ∧ (ce nA).2 ≤ _
  rw [hce]; exact ⟨Nat.le_refl _, Nat.le_refl _⟩
theorem ctx_le (K : CtxC X Z a0 C FS FA nA kk l0 n1 a h0 ce rm nm code ml ret) : n1 ≤ a := by
  obtain ⟨p, l, e, R, s, m, args, below, meth, c, ad, INV, CE, n0, kc, ks⟩ := X
  obtain ⟨-, -, -, rfl, rfl, rfl, rfl, hn, -⟩ := K
  exact hn
theorem g_getX (K : CtxC X Z a0 C FS FA nA kk l0 n1 a h0 ce rm nm code ml ret) {idx k : Nat} {n d : String} {q : Nat} (hd : decode code pc = .ok (.getfield idx, 3)) (w : (Cond.fieldLink C idx C n d).before a0 Z = true) (hf : (k, n, d, q) ∈ FS) {v : Value} (hv : up (fun k => a + k) v = fval a j σ (k, n, d, q))
    (h : Go X r (pc + 3) L (v :: st) (σ, j)) : Go X r pc L (.ref 0 :: st) (σ, j) := by
  obtain ⟨p, l, e, R, s, m, args, below, meth, c, ad, INV, CE, n0, kc, ks⟩ := X
  obtain ⟨⟨hx, hby, -, hown, hZ, -⟩, hL, G, rfl, rfl, rfl, rfl, hn, rfl, rfl, rfl, rfl, hce, hs0⟩ := K
  intro T locs A Y N I LO
  obtain ⟨T', Y', e', st'⟩ := getF Y hx hZ hown (host := "") (Or.inl w) Via.refl rfl (I.1.2.1 _ hf) (g := mkF m pc A ((Value.ref 0 :: st).map (up fun k => a + k))) rfl rfl (hb hby hd)
  obtain ⟨s₂, h1, h2⟩ := h T' locs A Y' N (by rw [e']; exact I) LO
  refine ⟨s₂, st' _ ?_, h2⟩
  rw [List.map_cons, hv] at h1
  exact h1
theorem g_getI (K : CtxC X Z a0 C FS FA nA kk l0 n1 a h0 ce rm nm code ml ret) {idx k : Nat} {n d : String} (hd : decode code pc = .ok (.getfield idx, 3)) (w : (Cond.fieldLink C idx C n d).before a0 Z = true) (hf : (k, n, d, 0) ∈ FS)
    (h : Go X r (pc + 3) L (.int (gI σ k) :: st) (σ, j)) : Go X r pc L (.ref 0 :: st) (σ, j) := g_getX K hd w hf rfl h
theorem g_getL (K : CtxC X Z a0 C FS FA nA kk l0 n1 a h0 ce rm nm code ml ret) {idx k : Nat} {n d : String} (hd : decode code pc = .ok (.getfield idx, 3)) (w : (Cond.fieldLink C idx C n d).before a0 Z = true) (hf : (k, n, d, 1) ∈ FS)
    (h : Go X r (pc + 3) L (.long (gL σ k) :: st) (σ, j)) : Go X r pc L (.ref 0 :: st) (σ, j) := g_getX K hd w hf rfl h
theorem g_getA (K : CtxC X Z a0 C FS FA nA kk l0 n1 a h0 ce rm nm code ml ret) {idx k : Nat} {n d : String} (hd : decode code pc = .ok (.getfield idx, 3)) (w : (Cond.fieldLink C idx C n d).before a0 Z = true) (hf : (k, n, d, 2) ∈ FS) (hk : Nat.ble k j = true)
    (h : Go X r (pc + 3) L (.ref k :: st) (σ, j)) : Go X r pc L (.ref 0 :: st) (σ, j) := g_getX K hd w hf (by simp [up, fval, Nat.le_of_ble_eq_true hk]) h
theorem g_putI (K : CtxC X Z a0 C FS FA nA kk l0 n1 a h0 ce rm nm code ml ret) {idx k : Nat} {n d : String} {t : FieldType} (hd : decode code pc = .ok (.putfield idx, 3)) (w : (Cond.fieldLink C idx C n d).before a0 Z = true) (hf : (k, n, d, 0) ∈ FS)
    (wl : (Cond.lays C C n d).before a0 Z = true ∨ ((Cond.laysFinal C C n d).before a0 Z = true ∧ nm = "<init>")) (ht : parseFieldDescriptor d = some t) {v v' : Int32} (hn : narrow t (.int v) = .int v') (hfi : fits t (.int v') = true)
    (h : Go X r (pc + 3) L st (sI σ k v', j)) : Go X r pc L (.int v :: .ref 0 :: st) (σ, j) := by
  obtain ⟨p, l, e, R, s, m, args, below, meth, c, ad, INV, CE, n0, kc, ks⟩ := X
  obtain ⟨⟨hx, hby, -, hown, hZ, -, -, hnm⟩, hL, G, rfl, rfl, rfl, rfl, hge, rfl, rfl, rfl, rfl, hce, hs0⟩ := K
  intro T locs A Y N I LO
  obtain ⟨T', h', Y', e', W, st'⟩ := putFN Y hx hZ hown w Via.refl rfl (I.1.2.1 _ hf) I.1.1 (wl.imp id fun q => ⟨q.1, rfl, hnm.trans q.2⟩) hL.2.1 ht hn hfi (g := mkF m pc A ((Value.int v :: .ref 0 :: st).map (up fun k => a + k))) rfl rfl (hb hby hd)
  obtain ⟨s₂, h1, h2⟩ := h T' _ A Y' (N.app fun y hy => by cases List.mem_singleton.mp hy; exact hge) (by rw [e']; exact ⟨I.1.putI G hL hf W, I.2.1.wr W (Or.inl (mem_ws (k := 0) (Nat.zero_le _))), by rw [W.size]; exact I.2.2⟩) LO
  exact ⟨s₂, st' _ h1, h2⟩
theorem g_putL (K : CtxC X Z a0 C FS FA nA kk l0 n1 a h0 ce rm nm code ml ret) {idx k : Nat} {n d : String} (hd : decode code pc = .ok (.putfield idx, 3)) (w : (Cond.fieldLink C idx C n d).before a0 Z = true) (hf : (k, n, d, 1) ∈ FS)
    (wl : (Cond.lays C C n d).before a0 Z = true ∨ ((Cond.laysFinal C C n d).before a0 Z = true ∧ nm = "<init>")) (ht : parseFieldDescriptor d = some .long) {v : Int64}
    (h : Go X r (pc + 3) L st (sL σ k v, j)) : Go X r pc L (.long v :: .ref 0 :: st) (σ, j) := by
  obtain ⟨p, l, e, R, s, m, args, below, meth, c, ad, INV, CE, n0, kc, ks⟩ := X
  obtain ⟨⟨hx, hby, -, hown, hZ, -, -, hnm⟩, hL, G, rfl, rfl, rfl, rfl, hge, rfl, rfl, rfl, rfl, hce, hs0⟩ := K
  intro T locs A Y N I LO
  obtain ⟨T', h', Y', e', W, st'⟩ := putFN Y hx hZ hown w Via.refl rfl (I.1.2.1 _ hf) I.1.1 (wl.imp id fun q => ⟨q.1, rfl, hnm.trans q.2⟩) hL.2.1 ht (v := .long v) (v' := .long v) rfl rfl (g := mkF m pc A ((Value.long v :: .ref 0 :: st).map (up fun k => a + k))) rfl rfl (hb hby hd)
  obtain ⟨s₂, h1, h2⟩ := h T' _ A Y' (N.app fun y hy => by cases List.mem_singleton.mp hy; exact hge) (by rw [e']; exact ⟨I.1.putL G hL hf W, I.2.1.wr W (Or.inl (mem_ws (k := 0) (Nat.zero_le _))), by rw [W.size]; exact I.2.2⟩) LO
  exact ⟨s₂, st' _ h1, h2⟩
theorem inb {c : Cell} {n : Nat} {i : Int32} (S : c.slots.size = n) (h0 : 0 ≤ i.toInt) (h1 : i.toInt < n) : ¬ (i < 0 ∨ c.slots.size ≤ i.toNatClampNeg) := by
  have e0 : (0 : Int32).toInt = 0 := rfl
  rw [S, Int32.lt_iff_toInt_lt, e0]; simp only [Int32.toNatClampNeg]; omega
theorem at_arr {c : Cell} {n : Nat} {g : Int → Int32} (H : ∀ i : Nat, i < n → c.slots[i]? = some (.int (g (i : Int)))) {i : Int32} (h0 : 0 ≤ i.toInt) (h1 : i.toInt < n) : c.slots[i.toNatClampNeg]? = some (.int (g i.toInt)) := by
  have e : (i.toNatClampNeg : Int) = i.toInt := by simp only [Int32.toNatClampNeg]; omega
  have := H i.toNatClampNeg (by omega)
  rw [e] at this; exact this
theorem g_iaload (K : CtxC X Z a0 C FS FA nA kk l0 n1 a h0 ce rm nm code ml ret) {k n : Nat} {i : Int32} (hd : decode code pc = .ok (.iaload, 1)) (hq : (k, .int, n) ∈ FA) (hk : Nat.ble k j = true) (hi : 0 ≤ i.toInt ∧ i.toInt < (n : Nat))
    (h : Go X r (pc + 1) L (.int (gA σ k i.toInt) :: st) (σ, j)) : Go X r pc L (.int i :: .ref k :: st) (σ, j) := by
  obtain ⟨p, l, e, R, s, m, args, below, meth, c, ad, INV, CE, n0, kc, ks⟩ := X
  obtain ⟨⟨hx, hby, -, hown, hZ, -⟩, hL, G, rfl, rfl, rfl, rfl, hn, rfl, rfl, rfl, rfl, hce, hs0⟩ := K
  intro T locs A Y N I LO
  obtain ⟨cl, F1, F2, F3⟩ := I.1.2.2 _ hq (Nat.le_of_ble_eq_true hk)
  obtain ⟨s₂, h1, h2⟩ := h T locs A Y N I LO
  exact ⟨s₂, Y.iaload hx F1.1 (State.isArrayOf_alike hZ.alike F1.2.1) F1.2.2 (inb F2 hi.1 hi.2) (at_arr F3 hi.1 hi.2) (g := mkF m pc A ((Value.int i :: .ref k :: st).map (up fun k => a + k))) rfl rfl (hb hby hd) _ h1, h2⟩
theorem g_baload (K : CtxC X Z a0 C FS FA nA kk l0 n1 a h0 ce rm nm code ml ret) {k n : Nat} {i : Int32} (hd : decode code pc = .ok (.baload, 1)) (hq : (k, .boolean, n) ∈ FA) (hk : Nat.ble k j = true) (hi : 0 ≤ i.toInt ∧ i.toInt < (n : Nat))
    (h : Go X r (pc + 1) L (.int (gA σ k i.toInt) :: st) (σ, j)) : Go X r pc L (.int i :: .ref k :: st) (σ, j) := by
  obtain ⟨p, l, e, R, s, m, args, below, meth, c, ad, INV, CE, n0, kc, ks⟩ := X
  obtain ⟨⟨hx, hby, -, hown, hZ, -⟩, hL, G, rfl, rfl, rfl, rfl, hn, rfl, rfl, rfl, rfl, hce, hs0⟩ := K
  intro T locs A Y N I LO
  obtain ⟨cl, F1, F2, F3⟩ := I.1.2.2 _ hq (Nat.le_of_ble_eq_true hk)
  obtain ⟨s₂, h1, h2⟩ := h T locs A Y N I LO
  exact ⟨s₂, Y.baloadBooleans hx F1.1 (State.isArrayOf_alike hZ.alike F1.2.1) F1.2.2 (inb F2 hi.1 hi.2) (at_arr F3 hi.1 hi.2) (g := mkF m pc A ((Value.int i :: .ref k :: st).map (up fun k => a + k))) rfl rfl (hb hby hd) _ h1, h2⟩
theorem g_caload (K : CtxC X Z a0 C FS FA nA kk l0 n1 a h0 ce rm nm code ml ret) {k n : Nat} {i : Int32} (hd : decode code pc = .ok (.caload, 1)) (hq : (k, .char, n) ∈ FA) (hk : Nat.ble k j = true) (hi : 0 ≤ i.toInt ∧ i.toInt < (n : Nat))
    (h : Go X r (pc + 1) L (.int (gA σ k i.toInt) :: st) (σ, j)) : Go X r pc L (.int i :: .ref k :: st) (σ, j) := by
  obtain ⟨p, l, e, R, s, m, args, below, meth, c, ad, INV, CE, n0, kc, ks⟩ := X
  obtain ⟨⟨hx, hby, -, hown, hZ, -⟩, hL, G, rfl, rfl, rfl, rfl, hn, rfl, rfl, rfl, rfl, hce, hs0⟩ := K
  intro T locs A Y N I LO
  obtain ⟨cl, F1, F2, F3⟩ := I.1.2.2 _ hq (Nat.le_of_ble_eq_true hk)
  obtain ⟨s₂, h1, h2⟩ := h T locs A Y N I LO
  exact ⟨s₂, Y.caload hx F1.1 (State.isArrayOf_alike hZ.alike F1.2.1) F1.2.2 (inb F2 hi.1 hi.2) (at_arr F3 hi.1 hi.2) (g := mkF m pc A ((Value.int i :: .ref k :: st).map (up fun k => a + k))) rfl rfl (hb hby hd) _ h1, h2⟩
theorem g_arraylength (K : CtxC X Z a0 C FS FA nA kk l0 n1 a h0 ce rm nm code ml ret) {k n : Nat} {ty : FieldType} {v : Int32} (hd : decode code pc = .ok (.arraylength, 1)) (hq : (k, ty, n) ∈ FA) (hk : Nat.ble k j = true) (hv : n.toInt32 = v)
    (h : Go X r (pc + 1) L (.int v :: st) (σ, j)) : Go X r pc L (.ref k :: st) (σ, j) := by
  obtain ⟨p, l, e, R, s, m, args, below, meth, c, ad, INV, CE, n0, kc, ks⟩ := X
  obtain ⟨⟨hx, hby, -, hown, hZ, -⟩, hL, G, rfl, rfl, rfl, rfl, hn, rfl, rfl, rfl, rfl, hce, hs0⟩ := K
  intro T locs A Y N I LO
  obtain ⟨cl, F1, F2, F3⟩ := I.1.2.2 _ hq (Nat.le_of_ble_eq_true hk)
  obtain ⟨s₂, h1, h2⟩ := h T locs A Y N I LO
  subst hv
  simp only at F2
  subst F2
  exact ⟨s₂, Y.arraylength hx F1.1 (State.isArrayOf_alike hZ.alike F1.2.1) (g := mkF m pc A ((Value.ref k :: st).map (up fun k => a + k))) rfl rfl (hb hby hd) _ h1, h2⟩
theorem g_iastore (K : CtxC X Z a0 C FS FA nA kk l0 n1 a h0 ce rm nm code ml ret) {k n : Nat} {i v : Int32} (hd : decode code pc = .ok (.iastore, 1)) (hq : (k, .int, n) ∈ FA) (hk : Nat.ble k j = true) (hi : 0 ≤ i.toInt ∧ i.toInt < (n : Nat))
    (h : Go X r (pc + 1) L st (sA σ k i.toInt v, j)) : Go X r pc L (.int v :: .int i :: .ref k :: st) (σ, j) := by
  obtain ⟨p, l, e, R, s, m, args, below, meth, c, ad, INV, CE, n0, kc, ks⟩ := X
  obtain ⟨⟨hx, hby, -, hown, hZ, -⟩, hL, G, rfl, rfl, rfl, rfl, hge, rfl, rfl, rfl, rfl, hce, hs0⟩ := K
  intro T locs A Y N I LO
  obtain ⟨cl, F1, F2, F3⟩ := I.1.2.2 _ hq (Nat.le_of_ble_eq_true hk)
  obtain ⟨T', h', Y', e', W, st'⟩ := stI Y hx hZ rfl F1 (x := v) (inb F2 hi.1 hi.2) (g := mkF m pc A ((Value.int v :: .int i :: .ref k :: st).map (up fun k => a + k))) rfl rfl (hb hby hd)
  obtain ⟨s₂, h1, h2⟩ := h T' _ A Y' (N.app fun y hy => by cases List.mem_singleton.mp hy; exact Nat.le_trans hge (Nat.le_add_right _ _)) (by rw [e']; exact ⟨I.1.set G hq (Nat.le_of_ble_eq_true hk) hi.1 hi.2 W, I.2.1.wr W (Or.inl (mem_ws (lay_pos G hq).2.1)), by rw [W.size]; exact I.2.2⟩) LO
  exact ⟨s₂, st' _ h1, h2⟩
theorem g_bastore (K : CtxC X Z a0 C FS FA nA kk l0 n1 a h0 ce rm nm code ml ret) {k n : Nat} {i v v' : Int32} (hd : decode code pc = .ok (.bastore, 1)) (hq : (k, .boolean, n) ∈ FA) (hk : Nat.ble k j = true) (hi : 0 ≤ i.toInt ∧ i.toInt < (n : Nat)) (hv : nar .boolean v = v')
    (h : Go X r (pc + 1) L st (sA σ k i.toInt v', j)) : Go X r pc L (.int v :: .int i :: .ref k :: st) (σ, j) := by
  obtain ⟨p, l, e, R, s, m, args, below, meth, c, ad, INV, CE, n0, kc, ks⟩ := X
  obtain ⟨⟨hx, hby, -, hown, hZ, -⟩, hL, G, rfl, rfl, rfl, rfl, hge, rfl, rfl, rfl, rfl, hce, hs0⟩ := K
  subst hv
  intro T locs A Y N I LO
  obtain ⟨cl, F1, F2, F3⟩ := I.1.2.2 _ hq (Nat.le_of_ble_eq_true hk)
  obtain ⟨T', h', Y', e', W, st'⟩ := stZ Y hx hZ rfl F1 (x := v) (inb F2 hi.1 hi.2) (g := mkF m pc A ((Value.int v :: .int i :: .ref k :: st).map (up fun k => a + k))) rfl rfl (hb hby hd)
  obtain ⟨s₂, h1, h2⟩ := h T' _ A Y' (N.app fun y hy => by cases List.mem_singleton.mp hy; exact Nat.le_trans hge (Nat.le_add_right _ _)) (by rw [e']; exact ⟨I.1.set G hq (Nat.le_of_ble_eq_true hk) hi.1 hi.2 W, I.2.1.wr W (Or.inl (mem_ws (lay_pos G hq).2.1)), by rw [W.size]; exact I.2.2⟩) LO
  exact ⟨s₂, st' _ h1, h2⟩
theorem g_castore (K : CtxC X Z a0 C FS FA nA kk l0 n1 a h0 ce rm nm code ml ret) {k n : Nat} {i v v' : Int32} (hd : decode code pc = .ok (.castore, 1)) (hq : (k, .char, n) ∈ FA) (hk : Nat.ble k j = true) (hi : 0 ≤ i.toInt ∧ i.toInt < (n : Nat)) (hv : nar .char v = v')
    (h : Go X r (pc + 1) L st (sA σ k i.toInt v', j)) : Go X r pc L (.int v :: .int i :: .ref k :: st) (σ, j) := by
  obtain ⟨p, l, e, R, s, m, args, below, meth, c, ad, INV, CE, n0, kc, ks⟩ := X
  obtain ⟨⟨hx, hby, -, hown, hZ, -⟩, hL, G, rfl, rfl, rfl, rfl, hge, rfl, rfl, rfl, rfl, hce, hs0⟩ := K
  subst hv
  intro T locs A Y N I LO
  obtain ⟨cl, F1, F2, F3⟩ := I.1.2.2 _ hq (Nat.le_of_ble_eq_true hk)
  obtain ⟨T', h', Y', e', W, st'⟩ := stC Y hx hZ rfl F1 (x := v) (inb F2 hi.1 hi.2) (g := mkF m pc A ((Value.int v :: .int i :: .ref k :: st).map (up fun k => a + k))) rfl rfl (hb hby hd)
  obtain ⟨s₂, h1, h2⟩ := h T' _ A Y' (N.app fun y hy => by cases List.mem_singleton.mp hy; exact Nat.le_trans hge (Nat.le_add_right _ _)) (by rw [e']; exact ⟨I.1.set G hq (Nat.le_of_ble_eq_true hk) hi.1 hi.2 W, I.2.1.wr W (Or.inl (mem_ws (lay_pos G hq).2.1)), by rw [W.size]; exact I.2.2⟩) LO
  exact ⟨s₂, st' _ h1, h2⟩
/-! ### the constructor's own steps -/
theorem g_objinit (K : CtxC X Z a0 C FS FA nA kk l0 n1 a h0 ce rm nm code ml ret) {idx k : Nat} (hd : decode code pc = .ok (.invokespecial idx, 3)) (w1 : (Cond.methodLink C idx Lib.objectInit).before a0 Z = true) (w2 : (Cond.instanceMethod Lib.objectInit).before a0 Z = true)
    (w3 : (Cond.code Lib.objectInit ⟨#[0xb1]⟩ 1 none).before a0 Z = true) (hml : L.length = ml) (hr1 : 1 ≤ rm.frames) (hr2 : (st.map fun v => v.category).sum + 12 ≤ rm.locals) (h : Go X r (pc + 3) L st (σ, j)) : Go X r pc L (.ref k :: st) (σ, j) := by
  obtain ⟨p, l, e, R, s, m, args, below, meth, c, ad, INV, CE, n0, kc, ks⟩ := X
  obtain ⟨⟨hx, hby, hcm, hown, hZ, -⟩, hL, G, rfl, rfl, rfl, rfl, hge, rfl, rfl, rfl, rfl, hce, hs0⟩ := K
  intro T locs A Y N I LO
  obtain ⟨T', Y', e', st'⟩ := initO Y hx hZ hown w1 w2 w3 rfl (g := mkF m pc A ((Value.ref k :: st).map (up fun k => a + k))) rfl (by rw [hcm, ← hml]; exact LO.1) rfl (hb hby hd) hr1 (W := (st.map fun v => v.category).sum) (by rw [up_cats]; show 2 * 0 + _ ≤ _; omega) hr2
  obtain ⟨s₂, h1, h2⟩ := h T' locs A Y' N (by rw [e']; exact I) LO
  exact ⟨s₂, st' _ h1, h2⟩
/-- newarray and, behind it, putfield: the next array of the object -/
theorem g_newput (K : CtxC X Z a0 C FS FA nA kk l0 n1 a h0 ce rm nm code ml ret) {aty : ArrayType} {idx : Nat} {n d : String} {len : Int32} {t : FieldType} (hd : decode code pc = .ok (.newarray aty, 2)) (hd2 : decode code (pc + 2) = .ok (.putfield idx, 3)) (wa : (Cond.arrayClass (newarray.typeOf aty)).before a0 Z = true) (w : (Cond.fieldLink C idx C n d).before a0 Z = true)
    (hf : (j + 1, n, d, 2) ∈ FS) (wl : (Cond.lays C C n d).before a0 Z = true ∨ ((Cond.laysFinal C C n d).before a0 Z = true ∧ nm = "<init>")) (ht : parseFieldDescriptor d = some t) (hn : ∀ x, narrow t (.ref x) = .ref x) (hfi : ∀ x, fits t (.ref x) = true)
    (hint : newarray.typeOf aty = .int ∨ newarray.typeOf aty = .boolean ∨ newarray.typeOf aty = .char) {q : ASpec} (hq : q ∈ FA) (hq1 : q.1 = j + 1) (hq2 : q.2.1 = newarray.typeOf aty) (hq3 : q.2.2 = len.toNatClampNeg) (hlen : ¬ len < 0) (hcap : len.toNatClampNeg * 8 ≤ 536870912)
    (hh : h0.size = a + 1) (hce1 : ce j = (j, (ce j).2)) (hce2 : ce (j + 1) = (j + 1, (ce j).2 + len.toNatClampNeg)) (hc1 : j + 1 ≤ rm.cells) (hc2 : (ce j).2 + len.toNatClampNeg ≤ rm.slots) (hz : ∀ i, gA σ (j + 1) i = 0)
    (h : Go X r (pc + 5) L st (σ, j + 1)) : Go X r pc L (.int len :: .ref 0 :: st) (σ, j) := by
  obtain ⟨p, l, e, R, s, m, args, below, meth, c, ad, INV, CE, n0, kc, ks⟩ := X
  obtain ⟨⟨hx, hby, -, hown, hZ, -, -, hnm⟩, hL, G, rfl, rfl, rfl, rfl, hge, rfl, rfl, rfl, rfl, hce, hs0⟩ := K
  intro T locs A Y N I LO
  have hY : Stand p l e R s m args below meth c T locs j (ce j).2 := by
    have := Y; simp only at this; rw [hce1] at this; exact this
  have hsz : T.heap.size = a + 1 + j := by have := I.2.2; simp only at this; rw [hce1] at this; omega
  obtain ⟨T1, h1, cA, Y1, e1, E1, A1, st1'⟩ := newP hY hx hZ wa rfl (g := mkF m pc A ((Value.int len :: .ref 0 :: st).map (up fun k => a + k))) rfl (hb hby hd) rfl hlen (Nat.le_refl _) hcap hc1 hc2
  rw [hsz] at A1 st1'
  have eA : a + 1 + j = a + (j + 1) := by omega
  rw [eA] at A1 st1'
  have R1 : Rep Z C FS FA a j h1 σ := I.1.ext E1
  obtain ⟨T2, h2, Y2, e2, W, st2'⟩ := putFN Y1 hx hZ hown w Via.refl e1 (R1.2.1 _ hf) R1.1 (wl.imp id fun q => ⟨q.1, rfl, hnm.trans q.2⟩) hL.2.1 ht (hn _) (hfi _) (g := mkF m (pc + 2) A (.ref (a + (j + 1)) :: ((Value.ref 0 :: st).map (up fun k => a + k)))) rfl rfl (hb hby hd2)
  have R2 : Rep Z C FS FA a (j + 1) h2 σ := by
    refine R1.put G hL hf W (by simp [fval]) (fun g hg ne => ?_) (fun q' hq' hj => ?_)
    · have hk : g.1 ≠ j + 1 := fun z => ne (lay_keys G hg hf z)
      unfold fval
      split
      · rfl
      · rfl
      · by_cases z : g.1 ≤ j
        · rw [if_pos z, if_pos (by omega)]
        · rw [if_neg z, if_neg (by omega)]
    · by_cases z : q'.1 ≤ j
      · exact R1.2.2 q' hq' z
      · have : q' = q := lay_arr G hq' hq (by omega)
        subst this
        rw [hq1, hq2, hq3]
        refine ⟨_, A1, sz_new _ _ _, fun i hi => ?_⟩
        rw [hz]
        rcases hint with e | e | e <;> rw [e] <;> simp [newA, hi, defaultValue]
  have hs1 : h1.size = a + 1 + (j + 1) := by
    have q1 := E1.1
    have q2 : T1.heap.size ≤ s.heap.size + (j + 1) := Y1.heapSize
    have q3 := A1.lt
    rw [e1, hs0, hh] at q2
    have q5 : a + (j + 1) < h1.size := q3
    have q6 : h1.size ≤ a + 1 + (j + 1) := q2
    omega
  obtain ⟨s₂, g1, g2⟩ := h T2 _ A (by show Stand _ _ _ _ _ _ _ _ _ _ _ _ (ce (j + 1)).1 (ce (j + 1)).2; rw [hce2]; exact Y2) (N.app fun y hy => by cases List.mem_singleton.mp hy; exact hge)
    (by rw [e2]; exact ⟨R2, (I.2.1.ext E1).wr W (Or.inl (mem_ws (k := 0) (Nat.zero_le _))), by rw [W.size, hs1, hh]; show _ = _ + (ce (j + 1)).1; rw [hce2]⟩) LO
  exact ⟨s₂, st1' _ (st2' _ g1), g2⟩
end RulesC
/-! ## 6. contracts of methods, and calls on the own object -/
def MetP (l : Launch) (Z : State) (y : MethodName) (code : ByteArray) (ml : Nat) (ret : Option FieldType) (rm : Room) (ws : List Jvm.Cond) (n0 : Nat) (h1 : Heap) (as : Array Value) (v : Option Value) (POST : Heap → Prop) : Prop :=
  MetFree l y (head1 (Jvm.Cond.code y code ml ret :: ws) rm) (fun b U => b = as ∧ Z.Warmed39 U.vm ∧ U.heap = h1) (fun _ _ _ _ _ => True) (fun _ U o U' => ∃ w L, o = .returned w ∧ (w = v ∧ Fr n0 L ∧ POST U'.heap) ∧ FrameEnd U o U' L rm.cells rm.slots)
/-- a body that goes to its end meets its contract -/
theorem met_of_go {S : Type} {l : Launch} {Z : State} {y : MethodName} {code : ByteArray} {ml : Nat} {ret : Option FieldType} {rm : Room} {ws : List Jvm.Cond} {n0 : Nat} {h1 : Heap} {ad : Nat → Addr} {INV : S → Heap → Prop} {CE : S → Nat × Nat} {vs : List Value} {v : Option Value} {x x' : S} {L : List (Option Value)}
    (hp : plainName y.cls = true) (hL : ent vs ml = L) (hI : INV x h1) (hce : CE x = (0, 0))
    (H : ∀ (p : Program) (e : Env) (s : State) (m : MethodId) (below : List Frame) (meth : Method) (c : Code), s.heap = h1 → Ctx (S := S) (p, l, e, rm, s, m, (vs.map (up ad)).toArray, below, meth, c, ad, INV, CE, n0, rm.cells, rm.slots) Z y.cls y.name code ml ret →
      Go (S := S) (p, l, e, rm, s, m, (vs.map (up ad)).toArray, below, meth, c, ad, INV, CE, n0, rm.cells, rm.slots) (v, x') 0 L [] x) :
    MetP l Z y code ml ret rm ws n0 h1 (vs.map (up ad)).toArray (v.map (up ad)) (INV x') := by
  refine MetFree.of_bodySF (plainFor_of_name hp) hisR ?_
  intro p e s m args below meth c s₁ Bd hml0 hP hK
  obtain ⟨rfl, hZ, hh⟩ := hP
  have hown : s.vm.findClass y.cls = some m.cls := findClass_of_methodNamed Bd.named
  have hnm := (name_of_methodNamed Bd.named Bd.method).1
  have X0 : Stand p l e rm s m (vs.map (up ad)).toArray below meth c s₁ [] 0 0 := Stand.of_body Bd
  have e0 : s₁.heap = h1 := by rw [← hh, Bd.state]; rfl
  subst hL
  obtain ⟨s₂, g1, g2, g3, g4, L', g5, g6, g7⟩ := H p e s m below meth c hh ⟨Bd.exec, Bd.bytes, hml0, hown, hZ, Bd.returns, Bd.notSynchronized, hnm⟩ s₁ [] _ (by rw [hce]; exact X0) (Fr.nil n0) (by rw [e0]; exact hI) (loc_ent ad vs ml)
  exact ⟨s₂, _, g1, g2, g3, _, L', rfl, ⟨rfl, g5, g4⟩, ⟨_, rfl⟩, g6, g7⟩
theorem MetP.mono {l : Launch} {Z : State} {y : MethodName} {code : ByteArray} {ml : Nat} {ret : Option FieldType} {rm : Room} {ws : List Jvm.Cond} {n0 : Nat} {h1 : Heap} {as : Array Value} {v : Option Value} {P Q : Heap → Prop}
    (H : MetP l Z y code ml ret rm ws n0 h1 as v P) (hPQ : ∀ h, P h → Q h) : MetP l Z y code ml ret rm ws n0 h1 as v Q := by
  intro p e ha hc hk s m args below hf happ hP hK
  obtain ⟨n, o, q1, q2, q3, w, L, q4, ⟨q5, q6, q7⟩, q8⟩ := H p e ha hc hk s m args below hf happ hP hK
  exact ⟨n, o, q1, q2, q3, w, L, q4, ⟨q5, q6, hPQ _ q7⟩, q8⟩
theorem MetP.back {p : Program} {l : Launch} {e : Env} {R : Room} {s : State} {args : Array Value} {below : List Frame} {Z : State} {a0 : Array Value} {y : MethodName} {code : ByteArray} {ml : Nat} {ret : Option FieldType} {rm : Room} {n0 : Nat} {h1 : Heap} {as : Array Value} {v : Option Value} {POST : Heap → Prop} {len W : Nat}
    (H : MetP l Z y code ml ret rm [] n0 h1 as v POST) (hZ : Z.Warmed39 s.vm) (wc : (Jvm.Cond.code y code ml ret).before a0 Z = true) (wz : (Cond.initialized y.cls).before a0 Z = true) (hf : rm.frames + 1 ≤ R.frames) (hl : W + (ml + 11) + rm.locals ≤ R.locals) :
    Back l R p e below s args y len W (fun A b => b = as ∧ A.U.heap = h1 ∧ A.cells + rm.cells ≤ R.cells ∧ A.slots + rm.slots ≤ R.slots)
      (fun A _ w B => ∃ L, (w = v ∧ Fr n0 L ∧ POST B.U.heap) ∧ B.locs = A.locs ++ L ∧ B.cells = A.cells + rm.cells ∧ B.slots = A.slots + rm.slots) :=
  backOf (Q := fun w h' L => w = v ∧ Fr n0 L ∧ POST h') H hZ wc wz hf hl
/-- a method of the class on the object at a: from σ to σ', giving v -/
def Con (l : Launch) (Z : State) (C : String) (FS : List FSpec) (FA : List ASpec) (nA : Nat) (n0 : Nat) (a : Nat) (y : MethodName) (code : ByteArray) (ml : Nat) (ret : Option FieldType) (rm : Room) (vs : List Value) (σ : St) (v : Option Value) (σ' : St) : Prop :=
  ∀ (ws : List Jvm.Cond) (h1 : Heap), Rep Z C FS FA a nA h1 σ → MetP l Z y code ml ret rm ws n0 h1 (vs.map (up fun k => a + k)).toArray (v.map (up fun k => a + k)) (fun h' => Rep Z C FS FA a nA h' σ' ∧ Keep h1 h' (wsOf a nA) ∧ h'.size = h1.size)
def ce0 : Nat → Nat × Nat := fun _ => (0, 0)
theorem con_of_go {l : Launch} {Z : State} {a0 : Array Value} {C : String} {FS : List FSpec} {FA : List ASpec} {nA kk n0 : Nat} {a : Nat} {n d : String} {code : ByteArray} {ml : Nat} {ret : Option FieldType} {fr lo : Nat} {vs : List Value} {σ : St} {v : Option Value} {σ' : St} {L : List (Option Value)}
    (hp : plainName C = true) (hL : ent vs ml = L) (lw : LayW Z a0 C FS kk) (lg : layGood FS FA nA = true) (hge : n0 ≤ a)
    (H : ∀ (X : Cx (St × Nat)) (h1 : Heap), CtxC X Z a0 C FS FA nA kk l n0 a h1 ce0 ⟨fr, 0, 0, lo⟩ n code ml ret → Go X (v, (σ', nA)) 0 L [] (σ, nA)) :
    Con l Z C FS FA nA n0 a ⟨C, n, d⟩ code ml ret ⟨fr, 0, 0, lo⟩ vs σ v σ' := by
  intro ws h1 hR
  refine (met_of_go (S := St × Nat) (INV := INVc Z C FS FA nA a h1 ce0) (CE := fun x => ce0 x.2) (x := (σ, nA)) (x' := (σ', nA)) hp hL ⟨hR, Keep.refl _ _, rfl⟩ rfl ?_).mono (fun h q => ⟨q.1, q.2.1, q.2.2⟩)
  intro p e s m below meth c hs K
  exact H _ h1 ⟨K, lw, lg, rfl, rfl, rfl, rfl, hge, rfl, rfl, rfl, rfl, rfl, hs⟩
section Calls
variable {X : Cx (St × Nat)} {Z : State} {a0 : Array Value} {C : String} {FS : List FSpec} {FA : List ASpec} {nA kk : Nat} {l0 : Launch} {n1 : Nat} {a : Nat} {h0 : Heap} {ce : Nat → Nat × Nat} {rm rm' : Room} {nm : String} {code code' : ByteArray} {ml ml' : Nat} {ret ret' : Option FieldType} {r : Option Value × (St × Nat)} {pc : Nat} {L : List (Option Value)} {st st0 : List Value} {σ σ' : St}
/-- a call of a private method on 'this' -/
theorem g_callP (K : CtxC X Z a0 C FS FA nA kk l0 n1 a h0 ce rm nm code ml ret) {idx : Nat} {n d : String} {ps : List FieldType} {rt : Option FieldType} (hd : decode code pc = .ok (.invokevirtual idx, 3)) (w1 : (Cond.methodLink C idx ⟨C, n, d⟩).before a0 Z = true) (w2 : (Cond.instanceMethod ⟨C, n, d⟩).before a0 Z = true)
    (w3 : (Cond.privateMethod ⟨C, n, d⟩).before a0 Z = true) (w4 : (Jvm.Cond.code ⟨C, n, d⟩ code' ml' ret').before a0 Z = true) (hy : C ≠ "java/lang/invoke/MethodHandle" ∧ C ≠ "java/lang/invoke/VarHandle") (hpd : parseMethodDescriptor d = some ⟨ps, rt⟩) {vs : List Value} (hst : vs.reverse ++ .ref 0 :: st = st0) (hlen : vs.length = ps.length)
    {v : Option Value} (con : Con l0 Z C FS FA nA n1 a ⟨C, n, d⟩ code' ml' ret' rm' (.ref 0 :: vs) σ v σ') (hml : L.length = ml) (hr1 : rm'.frames + 1 ≤ rm.frames) (hr2 : (st.map fun v => v.category).sum + (ml' + 11) + rm'.locals ≤ rm.locals) (hr3 : rm'.cells = 0) (hr4 : rm'.slots = 0)
    (h : Go X r (pc + 3) L (v.toList ++ st) (σ', nA)) : Go X r pc L st0 (σ, nA) := by
  obtain ⟨p, l, e, R, s, m, args, below, meth, c, ad, INV, CE, n0, kc, ks⟩ := X
  obtain ⟨⟨hx, hby, hcm, hown, hZ, -⟩, hL, G, rfl, rfl, rfl, rfl, hge, rfl, rfl, rfl, rfl, hce, hs0⟩ := K
  intro T locs A Y N I LO
  subst hst
  obtain ⟨cell, hcell, hobj⟩ := I.1.1.cell
  obtain ⟨ci, ki, i1, i2, i3, i4, -⟩ := Cond.instantiable_spec (mvT (args := #[]) hZ hL.2.1)
  have hni : ki.isInterface = false := by simp only [Bool.or_eq_false_iff] at i4; exact i4.1
  have hpr : s.PrivateAt ⟨C, n, d⟩ := Cond.privateMethod_at (mvP hZ w3 (args := #[]))
  have hsel : (Cond.selects C ⟨C, n, d⟩ ⟨C, n, d⟩).before args s = true := selects_self_of_private (y := ⟨C, n, d⟩) i1 i2 hni hpr (mvT hZ w2) hy
  have hcA : (ce nA).1 + rm'.cells ≤ R.cells := by rw [hce, hr3]; exact Nat.le_refl _
  have hsA : (ce nA).2 + rm'.slots ≤ R.slots := by rw [hce, hr4]; exact Nat.le_refl _
  obtain ⟨w, vm₁, ⟨T', L', k', n'⟩, -, Y', ⟨Lc, ⟨q1, q2, q3, q4, q5⟩, l', y', z'⟩, st'⟩ := Y.privateBack hx (y := ⟨C, n, d⟩) hown (mvT hZ w1) (mvT hZ w2) hsel hpr (mvT hZ w4) hy
    (MetP.back (W := (st.map fun v => v.category).sum) (con [] T.heap I.1) hZ w4 hL.2.2 hr1 hr2) (g := mkF m pc A ((vs.reverse ++ .ref 0 :: st).map (up fun k => a + k))) rfl (by rw [hcm, ← hml]; exact LO.1) (Steps.refl _) (a := a) hcell hobj
    (argsL := vs.map (up fun k => a + k)) (rest := st.map (up fun k => a + k)) (lenOf hpd (by rw [List.length_map]; exact hlen)) (by simp [up]) (by rw [up_cats]; show 2 * 0 + _ ≤ _; omega) (hb hby hd) (fun _ _ => ⟨by simp [up], rfl, hcA, hsA⟩)
  dsimp only [Pt.U, Pt.locs, Pt.cells, Pt.slots] at Y' l' y' z' st' q1 q3 q4 q5
  subst l' y' z' q1
  obtain ⟨s₂, h1, h2⟩ := h T' _ A (by show Stand _ _ _ _ _ _ _ _ _ _ _ _ (ce nA).1 (ce nA).2; simpa [hr3, hr4] using Y') (N.app q2) ⟨q3, I.2.1.trans q4 (fun x hx => Or.inl hx), by rw [q5]; exact I.2.2⟩ LO
  refine ⟨s₂, st'.trans ?_, h2⟩
  have e1 : (v.toList ++ st).map (up fun k => a + k) = (v.map (up fun k => a + k)).toList ++ st.map (up fun k => a + k) := by cases v <;> simp
  rw [e1] at h1
  exact h1
/-- a call of a public method on 'this' -/
theorem g_callV (K : CtxC X Z a0 C FS FA nA kk l0 n1 a h0 ce rm nm code ml ret) {idx : Nat} {n d : String} {ps : List FieldType} {rt : Option FieldType} (hd : decode code pc = .ok (.invokevirtual idx, 3)) (w1 : (Cond.methodLink C idx ⟨C, n, d⟩).before a0 Z = true) (w2 : (Cond.instanceMethod ⟨C, n, d⟩).before a0 Z = true)
    (w3 : (Cond.declares ⟨C, n, d⟩).before a0 Z = true) (w3' : (Cond.selects C ⟨C, n, d⟩ ⟨C, n, d⟩).before a0 Z = true) (w4 : (Jvm.Cond.code ⟨C, n, d⟩ code' ml' ret').before a0 Z = true) (hy : C ≠ "java/lang/invoke/MethodHandle" ∧ C ≠ "java/lang/invoke/VarHandle") (hpd : parseMethodDescriptor d = some ⟨ps, rt⟩) {vs : List Value} (hst : vs.reverse ++ .ref 0 :: st = st0) (hlen : vs.length = ps.length)
    {v : Option Value} (con : Con l0 Z C FS FA nA n1 a ⟨C, n, d⟩ code' ml' ret' rm' (.ref 0 :: vs) σ v σ') (hml : L.length = ml) (hr1 : rm'.frames + 1 ≤ rm.frames) (hr2 : (st.map fun v => v.category).sum + (ml' + 11) + rm'.locals ≤ rm.locals) (hr3 : rm'.cells = 0) (hr4 : rm'.slots = 0)
    (h : Go X r (pc + 3) L (v.toList ++ st) (σ', nA)) : Go X r pc L st0 (σ, nA) := by
  obtain ⟨p, l, e, R, s, m, args, below, meth, c, ad, INV, CE, n0, kc, ks⟩ := X
  obtain ⟨⟨hx, hby, hcm, hown, hZ, -⟩, hL, G, rfl, rfl, rfl, rfl, hge, rfl, rfl, rfl, rfl, hce, hs0⟩ := K
  intro T locs A Y N I LO
  subst hst
  obtain ⟨cq, kq, qa, qb, qc⟩ := isOf hZ rfl I.1.1
  have hcA : (ce nA).1 + rm'.cells ≤ R.cells := by rw [hce, hr3]; exact Nat.le_refl _
  have hsA : (ce nA).2 + rm'.slots ≤ R.slots := by rw [hce, hr4]; exact Nat.le_refl _
  obtain ⟨w, vm₁, ⟨T', L', k', n'⟩, -, Y', ⟨Lc, ⟨q1, q2, q3, q4, q5⟩, l', y', z'⟩, st'⟩ := Y.virtualBack hx (y := ⟨C, n, d⟩) (z := ⟨C, n, d⟩) hown (mvT hZ w1) (mvT hZ w3) (notFace_of_selects (args := #[]) (mvT hZ w3')) (mvT hZ w3') (mvT hZ w2) hy
    (MetP.back (W := (st.map fun v => v.category).sum) (con [] T.heap I.1) hZ w4 hL.2.2 hr1 hr2) qa qc (g := mkF m pc A ((vs.reverse ++ .ref 0 :: st).map (up fun k => a + k))) rfl (by rw [hcm, ← hml]; exact LO.1) (Steps.refl _)
    (argsL := vs.map (up fun k => a + k)) (rest := st.map (up fun k => a + k)) (lenOf hpd (by rw [List.length_map]; exact hlen)) (by simp [up]) (by rw [up_cats]; show 2 * 0 + _ ≤ _; omega) (hb hby hd) (fun _ _ => ⟨by simp [up], rfl, hcA, hsA⟩)
  dsimp only [Pt.U, Pt.locs, Pt.cells, Pt.slots] at Y' l' y' z' st' q1 q3 q4 q5
  subst l' y' z' q1
  obtain ⟨s₂, h1, h2⟩ := h T' _ A (by show Stand _ _ _ _ _ _ _ _ _ _ _ _ (ce nA).1 (ce nA).2; simpa [hr3, hr4] using Y') (N.app q2) ⟨q3, I.2.1.trans q4 (fun x hx => Or.inl hx), by rw [q5]; exact I.2.2⟩ LO
  refine ⟨s₂, st'.trans ?_, h2⟩
  have e1 : (v.toList ++ st).map (up fun k => a + k) = (v.map (up fun k => a + k)).toList ++ st.map (up fun k => a + k) := by cases v <;> simp
  rw [e1] at h1
  exact h1
end Calls
/-- the constructor's contract: a new object, its fields at their first values -/
def ConI (l : Launch) (Z : State) (C : String) (FS : List FSpec) (FA : List ASpec) (nA : Nat) (n0 : Nat) (a : Nat) (y : MethodName) (code : ByteArray) (ml : Nat) (rm : Room) (vs : List Value) (σ' : St) : Prop :=
  ∀ (ws : List Jvm.Cond) (h1 : Heap), h1.size = a + 1 → Rep Z C FS FA a 0 h1 z0 → MetP l Z y code ml none rm ws n0 h1 (vs.map (up fun k => a + k)).toArray none (fun h' => Rep Z C FS FA a nA h' σ' ∧ Keep h1 h' (wsOf a nA) ∧ h'.size = h1.size + nA)
def ceI (FA : List ASpec) : Nat → Nat × Nat := fun j => (j, ((FA.filter fun q => decide (q.1 ≤ j)).map fun q => q.2.2).sum)
theorem coni_of_go {l : Launch} {Z : State} {a0 : Array Value} {C : String} {FS : List FSpec} {FA : List ASpec} {nA kk n0 : Nat} {a : Nat} {d : String} {code : ByteArray} {ml : Nat} {fr lo sl : Nat} {vs : List Value} {σ' : St} {L : List (Option Value)}
    (hp : plainName C = true) (hL : ent vs ml = L) (lw : LayW Z a0 C FS kk) (lg : layGood FS FA nA = true) (hge : n0 ≤ a) (hce : ceI FA nA = (nA, sl)) (hc0 : ceI FA 0 = (0, 0))
    (H : ∀ (X : Cx (St × Nat)) (h1 : Heap), h1.size = a + 1 → CtxC X Z a0 C FS FA nA kk l n0 a h1 (ceI FA) ⟨fr, nA, sl, lo⟩ "<init>" code ml none → Go X (none, (σ', nA)) 0 L [] (z0, 0)) :
    ConI l Z C FS FA nA n0 a ⟨C, "<init>", d⟩ code ml ⟨fr, nA, sl, lo⟩ vs σ' := by
  intro ws h1 hsz hR
  refine (met_of_go (S := St × Nat) (INV := INVc Z C FS FA nA a h1 (ceI FA)) (CE := fun x => ceI FA x.2) (x := (z0, 0)) (x' := (σ', nA)) (v := none) hp hL ⟨hR, Keep.refl _ _, by rw [hc0]; rfl⟩ hc0 ?_).mono (fun h q => ⟨q.1, q.2.1, by rw [q.2.2, hce]⟩)
  intro p e s m below meth c hs K
  exact H _ h1 hsz ⟨K, lw, lg, rfl, rfl, rfl, rfl, hge, rfl, rfl, rfl, rfl, hce, hs⟩
/-! ## 7. the law: static code that makes objects and calls them; object i is reference i, the script is reference 100 -/
def adL (sc n0 nA : Nat) : Nat → Addr := fun i => if i = 100 then sc else n0 + i * (nA + 1)
def sizeW (W : List (St × Nat)) : Nat := (W.map fun x => 1 + x.2).sum
def INVl (Z : State) (C : String) (FS : List FSpec) (FA : List ASpec) (nA : Nat) (n0 : Nat) (H0 : Heap) : List (St × Nat) → Heap → Prop := fun W h => (∀ i x, W[i]? = some x → Rep Z C FS FA (n0 + i * (nA + 1)) x.2 h x.1) ∧ h.size = n0 + sizeW W ∧ Ext H0 h
/-- the script: its length and its values, as they stood at the start -/
def Script (Z : State) (H0 : Heap) (sc : Nat) (z : Int32) (f : Int → Int32) : Prop := ∃ c : Cell, Arr Z H0 sc c .int ∧ c.slots.size = z.toNatClampNeg ∧ 0 ≤ z.toInt ∧ ∀ i : Nat, i < z.toNatClampNeg → c.slots[i]? = some (.int (f (i : Int)))
def CtxL (X : Cx (List (St × Nat))) (Z : State) (a0 : Array Value) (C : String) (FS : List FSpec) (FA : List ASpec) (nA kk : Nat) (l0 : Launch) (n1 : Nat) (sc : Nat) (H0 : Heap) (ce : List (St × Nat) → Nat × Nat) (rm : Room) (kc1 ks1 : Nat) (own nm : String) (code : ByteArray) (ml : Nat) (ret : Option FieldType) : Prop :=
  Ctx X Z own nm code ml ret ∧ LayW Z a0 C FS kk ∧ layGood FS FA nA = true ∧
  match X with
  | (p, l, e, R, s, m, args, below, meth, c, ad, INV, CE, n0, kc, ks) => ad = adL sc n1 nA ∧ INV = INVl Z C FS FA nA n1 H0 ∧ CE = ce ∧ n0 = n1 ∧ H0.size = n1 ∧ l = l0 ∧ R = rm ∧ kc = kc1 ∧ ks = ks1
def ceJ (kk : Nat) (FA : List ASpec) (js : List Nat) : Nat × Nat := ((js.map fun j => 1 + j).sum, (js.map fun j => kk + (ceI FA j).2).sum)
def ceL (kk : Nat) (FA : List ASpec) : List (St × Nat) → Nat × Nat := fun W => ceJ kk FA (W.map Prod.snd)
theorem ceL_1 (kk : Nat) (FA : List ASpec) (W : List (St × Nat)) : (ceL kk FA W).1 = sizeW W := by simp [ceL, ceJ, sizeW, Function.comp_def]
theorem ceL_eq {kk : Nat} {FA : List ASpec} {W W' : List (St × Nat)} (h : W'.map Prod.snd = W.map Prod.snd) : ceL kk FA W' = ceL kk FA W := congrArg (ceJ kk FA) h
theorem capJ1 {kk c d : Nat} {FA : List ASpec} {W : List (St × Nat)} {js : List Nat} (h : (ceJ kk FA js).1 ≤ c ∧ (ceJ kk FA js).2 ≤ d) (hj : W.map Prod.snd = js) : (ceL kk FA W).1 ≤ c := by subst hj; exact h.1
theorem capJ2 {kk c d : Nat} {FA : List ASpec} {W : List (St × Nat)} {js : List Nat} (h : (ceJ kk FA js).1 ≤ c ∧ (ceJ kk FA js).2 ≤ d) (hj : W.map Prod.snd = js) : (ceL kk FA W).2 ≤ d := by subst hj; exact h.2
theorem capN1 {kk c d : Nat} {FA : List ASpec} {W : List (St × Nat)} {js : List Nat} (h : (ceJ kk FA js).1 + 1 ≤ c ∧ (ceJ kk FA js).2 + kk ≤ d) (hj : W.map Prod.snd = js) : (ceL kk FA W).1 + 1 ≤ c := by subst hj; exact h.1
theorem capN2 {kk c d : Nat} {FA : List ASpec} {W : List (St × Nat)} {js : List Nat} (h : (ceJ kk FA js).1 + 1 ≤ c ∧ (ceJ kk FA js).2 + kk ≤ d) (hj : W.map Prod.snd = js) : (ceL kk FA W).2 + kk ≤ d := by subst hj; exact h.2
/-- a static method of the law's class -/
def ConL (l : Launch) (Z : State) (C : String) (FS : List FSpec) (FA : List ASpec) (nA : Nat) (n0 : Nat) (sc : Nat) (H0 : Heap) (y : MethodName) (code : ByteArray) (ml : Nat) (ret : Option FieldType) (rm : Room) (vs : List Value) (W : List (St × Nat)) (v : Option Value) (W' : List (St × Nat)) : Prop :=
  ∀ (ws : List Jvm.Cond) (h1 : Heap), INVl Z C FS FA nA n0 H0 W h1 → MetP l Z y code ml ret rm ws n0 h1 (vs.map (up (adL sc n0 nA))).toArray (v.map (up (adL sc n0 nA))) (INVl Z C FS FA nA n0 H0 W')
def ceS : List (St × Nat) → Nat × Nat := fun _ => (0, 0)
theorem conl_of_go {l : Launch} {Z : State} {a0 : Array Value} {C : String} {FS : List FSpec} {FA : List ASpec} {nA kk n0 : Nat} {sc : Nat} {H0 : Heap} {own n d : String} {code : ByteArray} {ml : Nat} {ret : Option FieldType} {fr lo : Nat} {vs : List Value} {W : List (St × Nat)} {v : Option Value} {W' : List (St × Nat)} {L : List (Option Value)}
    (hp : plainName own = true) (hL : ent vs ml = L) (lw : LayW Z a0 C FS kk) (lg : layGood FS FA nA = true) (hH : H0.size = n0)
    (H : ∀ (X : Cx (List (St × Nat))), CtxL X Z a0 C FS FA nA kk l n0 sc H0 ceS ⟨fr, 0, 0, lo⟩ 0 0 own n code ml ret → Go X (v, W') 0 L [] W) :
    ConL l Z C FS FA nA n0 sc H0 ⟨own, n, d⟩ code ml ret ⟨fr, 0, 0, lo⟩ vs W v W' := by
  intro ws h1 hR
  refine met_of_go (S := List (St × Nat)) (INV := INVl Z C FS FA nA n0 H0) (CE := ceS) (x := W) (x' := W') hp hL hR rfl ?_
  intro p e s m below meth c hs K
  exact H _ ⟨K, lw, lg, rfl, rfl, rfl, rfl, hH, rfl, rfl, rfl, rfl⟩
section RulesL
variable {X : Cx (List (St × Nat))} {Z : State} {a0 : Array Value} {C : String} {FS : List FSpec} {FA : List ASpec} {nA kk : Nat} {l0 : Launch} {n1 : Nat} {sc : Nat} {H0 : Heap} {ce : List (St × Nat) → Nat × Nat} {rm rm' : Room} {kc1 ks1 : Nat} {own nm : String} {code code' : ByteArray} {ml ml' : Nat} {ret ret' : Option FieldType} {r : Option Value × List (St × Nat)} {pc : Nat} {L : List (Option Value)} {st st0 : List Value} {W W' : List (St × Nat)}
theorem capL (K : CtxL X Z a0 C FS FA nA kk l0 n1 sc H0 ce rm kc1 ks1 own nm code ml ret) (h1 : (ce W).1 ≤ kc1) (h2 : (ce W).2 ≤ ks1) : Cap X W := by
  obtain ⟨p, l, e, R, s, m, args, below, meth, c, ad, INV, CE, n0, kc, ks⟩ := X
  obtain ⟨-, -, -, rfl, rfl, rfl, rfl, -, rfl, rfl, rfl, rfl⟩ := K
  exact ⟨h1, h2⟩
theorem ctxl_sz (K : CtxL X Z a0 C FS FA nA kk l0 n1 sc H0 ce rm kc1 ks1 own nm code ml ret) : H0.size = n1 := by
  obtain ⟨p, l, e, R, s, m, args, below, meth, c, ad, INV, CE, n0, kc, ks⟩ := X
  obtain ⟨-, -, -, rfl, rfl, rfl, rfl, hH, -⟩ := K
  exact hH
theorem ws_ne {n0 nA i i' k x : Nat} (hi : i ≠ i') (hk : k ≤ nA) (hx : x ∈ wsOf (n0 + i' * (nA + 1)) nA) : n0 + i * (nA + 1) + k ≠ x := by
  have := of_ws hx
  intro e
  subst e
  rcases Nat.lt_or_gt_of_ne hi with q | q
  · have : (i + 1) * (nA + 1) ≤ i' * (nA + 1) := Nat.mul_le_mul_right _ q
    rw [Nat.add_mul] at this; omega
  · have : (i' + 1) * (nA + 1) ≤ i * (nA + 1) := Nat.mul_le_mul_right _ q
    rw [Nat.add_mul] at this; omega
theorem sizeW_set {i : Nat} {x y : St × Nat} (hi : W[i]? = some x) (hxy : y.2 = x.2) : sizeW (W.set i y) = sizeW W := by
  induction W generalizing i with
  | nil => simp at hi
  | cons w r ih =>
    cases i with
    | zero => simp at hi; subst hi; simp [sizeW, hxy]
    | succ i => simp at hi; have := ih hi; simp [sizeW] at this ⊢; omega
/-- object i, at its last stage or in the making, is changed by a call that keeps to its own cells -/
theorem INVl.upd (G : layGood FS FA nA = true) {h h' : Heap} (I : INVl Z C FS FA nA n1 H0 W h) {i : Nat} {x y : St × Nat} (hi : W[i]? = some x) (hR : Rep Z C FS FA (n1 + i * (nA + 1)) y.2 h' y.1) (hK : Keep h h' (wsOf (n1 + i * (nA + 1)) nA)) (hs : h'.size = n1 + sizeW (W.set i y)) (hH : H0.size = n1) : INVl Z C FS FA nA n1 H0 (W.set i y) h' := by
  obtain ⟨g1, g2, g3⟩ := I
  refine ⟨fun k z hz => ?_, hs, ?_⟩
  · by_cases e : k = i
    · subst e
      rw [List.getElem?_set_self (List.getElem?_eq_some_iff.mp hi).1] at hz
      cases hz; exact hR
    · rw [List.getElem?_set_ne (Ne.symm e)] at hz
      exact (g1 k z hz).keep' G hK fun q hq hm => ws_ne e hq hm rfl
  · refine ⟨Nat.le_trans g3.1 hK.1, fun x c hx => hK.2.1 x c (g3.2 x c hx) fun hm => ?_⟩
    have := of_ws hm
    have := (Array.getElem?_eq_some_iff.mp hx).1
    have : n1 ≤ n1 + i * (nA + 1) := Nat.le_add_right _ _
    omega
theorem l_new (K : CtxL X Z a0 C FS FA nA kk l0 n1 sc H0 (ceL kk FA) rm kc1 ks1 own nm code ml ret) {idx : Nat} (hd : decode code pc = .ok (.new idx, 3)) (w : (Cond.classLink own idx C).before a0 Z = true) (hW : sizeW W = W.length * (nA + 1)) (hl : W.length ≠ 100) (hs : hsz X = n1)
    (hc0 : (ceI FA 0).2 = 0) (hr1 : (ceL kk FA W).1 + 1 ≤ rm.cells) (hr2 : (ceL kk FA W).2 + kk ≤ rm.slots) {i : Nat} (hi : W.length = i) (h : Go X r (pc + 3) L (.ref i :: st) (W ++ [(z0, 0)])) : Go X r pc L st W := by
  obtain ⟨p, l, e, R, s, m, args, below, meth, c, ad, INV, CE, n0, kc, ks⟩ := X
  have hs0 : s.heap.size = n1 := hs
  obtain ⟨⟨hx, hby, hcm, hown, hZ, -⟩, hL, G, rfl, rfl, rfl, rfl, hH, rfl, rfl, rfl, rfl⟩ := K
  subst hi
  intro T locs A Y N I LO
  obtain ⟨T', h', Y', e', E', A', D', -, st'⟩ := newO Y hx hZ hown w hL.2.1 hL.2.2 rfl (g := mkF m pc A (st.map (up (adL sc n0 nA)))) rfl (hb hby hd) hr1 hr2
  have hsz : T.heap.size = n0 + W.length * (nA + 1) := by rw [← hW]; exact I.2.1
  rw [hsz] at A' D' st'
  have hR : Rep Z C FS FA (n0 + W.length * (nA + 1)) 0 h' z0 := by
    refine ⟨A', fun f hf => ?_, fun q hq hq0 => absurd (lay_pos G hq).1 (by omega)⟩
    obtain ⟨t, ht, hdv⟩ := lay_desc G hf
    have := D' (hL.1 f hf) ht
    rw [hdv] at this
    have e1 : fval (n0 + W.length * (nA + 1)) 0 z0 f = fval 0 0 z0 f := by
      unfold fval
      split
      · rfl
      · rfl
      · rename_i hk0 hk1
        by_cases z : f.1 ≤ 0
        · exfalso
          have hd2 := lay_desc G hf
          obtain ⟨t2, ht2, hv2⟩ := hd2
          unfold fval at hv2
          split at hv2
          · contradiction
          · contradiction
          · rw [if_pos z] at hv2; cases t2 <;> simp [defaultValue] at hv2
        · rw [if_neg z, if_neg z]
    rw [e1]; exact this
  have hs2 : h'.size = n0 + sizeW (W ++ [(z0, 0)]) := by
    have q1 : T'.heap.size ≤ s.heap.size + ((ceL kk FA W).1 + 1) := Y'.heapSize
    have q2 : n0 + W.length * (nA + 1) < h'.size := A'.lt
    have q3 : (ceL kk FA W).1 = W.length * (nA + 1) := (ceL_1 _ _ _).trans hW
    rw [e', hs0, q3] at q1
    have q4 : sizeW (W ++ [(z0, 0)]) = sizeW W + 1 := by simp [sizeW]
    rw [q4, hW]
    generalize W.length * (nA + 1) = P at q1 q2 ⊢
    have q5 : h'.size ≤ n0 + (P + 1) := q1
    omega
  obtain ⟨s₂, h1, h2⟩ := h T' locs A (by
      have q1 : (ceL kk FA (W ++ [(z0, 0)])) = ((ceL kk FA W).1 + 1, (ceL kk FA W).2 + kk) := by simp [ceL, ceJ, hc0]
      rw [q1]; exact Y') N (by
      rw [e']
      refine ⟨fun k z hz => ?_, hs2, ⟨Nat.le_trans I.2.2.1 E'.1, fun x c hx => E'.2 x c (I.2.2.2 x c hx)⟩⟩
      by_cases q : k < W.length
      · rw [List.getElem?_append_left q] at hz; exact (I.1 k z hz).ext E'
      · rw [List.getElem?_append_right (Nat.le_of_not_lt q)] at hz
        have : k - W.length = 0 := by
          have := (List.getElem?_eq_some_iff.mp hz).1; simpa using this
        have hk : k = W.length := by omega
        subst hk
        simp at hz; subst hz; exact hR) LO
  refine ⟨s₂, st' _ ?_, h2⟩
  have e2 : up (adL sc n0 nA) (.ref W.length) = .ref (n0 + W.length * (nA + 1)) := by simp [up, adL, hl]
  rw [List.map_cons, e2] at h1
  exact h1
theorem l_init (K : CtxL X Z a0 C FS FA nA kk l0 n1 sc H0 (ceL kk FA) rm kc1 ks1 own nm code ml ret) {idx : Nat} {d : String} {ps : List FieldType} {rt : Option FieldType} (hd : decode code pc = .ok (.invokespecial idx, 3)) (w1 : (Cond.methodLink own idx ⟨C, "<init>", d⟩).before a0 Z = true) (w2 : (Cond.instanceMethod ⟨C, "<init>", d⟩).before a0 Z = true)
    (w4 : (Jvm.Cond.code ⟨C, "<init>", d⟩ code' ml' none).before a0 Z = true) (hy : C ≠ "java/lang/invoke/MethodHandle" ∧ C ≠ "java/lang/invoke/VarHandle") (hpd : parseMethodDescriptor d = some ⟨ps, rt⟩) {vs : List Value} (hvs : ∀ v ∈ vs, v.isRef = false) {i : Nat} (hst : vs.reverse ++ .ref i :: st = st0) (hlen : vs.length = ps.length) {σ' : St} {W0 : List (St × Nat)} (hW : W = W0 ++ [(z0, 0)]) (hi : W0.length = i) (hi' : i ≠ 100) (hsz : sizeW W0 = i * (nA + 1)) (hW' : W0 ++ [(σ', nA)] = W')
    (con : ConI l0 Z C FS FA nA n1 (n1 + i * (nA + 1)) ⟨C, "<init>", d⟩ code' ml' rm' (.ref 0 :: vs) σ') (hml : L.length = ml) (hr1 : rm'.frames + 1 ≤ rm.frames) (hr2 : (st.map fun v => v.category).sum + (ml' + 11) + rm'.locals ≤ rm.locals) (hr3 : rm'.cells = nA) (hr4 : rm'.slots = (ceI FA nA).2) (hc0 : (ceI FA 0).2 = 0) (hr5 : (ceL kk FA W').1 ≤ rm.cells) (hr6 : (ceL kk FA W').2 ≤ rm.slots)
    (h : Go X r (pc + 3) L st W') : Go X r pc L st0 W := by
  obtain ⟨p, l, e, R, s, m, args, below, meth, c, ad, INV, CE, n0, kc, ks⟩ := X
  obtain ⟨⟨hx, hby, hcm, hown, hZ, -⟩, hL, G, rfl, rfl, rfl, rfl, hH, rfl, rfl, rfl, rfl⟩ := K
  subst hi hW hst hW'
  intro T locs A Y N I LO
  have hWi : (W0 ++ [(z0, 0)])[W0.length]? = some (z0, 0) := by simp
  have hR := I.1 _ _ hWi
  have hT : T.heap.size = n0 + W0.length * (nA + 1) + 1 := by
    have q1 := I.2.1
    have q4 : sizeW (W0 ++ [(z0, 0)]) = sizeW W0 + 1 := by simp [sizeW]
    omega
  have c1 : ceL kk FA (W0 ++ [(σ', nA)]) = ((ceL kk FA (W0 ++ [(z0, 0)])).1 + nA, (ceL kk FA (W0 ++ [(z0, 0)])).2 + (ceI FA nA).2) := by
    simp [ceL, ceJ, hc0]; omega
  have hup : ∀ v ∈ vs, up (adL sc n0 nA) v = up (fun k => n0 + W0.length * (nA + 1) + k) v := fun v hv => by
    have := hvs v hv
    cases v <;> simp [Value.isRef, up] at this ⊢
  have eup : vs.map (up (adL sc n0 nA)) = vs.map (up (fun k => n0 + W0.length * (nA + 1) + k)) := List.map_congr_left hup
  have e0 : up (adL sc n0 nA) (.ref W0.length) = .ref (n0 + W0.length * (nA + 1)) := by simp [up, adL, hi']
  obtain ⟨w, vm₁, ⟨T', L', k', n'⟩, -, Y', ⟨Lc, ⟨q1, q2, q3, q4, q5⟩, l', y', z'⟩, st'⟩ := Y.specialBack hx (y := ⟨C, "<init>", d⟩) rfl hown (mvT hZ w1) (mvT hZ w2) (mvT hZ w4) hy
    (MetP.back (W := (st.map fun v => v.category).sum) (con [] T.heap hT hR) hZ w4 hL.2.2 hr1 hr2) (g := mkF m pc A ((vs.reverse ++ .ref W0.length :: st).map (up (adL sc n0 nA)))) rfl (by rw [hcm, ← hml]; exact LO.1) (Steps.refl _) (a := n0 + W0.length * (nA + 1))
    (argsL := vs.map (up (adL sc n0 nA))) (rest := st.map (up (adL sc n0 nA))) (lenOf hpd (by rw [List.length_map]; exact hlen)) (by simp [e0]) (by rw [up_cats]; show 2 * 0 + _ ≤ _; omega) (hb hby hd) (fun _ _ => ⟨by rw [eup]; simp [up], rfl, by show _ + rm'.cells ≤ _; rw [hr3]; rw [c1] at hr5; exact hr5, by show _ + rm'.slots ≤ _; rw [hr4]; rw [c1] at hr6; exact hr6⟩)
  dsimp only [Pt.U, Pt.locs, Pt.cells, Pt.slots] at Y' l' y' z' st' q1 q3 q4 q5
  subst l' y' z' q1
  have eW : (W0 ++ [(z0, 0)]).set W0.length (σ', nA) = W0 ++ [(σ', nA)] := by simp
  obtain ⟨s₂, h1, h2⟩ := h T' _ A (by rw [c1]; simpa [hr3, hr4] using Y') (N.app q2) (by
      have := I.upd G hWi (y := (σ', nA)) q3 q4 (by rw [q5, hT, eW]; simp [sizeW] at hsz ⊢; omega) hH
      rw [eW] at this; exact this) LO
  exact ⟨s₂, st'.trans h1, h2⟩
theorem l_call (K : CtxL X Z a0 C FS FA nA kk l0 n1 sc H0 ce rm kc1 ks1 own nm code ml ret) {idx : Nat} {n d : String} {ps : List FieldType} {rt : Option FieldType} (hd : decode code pc = .ok (.invokevirtual idx, 3)) (w1 : (Cond.methodLink own idx ⟨C, n, d⟩).before a0 Z = true) (w2 : (Cond.instanceMethod ⟨C, n, d⟩).before a0 Z = true)
    (w3 : (Cond.declares ⟨C, n, d⟩).before a0 Z = true) (w3' : (Cond.selects C ⟨C, n, d⟩ ⟨C, n, d⟩).before a0 Z = true) (w4 : (Jvm.Cond.code ⟨C, n, d⟩ code' ml' ret').before a0 Z = true) (hy : C ≠ "java/lang/invoke/MethodHandle" ∧ C ≠ "java/lang/invoke/VarHandle") (hpd : parseMethodDescriptor d = some ⟨ps, rt⟩) {vs : List Value} (hvs : ∀ v ∈ vs, v.isRef = false) {i : Nat} (hi' : i ≠ 100) (hst : vs.reverse ++ .ref i :: st = st0) (hlen : vs.length = ps.length)
    {v : Option Value} (hv : ∀ u, v = some u → u.isRef = false) {σ σ' : St} (hi : W[i]? = some (σ, nA)) (hW' : W.set i (σ', nA) = W') (con : Con l0 Z C FS FA nA n1 (n1 + i * (nA + 1)) ⟨C, n, d⟩ code' ml' ret' rm' (.ref 0 :: vs) σ v σ') (hml : L.length = ml) (hr1 : rm'.frames + 1 ≤ rm.frames) (hr2 : (st.map fun v => v.category).sum + (ml' + 11) + rm'.locals ≤ rm.locals) (hr3 : rm'.cells = 0) (hr4 : rm'.slots = 0)
    (hce : ce W' = ce W) (hr5 : (ce W).1 ≤ rm.cells) (hr6 : (ce W).2 ≤ rm.slots) (h : Go X r (pc + 3) L (v.toList ++ st) W') : Go X r pc L st0 W := by
  obtain ⟨p, l, e, R, s, m, args, below, meth, c, ad, INV, CE, n0, kc, ks⟩ := X
  obtain ⟨⟨hx, hby, hcm, hown, hZ, -⟩, hL, G, rfl, rfl, rfl, rfl, hH, rfl, rfl, rfl, rfl⟩ := K
  subst hst hW'
  intro T locs A Y N I LO
  have hR := I.1 _ _ hi
  obtain ⟨cq, kq, qa, qb, qc⟩ := isOf hZ rfl hR.1
  have hup : ∀ v ∈ vs, up (adL sc n0 nA) v = up (fun k => n0 + i * (nA + 1) + k) v := fun v hv => by
    have := hvs v hv
    cases v <;> simp [Value.isRef, up] at this ⊢
  have eup : vs.map (up (adL sc n0 nA)) = vs.map (up (fun k => n0 + i * (nA + 1) + k)) := List.map_congr_left hup
  have e0 : up (adL sc n0 nA) (.ref i) = .ref (n0 + i * (nA + 1)) := by simp [up, adL, hi']
  obtain ⟨w, vm₁, ⟨T', L', k', n'⟩, -, Y', ⟨Lc, ⟨q1, q2, q3, q4, q5⟩, l', y', z'⟩, st'⟩ := Y.virtualBack hx (y := ⟨C, n, d⟩) (z := ⟨C, n, d⟩) hown (mvT hZ w1) (mvT hZ w3) (notFace_of_selects (args := #[]) (mvT hZ w3')) (mvT hZ w3') (mvT hZ w2) hy
    (MetP.back (W := (st.map fun v => v.category).sum) (con [] T.heap hR) hZ w4 hL.2.2 hr1 hr2) qa qc (g := mkF m pc A ((vs.reverse ++ .ref i :: st).map (up (adL sc n0 nA)))) rfl (by rw [hcm, ← hml]; exact LO.1) (Steps.refl _)
    (argsL := vs.map (up (adL sc n0 nA))) (rest := st.map (up (adL sc n0 nA))) (lenOf hpd (by rw [List.length_map]; exact hlen)) (by simp [e0]) (by rw [up_cats]; show 2 * 0 + _ ≤ _; omega) (hb hby hd) (fun _ _ => ⟨by rw [eup]; simp [up], rfl, by show _ + rm'.cells ≤ _; rw [hr3]; exact hr5, by show _ + rm'.slots ≤ _; rw [hr4]; exact hr6⟩)
  dsimp only [Pt.U, Pt.locs, Pt.cells, Pt.slots] at Y' l' y' z' st' q1 q3 q4 q5
  subst l' y' z' q1
  obtain ⟨s₂, h1, h2⟩ := h T' _ A (by rw [hce]; simpa [hr3, hr4] using Y') (N.app q2) (I.upd G hi (y := (σ', nA)) q3 q4 (by rw [q5, sizeW_set (y := (σ', nA)) hi rfl]; exact I.2.1) hH) LO
  refine ⟨s₂, st'.trans ?_, h2⟩
  have e1 : (v.toList ++ st).map (up (adL sc n0 nA)) = (v.map (up fun k => n0 + i * (nA + 1) + k)).toList ++ st.map (up (adL sc n0 nA)) := by
    cases v with
    | none => simp
    | some u => have := hv u rfl; cases u <;> simp [Value.isRef, up] at this ⊢
  rw [e1] at h1
  exact h1
theorem l_static (K : CtxL X Z a0 C FS FA nA kk l0 n1 sc H0 ce rm kc1 ks1 own nm code ml ret) {idx : Nat} {n d : String} {ps : List FieldType} {rt : Option FieldType} (hd : decode code pc = .ok (.invokestatic idx, 3)) (w1 : (Cond.methodLink own idx ⟨own, n, d⟩).before a0 Z = true) (w2 : (Cond.static ⟨own, n, d⟩).before a0 Z = true)
    (wz : (Cond.initialized own).before a0 Z = true) (w4 : (Jvm.Cond.code ⟨own, n, d⟩ code' ml' ret').before a0 Z = true) (hy : own ≠ "java/lang/invoke/MethodHandle" ∧ own ≠ "java/lang/invoke/VarHandle") (hpd : parseMethodDescriptor d = some ⟨ps, rt⟩) {vs : List Value} (hst : vs.reverse ++ st = st0) (hlen : vs.length = ps.length)
    {v : Option Value} (con : ConL l0 Z C FS FA nA n1 sc H0 ⟨own, n, d⟩ code' ml' ret' rm' vs W v W') (hml : L.length = ml) (hr1 : rm'.frames + 1 ≤ rm.frames) (hr2 : (st.map fun v => v.category).sum + (ml' + 11) + rm'.locals ≤ rm.locals) (hr3 : rm'.cells = 0) (hr4 : rm'.slots = 0)
    (hce : ce W' = ce W) (hr5 : (ce W).1 ≤ rm.cells) (hr6 : (ce W).2 ≤ rm.slots) (h : Go X r (pc + 3) L (v.toList ++ st) W') : Go X r pc L st0 W := by
  obtain ⟨p, l, e, R, s, m, args, below, meth, c, ad, INV, CE, n0, kc, ks⟩ := X
  obtain ⟨⟨hx, hby, hcm, hown, hZ, -⟩, hL, G, rfl, rfl, rfl, rfl, hH, rfl, rfl, rfl, rfl⟩ := K
  subst hst
  intro T locs A Y N I LO
  obtain ⟨w, vm₁, ⟨T', L', k', n'⟩, -, Y', ⟨Lc, ⟨q1, q2, q3⟩, l', y', z'⟩, st'⟩ := Jvm.LawKit.callS Y hx (y := ⟨own, n, d⟩) hown (mvT hZ w1) (mvT hZ w2) (mvT hZ wz) (mvT hZ w4) hy
    (MetP.back (W := (st.map fun v => v.category).sum) (con [] T.heap I) hZ w4 wz hr1 hr2) (g := mkF m pc A ((vs.reverse ++ st).map (up (adL sc n0 nA)))) rfl (by rw [hcm, ← hml]; exact LO.1)
    (argsL := vs.map (up (adL sc n0 nA))) (rest := st.map (up (adL sc n0 nA))) (lenOf hpd (by rw [List.length_map]; exact hlen)) (by simp) (by rw [up_cats]; show 2 * 0 + _ ≤ _; omega) (hb hby hd) (fun _ _ => ⟨rfl, rfl, by show _ + rm'.cells ≤ _; rw [hr3]; exact hr5, by show _ + rm'.slots ≤ _; rw [hr4]; exact hr6⟩)
  dsimp only [Pt.U, Pt.locs, Pt.cells, Pt.slots] at Y' l' y' z' st' q1 q3
  subst l' y' z' q1
  obtain ⟨s₂, h1, h2⟩ := h T' _ A (by rw [hce]; simpa [hr3, hr4] using Y') (N.app q2) q3 LO
  refine ⟨s₂, st' _ ?_, h2⟩
  have e1 : (v.toList ++ st).map (up (adL sc n0 nA)) = (v.map (up (adL sc n0 nA))).toList ++ st.map (up (adL sc n0 nA)) := by cases v <;> simp
  rw [e1] at h1
  exact h1
theorem l_len (K : CtxL X Z a0 C FS FA nA kk l0 n1 sc H0 ce rm kc1 ks1 own nm code ml ret) {z : Int32} {f : Int → Int32} (hS : Script Z H0 sc z f) (hd : decode code pc = .ok (.arraylength, 1)) (h : Go X r (pc + 1) L (.int z :: st) W) : Go X r pc L (.ref 100 :: st) W := by
  obtain ⟨p, l, e, R, s, m, args, below, meth, c, ad, INV, CE, n0, kc, ks⟩ := X
  obtain ⟨⟨hx, hby, hcm, hown, hZ, -⟩, hL, G, rfl, rfl, rfl, rfl, hH, rfl, rfl, rfl, rfl⟩ := K
  intro T locs A Y N I LO
  obtain ⟨cl, F1, F2, F3, F4⟩ := hS
  obtain ⟨s₂, h1, h2⟩ := h T locs A Y N I LO
  have ez : cl.slots.size.toInt32 = z := by
    rw [F2]; exact (back32 (by rw [Int32.lt_iff_toInt_lt]; have e0 : (0 : Int32).toInt = 0 := rfl; omega)).1
  refine ⟨s₂, Y.arraylength hx (I.2.2.2 _ _ F1.1) (State.isArrayOf_alike hZ.alike F1.2.1) (g := mkF m pc A ((Value.ref 100 :: st).map (up (adL sc n0 nA)))) rfl rfl (hb hby hd) _ ?_, h2⟩
  rw [ez]; exact h1
theorem l_iaload (K : CtxL X Z a0 C FS FA nA kk l0 n1 sc H0 ce rm kc1 ks1 own nm code ml ret) {z i : Int32} {f : Int → Int32} (hS : Script Z H0 sc z f) (hd : decode code pc = .ok (.iaload, 1)) (hi : 0 ≤ i.toInt ∧ i.toInt < z.toInt) (h : Go X r (pc + 1) L (.int (f i.toInt) :: st) W) : Go X r pc L (.int i :: .ref 100 :: st) W := by
  obtain ⟨p, l, e, R, s, m, args, below, meth, c, ad, INV, CE, n0, kc, ks⟩ := X
  obtain ⟨⟨hx, hby, hcm, hown, hZ, -⟩, hL, G, rfl, rfl, rfl, rfl, hH, rfl, rfl, rfl, rfl⟩ := K
  intro T locs A Y N I LO
  obtain ⟨cl, F1, F2, F3, F4⟩ := hS
  obtain ⟨s₂, h1, h2⟩ := h T locs A Y N I LO
  have hz : (z.toNatClampNeg : Int) = z.toInt := by simp only [Int32.toNatClampNeg]; omega
  exact ⟨s₂, Y.iaload hx (I.2.2.2 _ _ F1.1) (State.isArrayOf_alike hZ.alike F1.2.1) F1.2.2 (inb F2 hi.1 (by omega)) (at_arr F4 hi.1 (by omega)) (g := mkF m pc A ((Value.int i :: .ref 100 :: st).map (up (adL sc n0 nA)))) rfl rfl (hb hby hd) _ h1, h2⟩
end RulesL
theorem Script.le0 {Z : State} {H0 : Heap} {sc : Nat} {z : Int32} {f : Int → Int32} (h : Script Z H0 sc z f) : 0 ≤ z.toInt := by obtain ⟨_, -, -, q, -⟩ := h; exact q
theorem script_start {s : State} {args : Array Value} {sc : Nat} {n : Int32} (hf : Fit s) (esc : (Term.arg 0).eval args s none [] s = some (.ref sc)) (nA : (Cond.arrayOf (.arg 0) .int).value args s none s [] = some true) (nL : (Cond.le (.length (.arg 0)) (.int n)).value args s none s [] = some true) :
    ∃ (z : Int32) (f : Int → Int32), Script s s.heap sc z f ∧ z.toInt ≤ n.toInt := by
  obtain ⟨cl, A⟩ := Arr.start esc nA
  obtain ⟨x, y, ex, ey, -, -⟩ := cmp_v (r := true) (Or.inr (Or.inr nL))
  obtain ⟨sd, SA, hev, harrAt, -⟩ := Term.length_spec ex
  cases esc.symm.trans hev
  have h31 := SBG.length_lt hev harrAt ex
  have e1 := A.fin (Vm.Alike.refl _)
  cases e1.symm.trans harrAt
  obtain ⟨z, hz, S⟩ := Scr.start hf A h31
  obtain ⟨-, S2, S3, S4⟩ := S
  have e0 : (0 : Int32).toInt = 0 := rfl
  rw [Int32.lt_iff_toInt_lt, e0] at S3
  refine ⟨z, fun i => atv cl (Int32.ofInt i), ⟨cl, A, S2, by omega, fun i hi => ?_⟩, ?_⟩
  · have hi2 : (i : Int) < 2 ^ 31 := by have := z.toInt_lt; simp only [Int32.toNatClampNeg] at hi; omega
    have e2 : (Int32.ofInt (i : Int)).toInt = i := Int32.toInt_ofInt_of_le (by omega) (by omega)
    have e3 : (Int32.ofInt (i : Int)).toNatClampNeg = i := by simp [Int32.toNatClampNeg, e2]
    have := S4 (Int32.ofInt (i : Int)) (by rw [Int32.lt_iff_toInt_lt, e0, e2, e3]; omega)
    rw [e3] at this; exact this
  · have q1 := len_f hev harrAt h31
    have q2 := gotT (Cond.le_ints q1 (Term.int_eval n)) nL
    rw [← hz] at q2
    exact Int32.le_iff_toInt_le.mp q2
end Jvm.OwnFlat
namespace Jvm.OwnFlat
open Jvm Jvm.ClassFile Jvm.RoadKit
/-! ## 8. ints -/
theorem lt_i {x y : Int32} : x < y ↔ x.toInt < y.toInt := Int32.lt_iff_toInt_lt
theorem eq_i32 {x y : Int32} : x = y ↔ x.toInt = y.toInt := Int32.toInt_inj.symm
theorem i_add {x y : Int32} (h1 : -2147483648 ≤ x.toInt + y.toInt) (h2 : x.toInt + y.toInt < 2147483648) : (x + y).toInt = x.toInt + y.toInt := by
  have q := c_iadd x y; have r := rng32 (x + y); omega
theorem i_sub {x y : Int32} (h1 : -2147483648 ≤ x.toInt - y.toInt) (h2 : x.toInt - y.toInt < 2147483648) : (x - y).toInt = x.toInt - y.toInt := by
  have q := c_isub x y; have r := rng32 (x - y); omega
theorem i_inc {x : Int32} (h : x.toInt < 2147483647) : (x + 1).toInt = x.toInt + 1 := by
  have e : (1 : Int32).toInt = 1 := rfl
  have r := rng32 x
  rw [i_add (by omega) (by omega), e]
theorem nar0 : nar .boolean 0 = 0 := by decide
theorem nar1 : nar .boolean 1 = 1 := by decide
theorem narc0 : nar .char 0 = 0 := by decide
/-- a loop that counts up to N -/
theorem loop_up {A R : Type} {l : Nat → Int32 → A → Option R} {w : (Int32 → A → Option R) → Int32 → A → Option R} (hl : ∀ n i x, l (n + 1) i x = w (l n) i x) (N : Int) (hN : N < 2147483648) (P : Int → A → Prop) (Q : Option R → Prop)
    (step : ∀ (k : Int32 → A → Option R) i x, 0 ≤ i.toInt → i.toInt < N → P i.toInt x → (∀ x', P (i.toInt + 1) x' → Q (k (i + 1) x')) → Q (w k i x))
    (done : ∀ (k : Int32 → A → Option R) i x, i.toInt = N → P N x → Q (w k i x)) :
    ∀ (n : Nat) (i : Int32) (x : A), 0 ≤ i.toInt → i.toInt ≤ N → P i.toInt x → N - i.toInt < n → Q (l n i x) := by
  intro n
  induction n with
  | zero => intro i x h0 h1 hp hn; omega
  | succ n ih =>
    intro i x h0 h1 hp hn
    rw [hl]
    by_cases h : i.toInt < N
    · refine step _ i x h0 h hp fun x' hx' => ?_
      have e := i_inc (x := i) (by omega)
      refine ih (i + 1) x' (by omega) (by omega) (by rw [e]; exact hx') (by omega)
    · have : i.toInt = N := by omega
      exact done _ i x this (this ▸ hp)
/-- n rounds of a loop's body -/
def iterS (body : Int → St → St) : Nat → St → St
  | 0, σ => σ
  | n + 1, σ => body n (iterS body n σ)
theorem for_loop {R : Type} {l : Nat → Int32 → St → Option R} {w : (Int32 → St → Option R) → Int32 → St → Option R} (hl : ∀ n i x, l (n + 1) i x = w (l n) i x) (N : Nat) (hN : (N : Int) < 2147483648) (body : Int → St → St) (fin : St → Option R)
    (hw : ∀ (k : Int32 → St → Option R) (i : Int32) (σ : St), 0 ≤ i.toInt → i.toInt < N → w k i σ = k (i + 1) (body i.toInt σ)) (hd : ∀ (k : Int32 → St → Option R) (i : Int32) (σ : St), i.toInt = N → w k i σ = fin σ) (NF : Nat) (hF : N < NF) (σ : St) : l NF 0 σ = fin (iterS body N σ) := by
  refine loop_up hl N hN (fun i x => x = iterS body i.toNat σ) (fun o => o = fin (iterS body N σ)) ?_ ?_ NF 0 σ (by decide) (by have e : (0 : Int32).toInt = 0 := rfl; omega) rfl (by have e : (0 : Int32).toInt = 0 := rfl; omega)
  · intro k i x h0 h1 hp ih
    rw [hw k i x h0 h1]
    refine ih _ ?_
    subst hp
    have e : (i.toInt + 1).toNat = i.toInt.toNat + 1 := by omega
    rw [e]
    show _ = body _ _
    rw [Int.toNat_of_nonneg h0]
  · intro k i x hi hp
    rw [hd k i x hi, hp]; rfl
/-- one array filled from 0 -/
def fillS (σ : St) (k : Nat) (N : Int) (g : Int → Int32) : St := (σ.1, σ.2.1, fun q j => if q = k ∧ 0 ≤ j ∧ j < N then g j else σ.2.2 q j)
theorem gI_fill (σ : St) (k q : Nat) (N : Int) (g : Int → Int32) : gI (fillS σ k N g) q = gI σ q := rfl
theorem gL_fill (σ : St) (k q : Nat) (N : Int) (g : Int → Int32) : gL (fillS σ k N g) q = gL σ q := rfl
theorem gA_fill (σ : St) (k q : Nat) (N j : Int) (g : Int → Int32) : gA (fillS σ k N g) q j = if q = k ∧ 0 ≤ j ∧ j < N then g j else gA σ q j := rfl
theorem fill_iter (σ : St) (k : Nat) (g : Int → Int32) (N : Nat) : iterS (fun i σ => sA σ k i (g i)) N σ = fillS σ k N g := by
  induction N with
  | zero =>
    show σ = _
    obtain ⟨a, b, c⟩ := σ
    simp only [fillS]
    congr 2
    funext q j
    rw [if_neg]; intro h; have := h.2.1; have := h.2.2; omega
  | succ n ih =>
    show sA (iterS _ n σ) k n (g n) = _
    rw [ih]
    simp only [fillS, sA]
    congr 2
    funext q j
    by_cases h1 : q = k
    · subst h1
      by_cases h2 : j = n
      · subst h2; simp; omega
      · simp only [h2, and_false, if_false, true_and]
        by_cases h3 : 0 ≤ j ∧ j < (n : Int)
        · rw [if_pos h3, if_pos (by omega)]
        · rw [if_neg h3, if_neg (by omega)]
    · simp [h1]
theorem fill_loop {R : Type} {l : Nat → Int32 → St → Option R} {w : (Int32 → St → Option R) → Int32 → St → Option R} (hl : ∀ n i x, l (n + 1) i x = w (l n) i x) (N : Nat) (hN : (N : Int) < 2147483648) (k : Nat) (g : Int → Int32) (fin : St → Option R)
    (hw : ∀ (kk : Int32 → St → Option R) (i : Int32) (σ : St), 0 ≤ i.toInt → i.toInt < N → w kk i σ = kk (i + 1) (sA σ k i.toInt (g i.toInt))) (hd : ∀ (kk : Int32 → St → Option R) (i : Int32) (σ : St), i.toInt = N → w kk i σ = fin σ) (NF : Nat) (hF : N < NF) (σ : St) : l NF 0 σ = fin (fillS σ k N g) := by
  rw [for_loop hl N hN (fun i σ => sA σ k i (g i)) fin hw hd NF hF σ, fill_iter]
end Jvm.OwnFlat
namespace Jvm.Pilot.@@N@@
open Jvm Jvm.ClassFile Sem Op Lib Jvm.Free Jvm.Stand Jvm.LawKit Jvm.RoadKit Jvm.OwnFlat Jvm.Pilot.@@N@@.Jvm.D
set_option maxRecDepth 65536
set_option maxHeartbeats 40000000
/-! class WaitFreeUniversal: opKind=1; opArg=2; opThread=3; opStatus=4; opResp=5; opPos=6; thPhase=7; thOwn=8; thP=9; thC=10; thSteps=11; thHelped=12; thLast=13; annId=14; annKind=15; annArg=16; cellPos=17; cellId=18; cellResp=19; cellCounter=20; cellQLen=21; cellQ=22; cellLast=23; n=137; cap=138; opCount=139; tailValue=153 -/
def HW (a0 : Array Value) (Z : State) : Prop := ∀ d ∈ tables_1, d.before a0 Z = true
theorem w0 {a0 : Array Value} {Z : State} (hw : HW a0 Z) : (Jvm.Cond.classLink "WaitFreeUniversalL3" 7 "WaitFreeUniversal").before a0 Z = true := hw _ (List.mem_of_getElem? (i := 0) rfl)
theorem w1 {a0 : Array Value} {Z : State} (hw : HW a0 Z) : (Jvm.Cond.instantiable "WaitFreeUniversal" 27).before a0 Z = true := hw _ (List.mem_of_getElem? (i := 1) rfl)
theorem w2 {a0 : Array Value} {Z : State} (hw : HW a0 Z) : (Jvm.Cond.initialized "WaitFreeUniversal").before a0 Z = true := hw _ (List.mem_of_getElem? (i := 2) rfl)
theorem w3 {a0 : Array Value} {Z : State} (hw : HW a0 Z) : (Jvm.Cond.methodLink "WaitFreeUniversalL3" 9 ⟨"WaitFreeUniversal", "<init>", "(II)V"⟩).before a0 Z = true := hw _ (List.mem_of_getElem? (i := 3) rfl)
theorem w4 {a0 : Array Value} {Z : State} (hw : HW a0 Z) : (Jvm.Cond.instanceMethod ⟨"WaitFreeUniversal", "<init>", "(II)V"⟩).before a0 Z = true := hw _ (List.mem_of_getElem? (i := 4) rfl)
theorem w5 {a0 : Array Value} {Z : State} (hw : HW a0 Z) : (Jvm.Cond.code ⟨"WaitFreeUniversal", "<init>", "(II)V"⟩ prog_1_method_1_code 3 none).before a0 Z = true := hw _ (List.mem_of_getElem? (i := 5) rfl)
theorem w6 {a0 : Array Value} {Z : State} (hw : HW a0 Z) : (Jvm.Cond.methodLink "WaitFreeUniversal" 1 ⟨"java/lang/Object", "<init>", "()V"⟩).before a0 Z = true := hw _ (List.mem_of_getElem? (i := 6) rfl)
theorem w7 {a0 : Array Value} {Z : State} (hw : HW a0 Z) : (Jvm.Cond.instanceMethod ⟨"java/lang/Object", "<init>", "()V"⟩).before a0 Z = true := hw _ (List.mem_of_getElem? (i := 7) rfl)
theorem w8 {a0 : Array Value} {Z : State} (hw : HW a0 Z) : (Jvm.Cond.code ⟨"java/lang/Object", "<init>", "()V"⟩ object_method_1_code 1 none).before a0 Z = true := hw _ (List.mem_of_getElem? (i := 8) rfl)
theorem w9 {a0 : Array Value} {Z : State} (hw : HW a0 Z) : (Jvm.Cond.arrayClass Jvm.ClassFile.FieldType.int).before a0 Z = true := hw _ (List.mem_of_getElem? (i := 9) rfl)
theorem w10 {a0 : Array Value} {Z : State} (hw : HW a0 Z) : (Jvm.Cond.fieldLink "WaitFreeUniversal" 7 "WaitFreeUniversal" "opKind" "[I").before a0 Z = true := hw _ (List.mem_of_getElem? (i := 10) rfl)
theorem w11 {a0 : Array Value} {Z : State} (hw : HW a0 Z) : (Jvm.Cond.lays "WaitFreeUniversal" "WaitFreeUniversal" "opKind" "[I").before a0 Z = true := hw _ (List.mem_of_getElem? (i := 11) rfl)
theorem w12 {a0 : Array Value} {Z : State} (hw : HW a0 Z) : (Jvm.Cond.fieldLink "WaitFreeUniversal" 13 "WaitFreeUniversal" "opArg" "[I").before a0 Z = true := hw _ (List.mem_of_getElem? (i := 12) rfl)
theorem w13 {a0 : Array Value} {Z : State} (hw : HW a0 Z) : (Jvm.Cond.lays "WaitFreeUniversal" "WaitFreeUniversal" "opArg" "[I").before a0 Z = true := hw _ (List.mem_of_getElem? (i := 13) rfl)
theorem w14 {a0 : Array Value} {Z : State} (hw : HW a0 Z) : (Jvm.Cond.fieldLink "WaitFreeUniversal" 16 "WaitFreeUniversal" "opThread" "[I").before a0 Z = true := hw _ (List.mem_of_getElem? (i := 14) rfl)
theorem w15 {a0 : Array Value} {Z : State} (hw : HW a0 Z) : (Jvm.Cond.lays "WaitFreeUniversal" "WaitFreeUniversal" "opThread" "[I").before a0 Z = true := hw _ (List.mem_of_getElem? (i := 15) rfl)
theorem w16 {a0 : Array Value} {Z : State} (hw : HW a0 Z) : (Jvm.Cond.fieldLink "WaitFreeUniversal" 19 "WaitFreeUniversal" "opStatus" "[I").before a0 Z = true := hw _ (List.mem_of_getElem? (i := 16) rfl)
theorem w17 {a0 : Array Value} {Z : State} (hw : HW a0 Z) : (Jvm.Cond.lays "WaitFreeUniversal" "WaitFreeUniversal" "opStatus" "[I").before a0 Z = true := hw _ (List.mem_of_getElem? (i := 17) rfl)
theorem w18 {a0 : Array Value} {Z : State} (hw : HW a0 Z) : (Jvm.Cond.fieldLink "WaitFreeUniversal" 22 "WaitFreeUniversal" "opResp" "[I").before a0 Z = true := hw _ (List.mem_of_getElem? (i := 18) rfl)
theorem w19 {a0 : Array Value} {Z : State} (hw : HW a0 Z) : (Jvm.Cond.lays "WaitFreeUniversal" "WaitFreeUniversal" "opResp" "[I").before a0 Z = true := hw _ (List.mem_of_getElem? (i := 19) rfl)
theorem w20 {a0 : Array Value} {Z : State} (hw : HW a0 Z) : (Jvm.Cond.fieldLink "WaitFreeUniversal" 25 "WaitFreeUniversal" "opPos" "[I").before a0 Z = true := hw _ (List.mem_of_getElem? (i := 20) rfl)
theorem w21 {a0 : Array Value} {Z : State} (hw : HW a0 Z) : (Jvm.Cond.lays "WaitFreeUniversal" "WaitFreeUniversal" "opPos" "[I").before a0 Z = true := hw _ (List.mem_of_getElem? (i := 21) rfl)
theorem w22 {a0 : Array Value} {Z : State} (hw : HW a0 Z) : (Jvm.Cond.fieldLink "WaitFreeUniversal" 28 "WaitFreeUniversal" "thPhase" "[I").before a0 Z = true := hw _ (List.mem_of_getElem? (i := 22) rfl)
theorem w23 {a0 : Array Value} {Z : State} (hw : HW a0 Z) : (Jvm.Cond.lays "WaitFreeUniversal" "WaitFreeUniversal" "thPhase" "[I").before a0 Z = true := hw _ (List.mem_of_getElem? (i := 23) rfl)
theorem w24 {a0 : Array Value} {Z : State} (hw : HW a0 Z) : (Jvm.Cond.fieldLink "WaitFreeUniversal" 31 "WaitFreeUniversal" "thOwn" "[I").before a0 Z = true := hw _ (List.mem_of_getElem? (i := 24) rfl)
theorem w25 {a0 : Array Value} {Z : State} (hw : HW a0 Z) : (Jvm.Cond.lays "WaitFreeUniversal" "WaitFreeUniversal" "thOwn" "[I").before a0 Z = true := hw _ (List.mem_of_getElem? (i := 25) rfl)
theorem w26 {a0 : Array Value} {Z : State} (hw : HW a0 Z) : (Jvm.Cond.fieldLink "WaitFreeUniversal" 34 "WaitFreeUniversal" "thP" "[I").before a0 Z = true := hw _ (List.mem_of_getElem? (i := 26) rfl)
theorem w27 {a0 : Array Value} {Z : State} (hw : HW a0 Z) : (Jvm.Cond.lays "WaitFreeUniversal" "WaitFreeUniversal" "thP" "[I").before a0 Z = true := hw _ (List.mem_of_getElem? (i := 27) rfl)
theorem w28 {a0 : Array Value} {Z : State} (hw : HW a0 Z) : (Jvm.Cond.fieldLink "WaitFreeUniversal" 37 "WaitFreeUniversal" "thC" "[I").before a0 Z = true := hw _ (List.mem_of_getElem? (i := 28) rfl)
theorem w29 {a0 : Array Value} {Z : State} (hw : HW a0 Z) : (Jvm.Cond.lays "WaitFreeUniversal" "WaitFreeUniversal" "thC" "[I").before a0 Z = true := hw _ (List.mem_of_getElem? (i := 29) rfl)
theorem w30 {a0 : Array Value} {Z : State} (hw : HW a0 Z) : (Jvm.Cond.fieldLink "WaitFreeUniversal" 40 "WaitFreeUniversal" "thSteps" "[I").before a0 Z = true := hw _ (List.mem_of_getElem? (i := 30) rfl)
theorem w31 {a0 : Array Value} {Z : State} (hw : HW a0 Z) : (Jvm.Cond.lays "WaitFreeUniversal" "WaitFreeUniversal" "thSteps" "[I").before a0 Z = true := hw _ (List.mem_of_getElem? (i := 31) rfl)
theorem w32 {a0 : Array Value} {Z : State} (hw : HW a0 Z) : (Jvm.Cond.fieldLink "WaitFreeUniversal" 43 "WaitFreeUniversal" "thHelped" "[I").before a0 Z = true := hw _ (List.mem_of_getElem? (i := 32) rfl)
theorem w33 {a0 : Array Value} {Z : State} (hw : HW a0 Z) : (Jvm.Cond.lays "WaitFreeUniversal" "WaitFreeUniversal" "thHelped" "[I").before a0 Z = true := hw _ (List.mem_of_getElem? (i := 33) rfl)
theorem w34 {a0 : Array Value} {Z : State} (hw : HW a0 Z) : (Jvm.Cond.fieldLink "WaitFreeUniversal" 46 "WaitFreeUniversal" "thLast" "[I").before a0 Z = true := hw _ (List.mem_of_getElem? (i := 34) rfl)
theorem w35 {a0 : Array Value} {Z : State} (hw : HW a0 Z) : (Jvm.Cond.lays "WaitFreeUniversal" "WaitFreeUniversal" "thLast" "[I").before a0 Z = true := hw _ (List.mem_of_getElem? (i := 35) rfl)
theorem w36 {a0 : Array Value} {Z : State} (hw : HW a0 Z) : (Jvm.Cond.fieldLink "WaitFreeUniversal" 49 "WaitFreeUniversal" "annId" "[I").before a0 Z = true := hw _ (List.mem_of_getElem? (i := 36) rfl)
theorem w37 {a0 : Array Value} {Z : State} (hw : HW a0 Z) : (Jvm.Cond.lays "WaitFreeUniversal" "WaitFreeUniversal" "annId" "[I").before a0 Z = true := hw _ (List.mem_of_getElem? (i := 37) rfl)
theorem w38 {a0 : Array Value} {Z : State} (hw : HW a0 Z) : (Jvm.Cond.fieldLink "WaitFreeUniversal" 52 "WaitFreeUniversal" "annKind" "[I").before a0 Z = true := hw _ (List.mem_of_getElem? (i := 38) rfl)
theorem w39 {a0 : Array Value} {Z : State} (hw : HW a0 Z) : (Jvm.Cond.lays "WaitFreeUniversal" "WaitFreeUniversal" "annKind" "[I").before a0 Z = true := hw _ (List.mem_of_getElem? (i := 39) rfl)
theorem w40 {a0 : Array Value} {Z : State} (hw : HW a0 Z) : (Jvm.Cond.fieldLink "WaitFreeUniversal" 55 "WaitFreeUniversal" "annArg" "[I").before a0 Z = true := hw _ (List.mem_of_getElem? (i := 40) rfl)
theorem w41 {a0 : Array Value} {Z : State} (hw : HW a0 Z) : (Jvm.Cond.lays "WaitFreeUniversal" "WaitFreeUniversal" "annArg" "[I").before a0 Z = true := hw _ (List.mem_of_getElem? (i := 41) rfl)
theorem w42 {a0 : Array Value} {Z : State} (hw : HW a0 Z) : (Jvm.Cond.fieldLink "WaitFreeUniversal" 58 "WaitFreeUniversal" "cellPos" "[I").before a0 Z = true := hw _ (List.mem_of_getElem? (i := 42) rfl)
theorem w43 {a0 : Array Value} {Z : State} (hw : HW a0 Z) : (Jvm.Cond.lays "WaitFreeUniversal" "WaitFreeUniversal" "cellPos" "[I").before a0 Z = true := hw _ (List.mem_of_getElem? (i := 43) rfl)
theorem w44 {a0 : Array Value} {Z : State} (hw : HW a0 Z) : (Jvm.Cond.fieldLink "WaitFreeUniversal" 61 "WaitFreeUniversal" "cellId" "[I").before a0 Z = true := hw _ (List.mem_of_getElem? (i := 44) rfl)
theorem w45 {a0 : Array Value} {Z : State} (hw : HW a0 Z) : (Jvm.Cond.lays "WaitFreeUniversal" "WaitFreeUniversal" "cellId" "[I").before a0 Z = true := hw _ (List.mem_of_getElem? (i := 45) rfl)
theorem w46 {a0 : Array Value} {Z : State} (hw : HW a0 Z) : (Jvm.Cond.fieldLink "WaitFreeUniversal" 64 "WaitFreeUniversal" "cellResp" "[I").before a0 Z = true := hw _ (List.mem_of_getElem? (i := 46) rfl)
theorem w47 {a0 : Array Value} {Z : State} (hw : HW a0 Z) : (Jvm.Cond.lays "WaitFreeUniversal" "WaitFreeUniversal" "cellResp" "[I").before a0 Z = true := hw _ (List.mem_of_getElem? (i := 47) rfl)
theorem w48 {a0 : Array Value} {Z : State} (hw : HW a0 Z) : (Jvm.Cond.fieldLink "WaitFreeUniversal" 67 "WaitFreeUniversal" "cellCounter" "[I").before a0 Z = true := hw _ (List.mem_of_getElem? (i := 48) rfl)
theorem w49 {a0 : Array Value} {Z : State} (hw : HW a0 Z) : (Jvm.Cond.lays "WaitFreeUniversal" "WaitFreeUniversal" "cellCounter" "[I").before a0 Z = true := hw _ (List.mem_of_getElem? (i := 49) rfl)
theorem w50 {a0 : Array Value} {Z : State} (hw : HW a0 Z) : (Jvm.Cond.fieldLink "WaitFreeUniversal" 70 "WaitFreeUniversal" "cellQLen" "[I").before a0 Z = true := hw _ (List.mem_of_getElem? (i := 50) rfl)
theorem w51 {a0 : Array Value} {Z : State} (hw : HW a0 Z) : (Jvm.Cond.lays "WaitFreeUniversal" "WaitFreeUniversal" "cellQLen" "[I").before a0 Z = true := hw _ (List.mem_of_getElem? (i := 51) rfl)
theorem w52 {a0 : Array Value} {Z : State} (hw : HW a0 Z) : (Jvm.Cond.fieldLink "WaitFreeUniversal" 73 "WaitFreeUniversal" "cellQ" "[I").before a0 Z = true := hw _ (List.mem_of_getElem? (i := 52) rfl)
theorem w53 {a0 : Array Value} {Z : State} (hw : HW a0 Z) : (Jvm.Cond.lays "WaitFreeUniversal" "WaitFreeUniversal" "cellQ" "[I").before a0 Z = true := hw _ (List.mem_of_getElem? (i := 53) rfl)
theorem w54 {a0 : Array Value} {Z : State} (hw : HW a0 Z) : (Jvm.Cond.fieldLink "WaitFreeUniversal" 76 "WaitFreeUniversal" "cellLast" "[I").before a0 Z = true := hw _ (List.mem_of_getElem? (i := 54) rfl)
theorem w55 {a0 : Array Value} {Z : State} (hw : HW a0 Z) : (Jvm.Cond.lays "WaitFreeUniversal" "WaitFreeUniversal" "cellLast" "[I").before a0 Z = true := hw _ (List.mem_of_getElem? (i := 55) rfl)
theorem w56 {a0 : Array Value} {Z : State} (hw : HW a0 Z) : (Jvm.Cond.methodLink "WaitFreeUniversal" 79 ⟨"WaitFreeUniversal", "clamp", "(III)I"⟩).before a0 Z = true := hw _ (List.mem_of_getElem? (i := 56) rfl)
theorem w57 {a0 : Array Value} {Z : State} (hw : HW a0 Z) : (Jvm.Cond.instanceMethod ⟨"WaitFreeUniversal", "clamp", "(III)I"⟩).before a0 Z = true := hw _ (List.mem_of_getElem? (i := 57) rfl)
theorem w58 {a0 : Array Value} {Z : State} (hw : HW a0 Z) : (Jvm.Cond.privateMethod ⟨"WaitFreeUniversal", "clamp", "(III)I"⟩).before a0 Z = true := hw _ (List.mem_of_getElem? (i := 58) rfl)
theorem w59 {a0 : Array Value} {Z : State} (hw : HW a0 Z) : (Jvm.Cond.code ⟨"WaitFreeUniversal", "clamp", "(III)I"⟩ prog_1_method_18_code 4 (some .int)).before a0 Z = true := hw _ (List.mem_of_getElem? (i := 59) rfl)
theorem w60 {a0 : Array Value} {Z : State} (hw : HW a0 Z) : (Jvm.Cond.fieldLink "WaitFreeUniversal" 83 "WaitFreeUniversal" "n" "I").before a0 Z = true := hw _ (List.mem_of_getElem? (i := 60) rfl)
theorem w61 {a0 : Array Value} {Z : State} (hw : HW a0 Z) : (Jvm.Cond.lays "WaitFreeUniversal" "WaitFreeUniversal" "n" "I").before a0 Z = true := hw _ (List.mem_of_getElem? (i := 61) rfl)
theorem w62 {a0 : Array Value} {Z : State} (hw : HW a0 Z) : (Jvm.Cond.fieldLink "WaitFreeUniversal" 87 "WaitFreeUniversal" "cap" "I").before a0 Z = true := hw _ (List.mem_of_getElem? (i := 62) rfl)
theorem w63 {a0 : Array Value} {Z : State} (hw : HW a0 Z) : (Jvm.Cond.lays "WaitFreeUniversal" "WaitFreeUniversal" "cap" "I").before a0 Z = true := hw _ (List.mem_of_getElem? (i := 63) rfl)
theorem w64 {a0 : Array Value} {Z : State} (hw : HW a0 Z) : (Jvm.Cond.fieldLink "WaitFreeUniversal" 90 "WaitFreeUniversal" "opCount" "I").before a0 Z = true := hw _ (List.mem_of_getElem? (i := 64) rfl)
theorem w65 {a0 : Array Value} {Z : State} (hw : HW a0 Z) : (Jvm.Cond.lays "WaitFreeUniversal" "WaitFreeUniversal" "opCount" "I").before a0 Z = true := hw _ (List.mem_of_getElem? (i := 65) rfl)
theorem w66 {a0 : Array Value} {Z : State} (hw : HW a0 Z) : (Jvm.Cond.fieldLink "WaitFreeUniversal" 93 "WaitFreeUniversal" "tailValue" "I").before a0 Z = true := hw _ (List.mem_of_getElem? (i := 66) rfl)
theorem w67 {a0 : Array Value} {Z : State} (hw : HW a0 Z) : (Jvm.Cond.lays "WaitFreeUniversal" "WaitFreeUniversal" "tailValue" "I").before a0 Z = true := hw _ (List.mem_of_getElem? (i := 67) rfl)
theorem w68 {a0 : Array Value} {Z : State} (hw : HW a0 Z) : (Jvm.Cond.methodLink "WaitFreeUniversal" 96 ⟨"WaitFreeUniversal", "resetRecords", "()V"⟩).before a0 Z = true := hw _ (List.mem_of_getElem? (i := 68) rfl)
theorem w69 {a0 : Array Value} {Z : State} (hw : HW a0 Z) : (Jvm.Cond.instanceMethod ⟨"WaitFreeUniversal", "resetRecords", "()V"⟩).before a0 Z = true := hw _ (List.mem_of_getElem? (i := 69) rfl)
theorem w70 {a0 : Array Value} {Z : State} (hw : HW a0 Z) : (Jvm.Cond.privateMethod ⟨"WaitFreeUniversal", "resetRecords", "()V"⟩).before a0 Z = true := hw _ (List.mem_of_getElem? (i := 70) rfl)
theorem w71 {a0 : Array Value} {Z : State} (hw : HW a0 Z) : (Jvm.Cond.code ⟨"WaitFreeUniversal", "resetRecords", "()V"⟩ prog_1_method_27_code 2 none).before a0 Z = true := hw _ (List.mem_of_getElem? (i := 71) rfl)
theorem w72 {a0 : Array Value} {Z : State} (hw : HW a0 Z) : (Jvm.Cond.methodLink "WaitFreeUniversal" 99 ⟨"WaitFreeUniversal", "resetThreads", "()V"⟩).before a0 Z = true := hw _ (List.mem_of_getElem? (i := 72) rfl)
theorem w73 {a0 : Array Value} {Z : State} (hw : HW a0 Z) : (Jvm.Cond.instanceMethod ⟨"WaitFreeUniversal", "resetThreads", "()V"⟩).before a0 Z = true := hw _ (List.mem_of_getElem? (i := 73) rfl)
theorem w74 {a0 : Array Value} {Z : State} (hw : HW a0 Z) : (Jvm.Cond.privateMethod ⟨"WaitFreeUniversal", "resetThreads", "()V"⟩).before a0 Z = true := hw _ (List.mem_of_getElem? (i := 74) rfl)
theorem w75 {a0 : Array Value} {Z : State} (hw : HW a0 Z) : (Jvm.Cond.code ⟨"WaitFreeUniversal", "resetThreads", "()V"⟩ prog_1_method_28_code 2 none).before a0 Z = true := hw _ (List.mem_of_getElem? (i := 75) rfl)
theorem w76 {a0 : Array Value} {Z : State} (hw : HW a0 Z) : (Jvm.Cond.methodLink "WaitFreeUniversal" 154 ⟨"WaitFreeUniversal", "clearThreadLast", "(I)V"⟩).before a0 Z = true := hw _ (List.mem_of_getElem? (i := 76) rfl)
theorem w77 {a0 : Array Value} {Z : State} (hw : HW a0 Z) : (Jvm.Cond.instanceMethod ⟨"WaitFreeUniversal", "clearThreadLast", "(I)V"⟩).before a0 Z = true := hw _ (List.mem_of_getElem? (i := 77) rfl)
theorem w78 {a0 : Array Value} {Z : State} (hw : HW a0 Z) : (Jvm.Cond.privateMethod ⟨"WaitFreeUniversal", "clearThreadLast", "(I)V"⟩).before a0 Z = true := hw _ (List.mem_of_getElem? (i := 78) rfl)
theorem w79 {a0 : Array Value} {Z : State} (hw : HW a0 Z) : (Jvm.Cond.code ⟨"WaitFreeUniversal", "clearThreadLast", "(I)V"⟩ prog_1_method_45_code 3 none).before a0 Z = true := hw _ (List.mem_of_getElem? (i := 79) rfl)
theorem w80 {a0 : Array Value} {Z : State} (hw : HW a0 Z) : (Jvm.Cond.methodLink "WaitFreeUniversal" 218 ⟨"WaitFreeUniversal", "setThreadLast", "(III)V"⟩).before a0 Z = true := hw _ (List.mem_of_getElem? (i := 80) rfl)
theorem w81 {a0 : Array Value} {Z : State} (hw : HW a0 Z) : (Jvm.Cond.instanceMethod ⟨"WaitFreeUniversal", "setThreadLast", "(III)V"⟩).before a0 Z = true := hw _ (List.mem_of_getElem? (i := 81) rfl)
theorem w82 {a0 : Array Value} {Z : State} (hw : HW a0 Z) : (Jvm.Cond.privateMethod ⟨"WaitFreeUniversal", "setThreadLast", "(III)V"⟩).before a0 Z = true := hw _ (List.mem_of_getElem? (i := 82) rfl)
theorem w83 {a0 : Array Value} {Z : State} (hw : HW a0 Z) : (Jvm.Cond.code ⟨"WaitFreeUniversal", "setThreadLast", "(III)V"⟩ prog_1_method_47_code 4 none).before a0 Z = true := hw _ (List.mem_of_getElem? (i := 83) rfl)
theorem w84 {a0 : Array Value} {Z : State} (hw : HW a0 Z) : (Jvm.Cond.methodLink "WaitFreeUniversal" 102 ⟨"WaitFreeUniversal", "resetAnnounces", "()V"⟩).before a0 Z = true := hw _ (List.mem_of_getElem? (i := 84) rfl)
theorem w85 {a0 : Array Value} {Z : State} (hw : HW a0 Z) : (Jvm.Cond.instanceMethod ⟨"WaitFreeUniversal", "resetAnnounces", "()V"⟩).before a0 Z = true := hw _ (List.mem_of_getElem? (i := 85) rfl)
theorem w86 {a0 : Array Value} {Z : State} (hw : HW a0 Z) : (Jvm.Cond.privateMethod ⟨"WaitFreeUniversal", "resetAnnounces", "()V"⟩).before a0 Z = true := hw _ (List.mem_of_getElem? (i := 86) rfl)
theorem w87 {a0 : Array Value} {Z : State} (hw : HW a0 Z) : (Jvm.Cond.code ⟨"WaitFreeUniversal", "resetAnnounces", "()V"⟩ prog_1_method_29_code 2 none).before a0 Z = true := hw _ (List.mem_of_getElem? (i := 87) rfl)
theorem w88 {a0 : Array Value} {Z : State} (hw : HW a0 Z) : (Jvm.Cond.methodLink "WaitFreeUniversal" 105 ⟨"WaitFreeUniversal", "resetCells", "()V"⟩).before a0 Z = true := hw _ (List.mem_of_getElem? (i := 88) rfl)
theorem w89 {a0 : Array Value} {Z : State} (hw : HW a0 Z) : (Jvm.Cond.instanceMethod ⟨"WaitFreeUniversal", "resetCells", "()V"⟩).before a0 Z = true := hw _ (List.mem_of_getElem? (i := 89) rfl)
theorem w90 {a0 : Array Value} {Z : State} (hw : HW a0 Z) : (Jvm.Cond.privateMethod ⟨"WaitFreeUniversal", "resetCells", "()V"⟩).before a0 Z = true := hw _ (List.mem_of_getElem? (i := 90) rfl)
theorem w91 {a0 : Array Value} {Z : State} (hw : HW a0 Z) : (Jvm.Cond.code ⟨"WaitFreeUniversal", "resetCells", "()V"⟩ prog_1_method_30_code 2 none).before a0 Z = true := hw _ (List.mem_of_getElem? (i := 91) rfl)
theorem w92 {a0 : Array Value} {Z : State} (hw : HW a0 Z) : (Jvm.Cond.methodLink "WaitFreeUniversal" 158 ⟨"WaitFreeUniversal", "clearCellQueue", "(I)V"⟩).before a0 Z = true := hw _ (List.mem_of_getElem? (i := 92) rfl)
theorem w93 {a0 : Array Value} {Z : State} (hw : HW a0 Z) : (Jvm.Cond.instanceMethod ⟨"WaitFreeUniversal", "clearCellQueue", "(I)V"⟩).before a0 Z = true := hw _ (List.mem_of_getElem? (i := 93) rfl)
theorem w94 {a0 : Array Value} {Z : State} (hw : HW a0 Z) : (Jvm.Cond.privateMethod ⟨"WaitFreeUniversal", "clearCellQueue", "(I)V"⟩).before a0 Z = true := hw _ (List.mem_of_getElem? (i := 94) rfl)
theorem w95 {a0 : Array Value} {Z : State} (hw : HW a0 Z) : (Jvm.Cond.code ⟨"WaitFreeUniversal", "clearCellQueue", "(I)V"⟩ prog_1_method_31_code 3 none).before a0 Z = true := hw _ (List.mem_of_getElem? (i := 95) rfl)
theorem w96 {a0 : Array Value} {Z : State} (hw : HW a0 Z) : (Jvm.Cond.methodLink "WaitFreeUniversal" 164 ⟨"WaitFreeUniversal", "writeQueueSlot", "(III)V"⟩).before a0 Z = true := hw _ (List.mem_of_getElem? (i := 96) rfl)
theorem w97 {a0 : Array Value} {Z : State} (hw : HW a0 Z) : (Jvm.Cond.instanceMethod ⟨"WaitFreeUniversal", "writeQueueSlot", "(III)V"⟩).before a0 Z = true := hw _ (List.mem_of_getElem? (i := 97) rfl)
theorem w98 {a0 : Array Value} {Z : State} (hw : HW a0 Z) : (Jvm.Cond.privateMethod ⟨"WaitFreeUniversal", "writeQueueSlot", "(III)V"⟩).before a0 Z = true := hw _ (List.mem_of_getElem? (i := 98) rfl)
theorem w99 {a0 : Array Value} {Z : State} (hw : HW a0 Z) : (Jvm.Cond.code ⟨"WaitFreeUniversal", "writeQueueSlot", "(III)V"⟩ prog_1_method_57_code 4 none).before a0 Z = true := hw _ (List.mem_of_getElem? (i := 99) rfl)
theorem w100 {a0 : Array Value} {Z : State} (hw : HW a0 Z) : (Jvm.Cond.methodLink "WaitFreeUniversal" 161 ⟨"WaitFreeUniversal", "clearCellLast", "(I)V"⟩).before a0 Z = true := hw _ (List.mem_of_getElem? (i := 100) rfl)
theorem w101 {a0 : Array Value} {Z : State} (hw : HW a0 Z) : (Jvm.Cond.instanceMethod ⟨"WaitFreeUniversal", "clearCellLast", "(I)V"⟩).before a0 Z = true := hw _ (List.mem_of_getElem? (i := 101) rfl)
theorem w102 {a0 : Array Value} {Z : State} (hw : HW a0 Z) : (Jvm.Cond.privateMethod ⟨"WaitFreeUniversal", "clearCellLast", "(I)V"⟩).before a0 Z = true := hw _ (List.mem_of_getElem? (i := 102) rfl)
theorem w103 {a0 : Array Value} {Z : State} (hw : HW a0 Z) : (Jvm.Cond.code ⟨"WaitFreeUniversal", "clearCellLast", "(I)V"⟩ prog_1_method_32_code 3 none).before a0 Z = true := hw _ (List.mem_of_getElem? (i := 103) rfl)
theorem w104 {a0 : Array Value} {Z : State} (hw : HW a0 Z) : (Jvm.Cond.methodLink "WaitFreeUniversal" 168 ⟨"WaitFreeUniversal", "setCellLast", "(III)V"⟩).before a0 Z = true := hw _ (List.mem_of_getElem? (i := 104) rfl)
theorem w105 {a0 : Array Value} {Z : State} (hw : HW a0 Z) : (Jvm.Cond.instanceMethod ⟨"WaitFreeUniversal", "setCellLast", "(III)V"⟩).before a0 Z = true := hw _ (List.mem_of_getElem? (i := 105) rfl)
theorem w106 {a0 : Array Value} {Z : State} (hw : HW a0 Z) : (Jvm.Cond.privateMethod ⟨"WaitFreeUniversal", "setCellLast", "(III)V"⟩).before a0 Z = true := hw _ (List.mem_of_getElem? (i := 106) rfl)
theorem w107 {a0 : Array Value} {Z : State} (hw : HW a0 Z) : (Jvm.Cond.code ⟨"WaitFreeUniversal", "setCellLast", "(III)V"⟩ prog_1_method_59_code 4 none).before a0 Z = true := hw _ (List.mem_of_getElem? (i := 107) rfl)
theorem w108 {a0 : Array Value} {Z : State} (hw : HW a0 Z) : (Jvm.Cond.methodLink "WaitFreeUniversalL3" 12 ⟨"WaitFreeUniversal", "invoke", "(III)I"⟩).before a0 Z = true := hw _ (List.mem_of_getElem? (i := 108) rfl)
theorem w109 {a0 : Array Value} {Z : State} (hw : HW a0 Z) : (Jvm.Cond.declares ⟨"WaitFreeUniversal", "invoke", "(III)I"⟩).before a0 Z = true := hw _ (List.mem_of_getElem? (i := 109) rfl)
theorem w110 {a0 : Array Value} {Z : State} (hw : HW a0 Z) : (Jvm.Cond.instanceMethod ⟨"WaitFreeUniversal", "invoke", "(III)I"⟩).before a0 Z = true := hw _ (List.mem_of_getElem? (i := 110) rfl)
theorem w111 {a0 : Array Value} {Z : State} (hw : HW a0 Z) : (Jvm.Cond.selects "WaitFreeUniversal" ⟨"WaitFreeUniversal", "invoke", "(III)I"⟩ ⟨"WaitFreeUniversal", "invoke", "(III)I"⟩).before a0 Z = true := hw _ (List.mem_of_getElem? (i := 111) rfl)
theorem w112 {a0 : Array Value} {Z : State} (hw : HW a0 Z) : (Jvm.Cond.code ⟨"WaitFreeUniversal", "invoke", "(III)I"⟩ prog_1_method_2_code 4 (some .int)).before a0 Z = true := hw _ (List.mem_of_getElem? (i := 112) rfl)
theorem w113 {a0 : Array Value} {Z : State} (hw : HW a0 Z) : (Jvm.Cond.methodLink "WaitFreeUniversal" 108 ⟨"WaitFreeUniversal", "validThread", "(I)Z"⟩).before a0 Z = true := hw _ (List.mem_of_getElem? (i := 113) rfl)
theorem w114 {a0 : Array Value} {Z : State} (hw : HW a0 Z) : (Jvm.Cond.instanceMethod ⟨"WaitFreeUniversal", "validThread", "(I)Z"⟩).before a0 Z = true := hw _ (List.mem_of_getElem? (i := 114) rfl)
theorem w115 {a0 : Array Value} {Z : State} (hw : HW a0 Z) : (Jvm.Cond.privateMethod ⟨"WaitFreeUniversal", "validThread", "(I)Z"⟩).before a0 Z = true := hw _ (List.mem_of_getElem? (i := 115) rfl)
theorem w116 {a0 : Array Value} {Z : State} (hw : HW a0 Z) : (Jvm.Cond.code ⟨"WaitFreeUniversal", "validThread", "(I)Z"⟩ prog_1_method_19_code 2 (some .boolean)).before a0 Z = true := hw _ (List.mem_of_getElem? (i := 116) rfl)
theorem w117 {a0 : Array Value} {Z : State} (hw : HW a0 Z) : (Jvm.Cond.methodLink "WaitFreeUniversal" 112 ⟨"WaitFreeUniversal", "validKind", "(I)Z"⟩).before a0 Z = true := hw _ (List.mem_of_getElem? (i := 117) rfl)
theorem w118 {a0 : Array Value} {Z : State} (hw : HW a0 Z) : (Jvm.Cond.instanceMethod ⟨"WaitFreeUniversal", "validKind", "(I)Z"⟩).before a0 Z = true := hw _ (List.mem_of_getElem? (i := 118) rfl)
theorem w119 {a0 : Array Value} {Z : State} (hw : HW a0 Z) : (Jvm.Cond.privateMethod ⟨"WaitFreeUniversal", "validKind", "(I)Z"⟩).before a0 Z = true := hw _ (List.mem_of_getElem? (i := 119) rfl)
theorem w120 {a0 : Array Value} {Z : State} (hw : HW a0 Z) : (Jvm.Cond.code ⟨"WaitFreeUniversal", "validKind", "(I)Z"⟩ prog_1_method_20_code 2 (some .boolean)).before a0 Z = true := hw _ (List.mem_of_getElem? (i := 120) rfl)
theorem w121 {a0 : Array Value} {Z : State} (hw : HW a0 Z) : (Jvm.Cond.methodLink "WaitFreeUniversal" 118 ⟨"WaitFreeUniversal", "acceptInvoke", "(III)I"⟩).before a0 Z = true := hw _ (List.mem_of_getElem? (i := 121) rfl)
theorem w122 {a0 : Array Value} {Z : State} (hw : HW a0 Z) : (Jvm.Cond.instanceMethod ⟨"WaitFreeUniversal", "acceptInvoke", "(III)I"⟩).before a0 Z = true := hw _ (List.mem_of_getElem? (i := 122) rfl)
theorem w123 {a0 : Array Value} {Z : State} (hw : HW a0 Z) : (Jvm.Cond.privateMethod ⟨"WaitFreeUniversal", "acceptInvoke", "(III)I"⟩).before a0 Z = true := hw _ (List.mem_of_getElem? (i := 123) rfl)
theorem w124 {a0 : Array Value} {Z : State} (hw : HW a0 Z) : (Jvm.Cond.code ⟨"WaitFreeUniversal", "acceptInvoke", "(III)I"⟩ prog_1_method_33_code 5 (some .int)).before a0 Z = true := hw _ (List.mem_of_getElem? (i := 124) rfl)
theorem w125 {a0 : Array Value} {Z : State} (hw : HW a0 Z) : (Jvm.Cond.methodLink "WaitFreeUniversal" 171 ⟨"WaitFreeUniversal", "recordOperation", "(IIII)V"⟩).before a0 Z = true := hw _ (List.mem_of_getElem? (i := 125) rfl)
theorem w126 {a0 : Array Value} {Z : State} (hw : HW a0 Z) : (Jvm.Cond.instanceMethod ⟨"WaitFreeUniversal", "recordOperation", "(IIII)V"⟩).before a0 Z = true := hw _ (List.mem_of_getElem? (i := 126) rfl)
theorem w127 {a0 : Array Value} {Z : State} (hw : HW a0 Z) : (Jvm.Cond.privateMethod ⟨"WaitFreeUniversal", "recordOperation", "(IIII)V"⟩).before a0 Z = true := hw _ (List.mem_of_getElem? (i := 127) rfl)
theorem w128 {a0 : Array Value} {Z : State} (hw : HW a0 Z) : (Jvm.Cond.code ⟨"WaitFreeUniversal", "recordOperation", "(IIII)V"⟩ prog_1_method_34_code 5 none).before a0 Z = true := hw _ (List.mem_of_getElem? (i := 128) rfl)
theorem w129 {a0 : Array Value} {Z : State} (hw : HW a0 Z) : (Jvm.Cond.methodLink "WaitFreeUniversal" 115 ⟨"WaitFreeUniversal", "validEnqValue", "(I)Z"⟩).before a0 Z = true := hw _ (List.mem_of_getElem? (i := 129) rfl)
theorem w130 {a0 : Array Value} {Z : State} (hw : HW a0 Z) : (Jvm.Cond.instanceMethod ⟨"WaitFreeUniversal", "validEnqValue", "(I)Z"⟩).before a0 Z = true := hw _ (List.mem_of_getElem? (i := 130) rfl)
theorem w131 {a0 : Array Value} {Z : State} (hw : HW a0 Z) : (Jvm.Cond.privateMethod ⟨"WaitFreeUniversal", "validEnqValue", "(I)Z"⟩).before a0 Z = true := hw _ (List.mem_of_getElem? (i := 131) rfl)
theorem w132 {a0 : Array Value} {Z : State} (hw : HW a0 Z) : (Jvm.Cond.code ⟨"WaitFreeUniversal", "validEnqValue", "(I)Z"⟩ prog_1_method_21_code 2 (some .boolean)).before a0 Z = true := hw _ (List.mem_of_getElem? (i := 132) rfl)
theorem w133 {a0 : Array Value} {Z : State} (hw : HW a0 Z) : (Jvm.Cond.methodLink "WaitFreeUniversalL3" 16 ⟨"WaitFreeUniversal", "step", "(I)I"⟩).before a0 Z = true := hw _ (List.mem_of_getElem? (i := 133) rfl)
theorem w134 {a0 : Array Value} {Z : State} (hw : HW a0 Z) : (Jvm.Cond.declares ⟨"WaitFreeUniversal", "step", "(I)I"⟩).before a0 Z = true := hw _ (List.mem_of_getElem? (i := 134) rfl)
theorem w135 {a0 : Array Value} {Z : State} (hw : HW a0 Z) : (Jvm.Cond.instanceMethod ⟨"WaitFreeUniversal", "step", "(I)I"⟩).before a0 Z = true := hw _ (List.mem_of_getElem? (i := 135) rfl)
theorem w136 {a0 : Array Value} {Z : State} (hw : HW a0 Z) : (Jvm.Cond.selects "WaitFreeUniversal" ⟨"WaitFreeUniversal", "step", "(I)I"⟩ ⟨"WaitFreeUniversal", "step", "(I)I"⟩).before a0 Z = true := hw _ (List.mem_of_getElem? (i := 136) rfl)
theorem w137 {a0 : Array Value} {Z : State} (hw : HW a0 Z) : (Jvm.Cond.code ⟨"WaitFreeUniversal", "step", "(I)I"⟩ prog_1_method_3_code 3 (some .int)).before a0 Z = true := hw _ (List.mem_of_getElem? (i := 137) rfl)
theorem w138 {a0 : Array Value} {Z : State} (hw : HW a0 Z) : (Jvm.Cond.methodLink "WaitFreeUniversal" 121 ⟨"WaitFreeUniversal", "dispatch", "(II)I"⟩).before a0 Z = true := hw _ (List.mem_of_getElem? (i := 138) rfl)
theorem w139 {a0 : Array Value} {Z : State} (hw : HW a0 Z) : (Jvm.Cond.instanceMethod ⟨"WaitFreeUniversal", "dispatch", "(II)I"⟩).before a0 Z = true := hw _ (List.mem_of_getElem? (i := 139) rfl)
theorem w140 {a0 : Array Value} {Z : State} (hw : HW a0 Z) : (Jvm.Cond.privateMethod ⟨"WaitFreeUniversal", "dispatch", "(II)I"⟩).before a0 Z = true := hw _ (List.mem_of_getElem? (i := 140) rfl)
theorem w141 {a0 : Array Value} {Z : State} (hw : HW a0 Z) : (Jvm.Cond.code ⟨"WaitFreeUniversal", "dispatch", "(II)I"⟩ prog_1_method_37_code 3 (some .int)).before a0 Z = true := hw _ (List.mem_of_getElem? (i := 141) rfl)
theorem w142 {a0 : Array Value} {Z : State} (hw : HW a0 Z) : (Jvm.Cond.methodLink "WaitFreeUniversal" 175 ⟨"WaitFreeUniversal", "stepAnnounce", "(I)I"⟩).before a0 Z = true := hw _ (List.mem_of_getElem? (i := 142) rfl)
theorem w143 {a0 : Array Value} {Z : State} (hw : HW a0 Z) : (Jvm.Cond.instanceMethod ⟨"WaitFreeUniversal", "stepAnnounce", "(I)I"⟩).before a0 Z = true := hw _ (List.mem_of_getElem? (i := 143) rfl)
theorem w144 {a0 : Array Value} {Z : State} (hw : HW a0 Z) : (Jvm.Cond.privateMethod ⟨"WaitFreeUniversal", "stepAnnounce", "(I)I"⟩).before a0 Z = true := hw _ (List.mem_of_getElem? (i := 144) rfl)
theorem w145 {a0 : Array Value} {Z : State} (hw : HW a0 Z) : (Jvm.Cond.code ⟨"WaitFreeUniversal", "stepAnnounce", "(I)I"⟩ prog_1_method_38_code 3 (some .int)).before a0 Z = true := hw _ (List.mem_of_getElem? (i := 145) rfl)
theorem w146 {a0 : Array Value} {Z : State} (hw : HW a0 Z) : (Jvm.Cond.methodLink "WaitFreeUniversal" 190 ⟨"WaitFreeUniversal", "kindOf", "(I)I"⟩).before a0 Z = true := hw _ (List.mem_of_getElem? (i := 146) rfl)
theorem w147 {a0 : Array Value} {Z : State} (hw : HW a0 Z) : (Jvm.Cond.instanceMethod ⟨"WaitFreeUniversal", "kindOf", "(I)I"⟩).before a0 Z = true := hw _ (List.mem_of_getElem? (i := 147) rfl)
theorem w148 {a0 : Array Value} {Z : State} (hw : HW a0 Z) : (Jvm.Cond.privateMethod ⟨"WaitFreeUniversal", "kindOf", "(I)I"⟩).before a0 Z = true := hw _ (List.mem_of_getElem? (i := 148) rfl)
theorem w149 {a0 : Array Value} {Z : State} (hw : HW a0 Z) : (Jvm.Cond.code ⟨"WaitFreeUniversal", "kindOf", "(I)I"⟩ prog_1_method_35_code 2 (some .int)).before a0 Z = true := hw _ (List.mem_of_getElem? (i := 149) rfl)
theorem w150 {a0 : Array Value} {Z : State} (hw : HW a0 Z) : (Jvm.Cond.methodLink "WaitFreeUniversal" 146 ⟨"WaitFreeUniversal", "isId", "(I)Z"⟩).before a0 Z = true := hw _ (List.mem_of_getElem? (i := 150) rfl)
theorem w151 {a0 : Array Value} {Z : State} (hw : HW a0 Z) : (Jvm.Cond.instanceMethod ⟨"WaitFreeUniversal", "isId", "(I)Z"⟩).before a0 Z = true := hw _ (List.mem_of_getElem? (i := 151) rfl)
theorem w152 {a0 : Array Value} {Z : State} (hw : HW a0 Z) : (Jvm.Cond.privateMethod ⟨"WaitFreeUniversal", "isId", "(I)Z"⟩).before a0 Z = true := hw _ (List.mem_of_getElem? (i := 152) rfl)
theorem w153 {a0 : Array Value} {Z : State} (hw : HW a0 Z) : (Jvm.Cond.code ⟨"WaitFreeUniversal", "isId", "(I)Z"⟩ prog_1_method_22_code 2 (some .boolean)).before a0 Z = true := hw _ (List.mem_of_getElem? (i := 153) rfl)
theorem w154 {a0 : Array Value} {Z : State} (hw : HW a0 Z) : (Jvm.Cond.methodLink "WaitFreeUniversal" 193 ⟨"WaitFreeUniversal", "argOf", "(I)I"⟩).before a0 Z = true := hw _ (List.mem_of_getElem? (i := 154) rfl)
theorem w155 {a0 : Array Value} {Z : State} (hw : HW a0 Z) : (Jvm.Cond.instanceMethod ⟨"WaitFreeUniversal", "argOf", "(I)I"⟩).before a0 Z = true := hw _ (List.mem_of_getElem? (i := 155) rfl)
theorem w156 {a0 : Array Value} {Z : State} (hw : HW a0 Z) : (Jvm.Cond.privateMethod ⟨"WaitFreeUniversal", "argOf", "(I)I"⟩).before a0 Z = true := hw _ (List.mem_of_getElem? (i := 156) rfl)
theorem w157 {a0 : Array Value} {Z : State} (hw : HW a0 Z) : (Jvm.Cond.code ⟨"WaitFreeUniversal", "argOf", "(I)I"⟩ prog_1_method_36_code 2 (some .int)).before a0 Z = true := hw _ (List.mem_of_getElem? (i := 157) rfl)
theorem w158 {a0 : Array Value} {Z : State} (hw : HW a0 Z) : (Jvm.Cond.methodLink "WaitFreeUniversal" 178 ⟨"WaitFreeUniversal", "stepReadTail", "(I)I"⟩).before a0 Z = true := hw _ (List.mem_of_getElem? (i := 158) rfl)
theorem w159 {a0 : Array Value} {Z : State} (hw : HW a0 Z) : (Jvm.Cond.instanceMethod ⟨"WaitFreeUniversal", "stepReadTail", "(I)I"⟩).before a0 Z = true := hw _ (List.mem_of_getElem? (i := 159) rfl)
theorem w160 {a0 : Array Value} {Z : State} (hw : HW a0 Z) : (Jvm.Cond.privateMethod ⟨"WaitFreeUniversal", "stepReadTail", "(I)I"⟩).before a0 Z = true := hw _ (List.mem_of_getElem? (i := 160) rfl)
theorem w161 {a0 : Array Value} {Z : State} (hw : HW a0 Z) : (Jvm.Cond.code ⟨"WaitFreeUniversal", "stepReadTail", "(I)I"⟩ prog_1_method_39_code 2 (some .int)).before a0 Z = true := hw _ (List.mem_of_getElem? (i := 161) rfl)
theorem w162 {a0 : Array Value} {Z : State} (hw : HW a0 Z) : (Jvm.Cond.methodLink "WaitFreeUniversal" 181 ⟨"WaitFreeUniversal", "stepReadCell", "(I)I"⟩).before a0 Z = true := hw _ (List.mem_of_getElem? (i := 162) rfl)
theorem w163 {a0 : Array Value} {Z : State} (hw : HW a0 Z) : (Jvm.Cond.instanceMethod ⟨"WaitFreeUniversal", "stepReadCell", "(I)I"⟩).before a0 Z = true := hw _ (List.mem_of_getElem? (i := 163) rfl)
theorem w164 {a0 : Array Value} {Z : State} (hw : HW a0 Z) : (Jvm.Cond.privateMethod ⟨"WaitFreeUniversal", "stepReadCell", "(I)I"⟩).before a0 Z = true := hw _ (List.mem_of_getElem? (i := 164) rfl)
theorem w165 {a0 : Array Value} {Z : State} (hw : HW a0 Z) : (Jvm.Cond.code ⟨"WaitFreeUniversal", "stepReadCell", "(I)I"⟩ prog_1_method_40_code 3 (some .int)).before a0 Z = true := hw _ (List.mem_of_getElem? (i := 165) rfl)
theorem w166 {a0 : Array Value} {Z : State} (hw : HW a0 Z) : (Jvm.Cond.methodLink "WaitFreeUniversal" 196 ⟨"WaitFreeUniversal", "snapshotLast", "(II)V"⟩).before a0 Z = true := hw _ (List.mem_of_getElem? (i := 166) rfl)
theorem w167 {a0 : Array Value} {Z : State} (hw : HW a0 Z) : (Jvm.Cond.instanceMethod ⟨"WaitFreeUniversal", "snapshotLast", "(II)V"⟩).before a0 Z = true := hw _ (List.mem_of_getElem? (i := 167) rfl)
theorem w168 {a0 : Array Value} {Z : State} (hw : HW a0 Z) : (Jvm.Cond.privateMethod ⟨"WaitFreeUniversal", "snapshotLast", "(II)V"⟩).before a0 Z = true := hw _ (List.mem_of_getElem? (i := 168) rfl)
theorem w169 {a0 : Array Value} {Z : State} (hw : HW a0 Z) : (Jvm.Cond.code ⟨"WaitFreeUniversal", "snapshotLast", "(II)V"⟩ prog_1_method_50_code 3 none).before a0 Z = true := hw _ (List.mem_of_getElem? (i := 169) rfl)
theorem w170 {a0 : Array Value} {Z : State} (hw : HW a0 Z) : (Jvm.Cond.methodLink "WaitFreeUniversal" 221 ⟨"WaitFreeUniversal", "cellHolds", "(I)Z"⟩).before a0 Z = true := hw _ (List.mem_of_getElem? (i := 170) rfl)
theorem w171 {a0 : Array Value} {Z : State} (hw : HW a0 Z) : (Jvm.Cond.instanceMethod ⟨"WaitFreeUniversal", "cellHolds", "(I)Z"⟩).before a0 Z = true := hw _ (List.mem_of_getElem? (i := 171) rfl)
theorem w172 {a0 : Array Value} {Z : State} (hw : HW a0 Z) : (Jvm.Cond.privateMethod ⟨"WaitFreeUniversal", "cellHolds", "(I)Z"⟩).before a0 Z = true := hw _ (List.mem_of_getElem? (i := 172) rfl)
theorem w173 {a0 : Array Value} {Z : State} (hw : HW a0 Z) : (Jvm.Cond.code ⟨"WaitFreeUniversal", "cellHolds", "(I)Z"⟩ prog_1_method_55_code 2 (some .boolean)).before a0 Z = true := hw _ (List.mem_of_getElem? (i := 173) rfl)
theorem w174 {a0 : Array Value} {Z : State} (hw : HW a0 Z) : (Jvm.Cond.methodLink "WaitFreeUniversal" 224 ⟨"WaitFreeUniversal", "cellOf", "(I)I"⟩).before a0 Z = true := hw _ (List.mem_of_getElem? (i := 174) rfl)
theorem w175 {a0 : Array Value} {Z : State} (hw : HW a0 Z) : (Jvm.Cond.instanceMethod ⟨"WaitFreeUniversal", "cellOf", "(I)I"⟩).before a0 Z = true := hw _ (List.mem_of_getElem? (i := 175) rfl)
theorem w176 {a0 : Array Value} {Z : State} (hw : HW a0 Z) : (Jvm.Cond.privateMethod ⟨"WaitFreeUniversal", "cellOf", "(I)I"⟩).before a0 Z = true := hw _ (List.mem_of_getElem? (i := 176) rfl)
theorem w177 {a0 : Array Value} {Z : State} (hw : HW a0 Z) : (Jvm.Cond.code ⟨"WaitFreeUniversal", "cellOf", "(I)I"⟩ prog_1_method_53_code 2 (some .int)).before a0 Z = true := hw _ (List.mem_of_getElem? (i := 177) rfl)
theorem w178 {a0 : Array Value} {Z : State} (hw : HW a0 Z) : (Jvm.Cond.methodLink "WaitFreeUniversal" 227 ⟨"WaitFreeUniversal", "copyLastFromCell", "(II)V"⟩).before a0 Z = true := hw _ (List.mem_of_getElem? (i := 178) rfl)
theorem w179 {a0 : Array Value} {Z : State} (hw : HW a0 Z) : (Jvm.Cond.instanceMethod ⟨"WaitFreeUniversal", "copyLastFromCell", "(II)V"⟩).before a0 Z = true := hw _ (List.mem_of_getElem? (i := 179) rfl)
theorem w180 {a0 : Array Value} {Z : State} (hw : HW a0 Z) : (Jvm.Cond.privateMethod ⟨"WaitFreeUniversal", "copyLastFromCell", "(II)V"⟩).before a0 Z = true := hw _ (List.mem_of_getElem? (i := 180) rfl)
theorem w181 {a0 : Array Value} {Z : State} (hw : HW a0 Z) : (Jvm.Cond.code ⟨"WaitFreeUniversal", "copyLastFromCell", "(II)V"⟩ prog_1_method_51_code 5 none).before a0 Z = true := hw _ (List.mem_of_getElem? (i := 181) rfl)
theorem w182 {a0 : Array Value} {Z : State} (hw : HW a0 Z) : (Jvm.Cond.methodLink "WaitFreeUniversal" 233 ⟨"WaitFreeUniversal", "cellLastOf", "(II)I"⟩).before a0 Z = true := hw _ (List.mem_of_getElem? (i := 182) rfl)
theorem w183 {a0 : Array Value} {Z : State} (hw : HW a0 Z) : (Jvm.Cond.instanceMethod ⟨"WaitFreeUniversal", "cellLastOf", "(II)I"⟩).before a0 Z = true := hw _ (List.mem_of_getElem? (i := 183) rfl)
theorem w184 {a0 : Array Value} {Z : State} (hw : HW a0 Z) : (Jvm.Cond.privateMethod ⟨"WaitFreeUniversal", "cellLastOf", "(II)I"⟩).before a0 Z = true := hw _ (List.mem_of_getElem? (i := 184) rfl)
theorem w185 {a0 : Array Value} {Z : State} (hw : HW a0 Z) : (Jvm.Cond.code ⟨"WaitFreeUniversal", "cellLastOf", "(II)I"⟩ prog_1_method_58_code 3 (some .int)).before a0 Z = true := hw _ (List.mem_of_getElem? (i := 185) rfl)
theorem w186 {a0 : Array Value} {Z : State} (hw : HW a0 Z) : (Jvm.Cond.methodLink "WaitFreeUniversal" 200 ⟨"WaitFreeUniversal", "ownHeldInSnapshot", "(I)Z"⟩).before a0 Z = true := hw _ (List.mem_of_getElem? (i := 186) rfl)
theorem w187 {a0 : Array Value} {Z : State} (hw : HW a0 Z) : (Jvm.Cond.instanceMethod ⟨"WaitFreeUniversal", "ownHeldInSnapshot", "(I)Z"⟩).before a0 Z = true := hw _ (List.mem_of_getElem? (i := 187) rfl)
theorem w188 {a0 : Array Value} {Z : State} (hw : HW a0 Z) : (Jvm.Cond.privateMethod ⟨"WaitFreeUniversal", "ownHeldInSnapshot", "(I)Z"⟩).before a0 Z = true := hw _ (List.mem_of_getElem? (i := 188) rfl)
theorem w189 {a0 : Array Value} {Z : State} (hw : HW a0 Z) : (Jvm.Cond.code ⟨"WaitFreeUniversal", "ownHeldInSnapshot", "(I)Z"⟩ prog_1_method_49_code 3 (some .boolean)).before a0 Z = true := hw _ (List.mem_of_getElem? (i := 189) rfl)
theorem w190 {a0 : Array Value} {Z : State} (hw : HW a0 Z) : (Jvm.Cond.methodLink "WaitFreeUniversal" 209 ⟨"WaitFreeUniversal", "threadLast", "(II)I"⟩).before a0 Z = true := hw _ (List.mem_of_getElem? (i := 190) rfl)
theorem w191 {a0 : Array Value} {Z : State} (hw : HW a0 Z) : (Jvm.Cond.instanceMethod ⟨"WaitFreeUniversal", "threadLast", "(II)I"⟩).before a0 Z = true := hw _ (List.mem_of_getElem? (i := 191) rfl)
theorem w192 {a0 : Array Value} {Z : State} (hw : HW a0 Z) : (Jvm.Cond.privateMethod ⟨"WaitFreeUniversal", "threadLast", "(II)I"⟩).before a0 Z = true := hw _ (List.mem_of_getElem? (i := 192) rfl)
theorem w193 {a0 : Array Value} {Z : State} (hw : HW a0 Z) : (Jvm.Cond.code ⟨"WaitFreeUniversal", "threadLast", "(II)I"⟩ prog_1_method_46_code 3 (some .int)).before a0 Z = true := hw _ (List.mem_of_getElem? (i := 193) rfl)
theorem w194 {a0 : Array Value} {Z : State} (hw : HW a0 Z) : (Jvm.Cond.methodLink "WaitFreeUniversal" 184 ⟨"WaitFreeUniversal", "stepReadAnn", "(I)I"⟩).before a0 Z = true := hw _ (List.mem_of_getElem? (i := 194) rfl)
theorem w195 {a0 : Array Value} {Z : State} (hw : HW a0 Z) : (Jvm.Cond.instanceMethod ⟨"WaitFreeUniversal", "stepReadAnn", "(I)I"⟩).before a0 Z = true := hw _ (List.mem_of_getElem? (i := 195) rfl)
theorem w196 {a0 : Array Value} {Z : State} (hw : HW a0 Z) : (Jvm.Cond.privateMethod ⟨"WaitFreeUniversal", "stepReadAnn", "(I)I"⟩).before a0 Z = true := hw _ (List.mem_of_getElem? (i := 196) rfl)
theorem w197 {a0 : Array Value} {Z : State} (hw : HW a0 Z) : (Jvm.Cond.code ⟨"WaitFreeUniversal", "stepReadAnn", "(I)I"⟩ prog_1_method_41_code 6 (some .int)).before a0 Z = true := hw _ (List.mem_of_getElem? (i := 197) rfl)
theorem w198 {a0 : Array Value} {Z : State} (hw : HW a0 Z) : (Jvm.Cond.methodLink "WaitFreeUniversal" 206 ⟨"WaitFreeUniversal", "helpTarget", "(I)I"⟩).before a0 Z = true := hw _ (List.mem_of_getElem? (i := 198) rfl)
theorem w199 {a0 : Array Value} {Z : State} (hw : HW a0 Z) : (Jvm.Cond.instanceMethod ⟨"WaitFreeUniversal", "helpTarget", "(I)I"⟩).before a0 Z = true := hw _ (List.mem_of_getElem? (i := 199) rfl)
theorem w200 {a0 : Array Value} {Z : State} (hw : HW a0 Z) : (Jvm.Cond.privateMethod ⟨"WaitFreeUniversal", "helpTarget", "(I)I"⟩).before a0 Z = true := hw _ (List.mem_of_getElem? (i := 200) rfl)
theorem w201 {a0 : Array Value} {Z : State} (hw : HW a0 Z) : (Jvm.Cond.code ⟨"WaitFreeUniversal", "helpTarget", "(I)I"⟩ prog_1_method_44_code 3 (some .int)).before a0 Z = true := hw _ (List.mem_of_getElem? (i := 201) rfl)
theorem w202 {a0 : Array Value} {Z : State} (hw : HW a0 Z) : (Jvm.Cond.methodLink "WaitFreeUniversalL3" 20 ⟨"WaitFreeUniversal", "chosenId", "(I)I"⟩).before a0 Z = true := hw _ (List.mem_of_getElem? (i := 202) rfl)
theorem w203 {a0 : Array Value} {Z : State} (hw : HW a0 Z) : (Jvm.Cond.declares ⟨"WaitFreeUniversal", "chosenId", "(I)I"⟩).before a0 Z = true := hw _ (List.mem_of_getElem? (i := 203) rfl)
theorem w204 {a0 : Array Value} {Z : State} (hw : HW a0 Z) : (Jvm.Cond.instanceMethod ⟨"WaitFreeUniversal", "chosenId", "(I)I"⟩).before a0 Z = true := hw _ (List.mem_of_getElem? (i := 204) rfl)
theorem w205 {a0 : Array Value} {Z : State} (hw : HW a0 Z) : (Jvm.Cond.selects "WaitFreeUniversal" ⟨"WaitFreeUniversal", "chosenId", "(I)I"⟩ ⟨"WaitFreeUniversal", "chosenId", "(I)I"⟩).before a0 Z = true := hw _ (List.mem_of_getElem? (i := 205) rfl)
theorem w206 {a0 : Array Value} {Z : State} (hw : HW a0 Z) : (Jvm.Cond.code ⟨"WaitFreeUniversal", "chosenId", "(I)I"⟩ prog_1_method_7_code 2 (some .int)).before a0 Z = true := hw _ (List.mem_of_getElem? (i := 206) rfl)
theorem w207 {a0 : Array Value} {Z : State} (hw : HW a0 Z) : (Jvm.Cond.methodLink "WaitFreeUniversal" 187 ⟨"WaitFreeUniversal", "stepCas", "(I)I"⟩).before a0 Z = true := hw _ (List.mem_of_getElem? (i := 207) rfl)
theorem w208 {a0 : Array Value} {Z : State} (hw : HW a0 Z) : (Jvm.Cond.instanceMethod ⟨"WaitFreeUniversal", "stepCas", "(I)I"⟩).before a0 Z = true := hw _ (List.mem_of_getElem? (i := 208) rfl)
theorem w209 {a0 : Array Value} {Z : State} (hw : HW a0 Z) : (Jvm.Cond.privateMethod ⟨"WaitFreeUniversal", "stepCas", "(I)I"⟩).before a0 Z = true := hw _ (List.mem_of_getElem? (i := 209) rfl)
theorem w210 {a0 : Array Value} {Z : State} (hw : HW a0 Z) : (Jvm.Cond.code ⟨"WaitFreeUniversal", "stepCas", "(I)I"⟩ prog_1_method_42_code 3 (some .int)).before a0 Z = true := hw _ (List.mem_of_getElem? (i := 210) rfl)
theorem w211 {a0 : Array Value} {Z : State} (hw : HW a0 Z) : (Jvm.Cond.methodLink "WaitFreeUniversal" 212 ⟨"WaitFreeUniversal", "canAppend", "(I)Z"⟩).before a0 Z = true := hw _ (List.mem_of_getElem? (i := 211) rfl)
theorem w212 {a0 : Array Value} {Z : State} (hw : HW a0 Z) : (Jvm.Cond.instanceMethod ⟨"WaitFreeUniversal", "canAppend", "(I)Z"⟩).before a0 Z = true := hw _ (List.mem_of_getElem? (i := 212) rfl)
theorem w213 {a0 : Array Value} {Z : State} (hw : HW a0 Z) : (Jvm.Cond.privateMethod ⟨"WaitFreeUniversal", "canAppend", "(I)Z"⟩).before a0 Z = true := hw _ (List.mem_of_getElem? (i := 213) rfl)
theorem w214 {a0 : Array Value} {Z : State} (hw : HW a0 Z) : (Jvm.Cond.code ⟨"WaitFreeUniversal", "canAppend", "(I)Z"⟩ prog_1_method_63_code 2 (some .boolean)).before a0 Z = true := hw _ (List.mem_of_getElem? (i := 214) rfl)
theorem w215 {a0 : Array Value} {Z : State} (hw : HW a0 Z) : (Jvm.Cond.methodLink "WaitFreeUniversal" 215 ⟨"WaitFreeUniversal", "appendToLog", "(I)V"⟩).before a0 Z = true := hw _ (List.mem_of_getElem? (i := 215) rfl)
theorem w216 {a0 : Array Value} {Z : State} (hw : HW a0 Z) : (Jvm.Cond.instanceMethod ⟨"WaitFreeUniversal", "appendToLog", "(I)V"⟩).before a0 Z = true := hw _ (List.mem_of_getElem? (i := 216) rfl)
theorem w217 {a0 : Array Value} {Z : State} (hw : HW a0 Z) : (Jvm.Cond.privateMethod ⟨"WaitFreeUniversal", "appendToLog", "(I)V"⟩).before a0 Z = true := hw _ (List.mem_of_getElem? (i := 217) rfl)
theorem w218 {a0 : Array Value} {Z : State} (hw : HW a0 Z) : (Jvm.Cond.code ⟨"WaitFreeUniversal", "appendToLog", "(I)V"⟩ prog_1_method_64_code 6 none).before a0 Z = true := hw _ (List.mem_of_getElem? (i := 218) rfl)
theorem w219 {a0 : Array Value} {Z : State} (hw : HW a0 Z) : (Jvm.Cond.methodLink "WaitFreeUniversal" 245 ⟨"WaitFreeUniversal", "copyCell", "(II)V"⟩).before a0 Z = true := hw _ (List.mem_of_getElem? (i := 219) rfl)
theorem w220 {a0 : Array Value} {Z : State} (hw : HW a0 Z) : (Jvm.Cond.instanceMethod ⟨"WaitFreeUniversal", "copyCell", "(II)V"⟩).before a0 Z = true := hw _ (List.mem_of_getElem? (i := 220) rfl)
theorem w221 {a0 : Array Value} {Z : State} (hw : HW a0 Z) : (Jvm.Cond.privateMethod ⟨"WaitFreeUniversal", "copyCell", "(II)V"⟩).before a0 Z = true := hw _ (List.mem_of_getElem? (i := 221) rfl)
theorem w222 {a0 : Array Value} {Z : State} (hw : HW a0 Z) : (Jvm.Cond.code ⟨"WaitFreeUniversal", "copyCell", "(II)V"⟩ prog_1_method_60_code 3 none).before a0 Z = true := hw _ (List.mem_of_getElem? (i := 222) rfl)
theorem w223 {a0 : Array Value} {Z : State} (hw : HW a0 Z) : (Jvm.Cond.methodLink "WaitFreeUniversal" 239 ⟨"WaitFreeUniversal", "copyCellQueue", "(II)V"⟩).before a0 Z = true := hw _ (List.mem_of_getElem? (i := 223) rfl)
theorem w224 {a0 : Array Value} {Z : State} (hw : HW a0 Z) : (Jvm.Cond.instanceMethod ⟨"WaitFreeUniversal", "copyCellQueue", "(II)V"⟩).before a0 Z = true := hw _ (List.mem_of_getElem? (i := 224) rfl)
theorem w225 {a0 : Array Value} {Z : State} (hw : HW a0 Z) : (Jvm.Cond.privateMethod ⟨"WaitFreeUniversal", "copyCellQueue", "(II)V"⟩).before a0 Z = true := hw _ (List.mem_of_getElem? (i := 225) rfl)
theorem w226 {a0 : Array Value} {Z : State} (hw : HW a0 Z) : (Jvm.Cond.code ⟨"WaitFreeUniversal", "copyCellQueue", "(II)V"⟩ prog_1_method_61_code 5 none).before a0 Z = true := hw _ (List.mem_of_getElem? (i := 226) rfl)
theorem w227 {a0 : Array Value} {Z : State} (hw : HW a0 Z) : (Jvm.Cond.methodLink "WaitFreeUniversal" 143 ⟨"WaitFreeUniversal", "readQueueSlot", "(II)I"⟩).before a0 Z = true := hw _ (List.mem_of_getElem? (i := 227) rfl)
theorem w228 {a0 : Array Value} {Z : State} (hw : HW a0 Z) : (Jvm.Cond.instanceMethod ⟨"WaitFreeUniversal", "readQueueSlot", "(II)I"⟩).before a0 Z = true := hw _ (List.mem_of_getElem? (i := 228) rfl)
theorem w229 {a0 : Array Value} {Z : State} (hw : HW a0 Z) : (Jvm.Cond.privateMethod ⟨"WaitFreeUniversal", "readQueueSlot", "(II)I"⟩).before a0 Z = true := hw _ (List.mem_of_getElem? (i := 229) rfl)
theorem w230 {a0 : Array Value} {Z : State} (hw : HW a0 Z) : (Jvm.Cond.code ⟨"WaitFreeUniversal", "readQueueSlot", "(II)I"⟩ prog_1_method_56_code 3 (some .int)).before a0 Z = true := hw _ (List.mem_of_getElem? (i := 230) rfl)
theorem w231 {a0 : Array Value} {Z : State} (hw : HW a0 Z) : (Jvm.Cond.methodLink "WaitFreeUniversal" 242 ⟨"WaitFreeUniversal", "copyCellLast", "(II)V"⟩).before a0 Z = true := hw _ (List.mem_of_getElem? (i := 231) rfl)
theorem w232 {a0 : Array Value} {Z : State} (hw : HW a0 Z) : (Jvm.Cond.instanceMethod ⟨"WaitFreeUniversal", "copyCellLast", "(II)V"⟩).before a0 Z = true := hw _ (List.mem_of_getElem? (i := 232) rfl)
theorem w233 {a0 : Array Value} {Z : State} (hw : HW a0 Z) : (Jvm.Cond.privateMethod ⟨"WaitFreeUniversal", "copyCellLast", "(II)V"⟩).before a0 Z = true := hw _ (List.mem_of_getElem? (i := 233) rfl)
theorem w234 {a0 : Array Value} {Z : State} (hw : HW a0 Z) : (Jvm.Cond.code ⟨"WaitFreeUniversal", "copyCellLast", "(II)V"⟩ prog_1_method_62_code 5 none).before a0 Z = true := hw _ (List.mem_of_getElem? (i := 234) rfl)
theorem w235 {a0 : Array Value} {Z : State} (hw : HW a0 Z) : (Jvm.Cond.methodLink "WaitFreeUniversal" 248 ⟨"WaitFreeUniversal", "applyInCell", "(III)I"⟩).before a0 Z = true := hw _ (List.mem_of_getElem? (i := 235) rfl)
theorem w236 {a0 : Array Value} {Z : State} (hw : HW a0 Z) : (Jvm.Cond.instanceMethod ⟨"WaitFreeUniversal", "applyInCell", "(III)I"⟩).before a0 Z = true := hw _ (List.mem_of_getElem? (i := 236) rfl)
theorem w237 {a0 : Array Value} {Z : State} (hw : HW a0 Z) : (Jvm.Cond.privateMethod ⟨"WaitFreeUniversal", "applyInCell", "(III)I"⟩).before a0 Z = true := hw _ (List.mem_of_getElem? (i := 237) rfl)
theorem w238 {a0 : Array Value} {Z : State} (hw : HW a0 Z) : (Jvm.Cond.code ⟨"WaitFreeUniversal", "applyInCell", "(III)I"⟩ prog_1_method_65_code 4 (some .int)).before a0 Z = true := hw _ (List.mem_of_getElem? (i := 238) rfl)
theorem w239 {a0 : Array Value} {Z : State} (hw : HW a0 Z) : (Jvm.Cond.methodLink "WaitFreeUniversal" 254 ⟨"WaitFreeUniversal", "cellEnqueue", "(II)I"⟩).before a0 Z = true := hw _ (List.mem_of_getElem? (i := 239) rfl)
theorem w240 {a0 : Array Value} {Z : State} (hw : HW a0 Z) : (Jvm.Cond.instanceMethod ⟨"WaitFreeUniversal", "cellEnqueue", "(II)I"⟩).before a0 Z = true := hw _ (List.mem_of_getElem? (i := 240) rfl)
theorem w241 {a0 : Array Value} {Z : State} (hw : HW a0 Z) : (Jvm.Cond.privateMethod ⟨"WaitFreeUniversal", "cellEnqueue", "(II)I"⟩).before a0 Z = true := hw _ (List.mem_of_getElem? (i := 241) rfl)
theorem w242 {a0 : Array Value} {Z : State} (hw : HW a0 Z) : (Jvm.Cond.code ⟨"WaitFreeUniversal", "cellEnqueue", "(II)I"⟩ prog_1_method_67_code 4 (some .int)).before a0 Z = true := hw _ (List.mem_of_getElem? (i := 242) rfl)
theorem w243 {a0 : Array Value} {Z : State} (hw : HW a0 Z) : (Jvm.Cond.methodLink "WaitFreeUniversalL3" 23 ⟨"WaitFreeUniversal", "statusOf", "(I)I"⟩).before a0 Z = true := hw _ (List.mem_of_getElem? (i := 243) rfl)
theorem w244 {a0 : Array Value} {Z : State} (hw : HW a0 Z) : (Jvm.Cond.declares ⟨"WaitFreeUniversal", "statusOf", "(I)I"⟩).before a0 Z = true := hw _ (List.mem_of_getElem? (i := 244) rfl)
theorem w245 {a0 : Array Value} {Z : State} (hw : HW a0 Z) : (Jvm.Cond.instanceMethod ⟨"WaitFreeUniversal", "statusOf", "(I)I"⟩).before a0 Z = true := hw _ (List.mem_of_getElem? (i := 245) rfl)
theorem w246 {a0 : Array Value} {Z : State} (hw : HW a0 Z) : (Jvm.Cond.selects "WaitFreeUniversal" ⟨"WaitFreeUniversal", "statusOf", "(I)I"⟩ ⟨"WaitFreeUniversal", "statusOf", "(I)I"⟩).before a0 Z = true := hw _ (List.mem_of_getElem? (i := 246) rfl)
theorem w247 {a0 : Array Value} {Z : State} (hw : HW a0 Z) : (Jvm.Cond.code ⟨"WaitFreeUniversal", "statusOf", "(I)I"⟩ prog_1_method_14_code 2 (some .int)).before a0 Z = true := hw _ (List.mem_of_getElem? (i := 247) rfl)
theorem w248 {a0 : Array Value} {Z : State} (hw : HW a0 Z) : (Jvm.Cond.methodLink "WaitFreeUniversalL3" 26 ⟨"WaitFreeUniversal", "responseOf", "(I)I"⟩).before a0 Z = true := hw _ (List.mem_of_getElem? (i := 248) rfl)
theorem w249 {a0 : Array Value} {Z : State} (hw : HW a0 Z) : (Jvm.Cond.declares ⟨"WaitFreeUniversal", "responseOf", "(I)I"⟩).before a0 Z = true := hw _ (List.mem_of_getElem? (i := 249) rfl)
theorem w250 {a0 : Array Value} {Z : State} (hw : HW a0 Z) : (Jvm.Cond.instanceMethod ⟨"WaitFreeUniversal", "responseOf", "(I)I"⟩).before a0 Z = true := hw _ (List.mem_of_getElem? (i := 250) rfl)
theorem w251 {a0 : Array Value} {Z : State} (hw : HW a0 Z) : (Jvm.Cond.selects "WaitFreeUniversal" ⟨"WaitFreeUniversal", "responseOf", "(I)I"⟩ ⟨"WaitFreeUniversal", "responseOf", "(I)I"⟩).before a0 Z = true := hw _ (List.mem_of_getElem? (i := 251) rfl)
theorem w252 {a0 : Array Value} {Z : State} (hw : HW a0 Z) : (Jvm.Cond.code ⟨"WaitFreeUniversal", "responseOf", "(I)I"⟩ prog_1_method_15_code 2 (some .int)).before a0 Z = true := hw _ (List.mem_of_getElem? (i := 252) rfl)
theorem w253 {a0 : Array Value} {Z : State} (hw : HW a0 Z) : (Jvm.Cond.methodLink "WaitFreeUniversal" 149 ⟨"WaitFreeUniversal", "isHeld", "(I)Z"⟩).before a0 Z = true := hw _ (List.mem_of_getElem? (i := 253) rfl)
theorem w254 {a0 : Array Value} {Z : State} (hw : HW a0 Z) : (Jvm.Cond.instanceMethod ⟨"WaitFreeUniversal", "isHeld", "(I)Z"⟩).before a0 Z = true := hw _ (List.mem_of_getElem? (i := 254) rfl)
theorem w255 {a0 : Array Value} {Z : State} (hw : HW a0 Z) : (Jvm.Cond.privateMethod ⟨"WaitFreeUniversal", "isHeld", "(I)Z"⟩).before a0 Z = true := hw _ (List.mem_of_getElem? (i := 255) rfl)
theorem w256 {a0 : Array Value} {Z : State} (hw : HW a0 Z) : (Jvm.Cond.code ⟨"WaitFreeUniversal", "isHeld", "(I)Z"⟩ prog_1_method_23_code 3 (some .boolean)).before a0 Z = true := hw _ (List.mem_of_getElem? (i := 256) rfl)
theorem w257 {a0 : Array Value} {Z : State} (hw : HW a0 Z) : (Jvm.Cond.methodLink "WaitFreeUniversalL3" 29 ⟨"WaitFreeUniversal", "queueLength", "()I"⟩).before a0 Z = true := hw _ (List.mem_of_getElem? (i := 257) rfl)
theorem w258 {a0 : Array Value} {Z : State} (hw : HW a0 Z) : (Jvm.Cond.declares ⟨"WaitFreeUniversal", "queueLength", "()I"⟩).before a0 Z = true := hw _ (List.mem_of_getElem? (i := 258) rfl)
theorem w259 {a0 : Array Value} {Z : State} (hw : HW a0 Z) : (Jvm.Cond.instanceMethod ⟨"WaitFreeUniversal", "queueLength", "()I"⟩).before a0 Z = true := hw _ (List.mem_of_getElem? (i := 259) rfl)
theorem w260 {a0 : Array Value} {Z : State} (hw : HW a0 Z) : (Jvm.Cond.selects "WaitFreeUniversal" ⟨"WaitFreeUniversal", "queueLength", "()I"⟩ ⟨"WaitFreeUniversal", "queueLength", "()I"⟩).before a0 Z = true := hw _ (List.mem_of_getElem? (i := 260) rfl)
theorem w261 {a0 : Array Value} {Z : State} (hw : HW a0 Z) : (Jvm.Cond.code ⟨"WaitFreeUniversal", "queueLength", "()I"⟩ prog_1_method_12_code 1 (some .int)).before a0 Z = true := hw _ (List.mem_of_getElem? (i := 261) rfl)
theorem w262 {a0 : Array Value} {Z : State} (hw : HW a0 Z) : (Jvm.Cond.methodLink "WaitFreeUniversal" 139 ⟨"WaitFreeUniversal", "currentCell", "()I"⟩).before a0 Z = true := hw _ (List.mem_of_getElem? (i := 262) rfl)
theorem w263 {a0 : Array Value} {Z : State} (hw : HW a0 Z) : (Jvm.Cond.instanceMethod ⟨"WaitFreeUniversal", "currentCell", "()I"⟩).before a0 Z = true := hw _ (List.mem_of_getElem? (i := 263) rfl)
theorem w264 {a0 : Array Value} {Z : State} (hw : HW a0 Z) : (Jvm.Cond.privateMethod ⟨"WaitFreeUniversal", "currentCell", "()I"⟩).before a0 Z = true := hw _ (List.mem_of_getElem? (i := 264) rfl)
theorem w265 {a0 : Array Value} {Z : State} (hw : HW a0 Z) : (Jvm.Cond.code ⟨"WaitFreeUniversal", "currentCell", "()I"⟩ prog_1_method_54_code 1 (some .int)).before a0 Z = true := hw _ (List.mem_of_getElem? (i := 265) rfl)
theorem w266 {a0 : Array Value} {Z : State} (hw : HW a0 Z) : (Jvm.Cond.methodLink "WaitFreeUniversalL3" 33 ⟨"WaitFreeUniversal", "queueAt", "(I)I"⟩).before a0 Z = true := hw _ (List.mem_of_getElem? (i := 266) rfl)
theorem w267 {a0 : Array Value} {Z : State} (hw : HW a0 Z) : (Jvm.Cond.declares ⟨"WaitFreeUniversal", "queueAt", "(I)I"⟩).before a0 Z = true := hw _ (List.mem_of_getElem? (i := 267) rfl)
theorem w268 {a0 : Array Value} {Z : State} (hw : HW a0 Z) : (Jvm.Cond.instanceMethod ⟨"WaitFreeUniversal", "queueAt", "(I)I"⟩).before a0 Z = true := hw _ (List.mem_of_getElem? (i := 268) rfl)
theorem w269 {a0 : Array Value} {Z : State} (hw : HW a0 Z) : (Jvm.Cond.selects "WaitFreeUniversal" ⟨"WaitFreeUniversal", "queueAt", "(I)I"⟩ ⟨"WaitFreeUniversal", "queueAt", "(I)I"⟩).before a0 Z = true := hw _ (List.mem_of_getElem? (i := 269) rfl)
theorem w270 {a0 : Array Value} {Z : State} (hw : HW a0 Z) : (Jvm.Cond.code ⟨"WaitFreeUniversal", "queueAt", "(I)I"⟩ prog_1_method_13_code 4 (some .int)).before a0 Z = true := hw _ (List.mem_of_getElem? (i := 270) rfl)
theorem w271 {a0 : Array Value} {Z : State} (hw : HW a0 Z) : (Jvm.Cond.methodLink "WaitFreeUniversal" 257 ⟨"WaitFreeUniversal", "cellDequeue", "(I)I"⟩).before a0 Z = true := hw _ (List.mem_of_getElem? (i := 271) rfl)
theorem w272 {a0 : Array Value} {Z : State} (hw : HW a0 Z) : (Jvm.Cond.instanceMethod ⟨"WaitFreeUniversal", "cellDequeue", "(I)I"⟩).before a0 Z = true := hw _ (List.mem_of_getElem? (i := 272) rfl)
theorem w273 {a0 : Array Value} {Z : State} (hw : HW a0 Z) : (Jvm.Cond.privateMethod ⟨"WaitFreeUniversal", "cellDequeue", "(I)I"⟩).before a0 Z = true := hw _ (List.mem_of_getElem? (i := 273) rfl)
theorem w274 {a0 : Array Value} {Z : State} (hw : HW a0 Z) : (Jvm.Cond.code ⟨"WaitFreeUniversal", "cellDequeue", "(I)I"⟩ prog_1_method_68_code 6 (some .int)).before a0 Z = true := hw _ (List.mem_of_getElem? (i := 274) rfl)
theorem w275 {a0 : Array Value} {Z : State} (hw : HW a0 Z) : (Jvm.Cond.methodLink "WaitFreeUniversal" 203 ⟨"WaitFreeUniversal", "completeOwn", "(I)V"⟩).before a0 Z = true := hw _ (List.mem_of_getElem? (i := 275) rfl)
theorem w276 {a0 : Array Value} {Z : State} (hw : HW a0 Z) : (Jvm.Cond.instanceMethod ⟨"WaitFreeUniversal", "completeOwn", "(I)V"⟩).before a0 Z = true := hw _ (List.mem_of_getElem? (i := 276) rfl)
theorem w277 {a0 : Array Value} {Z : State} (hw : HW a0 Z) : (Jvm.Cond.privateMethod ⟨"WaitFreeUniversal", "completeOwn", "(I)V"⟩).before a0 Z = true := hw _ (List.mem_of_getElem? (i := 277) rfl)
theorem w278 {a0 : Array Value} {Z : State} (hw : HW a0 Z) : (Jvm.Cond.code ⟨"WaitFreeUniversal", "completeOwn", "(I)V"⟩ prog_1_method_43_code 3 none).before a0 Z = true := hw _ (List.mem_of_getElem? (i := 278) rfl)
theorem w279 {a0 : Array Value} {Z : State} (hw : HW a0 Z) : (Jvm.Cond.methodLink "WaitFreeUniversalL3" 36 ⟨"WaitFreeUniversal", "positionOf", "(I)I"⟩).before a0 Z = true := hw _ (List.mem_of_getElem? (i := 279) rfl)
theorem w280 {a0 : Array Value} {Z : State} (hw : HW a0 Z) : (Jvm.Cond.declares ⟨"WaitFreeUniversal", "positionOf", "(I)I"⟩).before a0 Z = true := hw _ (List.mem_of_getElem? (i := 280) rfl)
theorem w281 {a0 : Array Value} {Z : State} (hw : HW a0 Z) : (Jvm.Cond.instanceMethod ⟨"WaitFreeUniversal", "positionOf", "(I)I"⟩).before a0 Z = true := hw _ (List.mem_of_getElem? (i := 281) rfl)
theorem w282 {a0 : Array Value} {Z : State} (hw : HW a0 Z) : (Jvm.Cond.selects "WaitFreeUniversal" ⟨"WaitFreeUniversal", "positionOf", "(I)I"⟩ ⟨"WaitFreeUniversal", "positionOf", "(I)I"⟩).before a0 Z = true := hw _ (List.mem_of_getElem? (i := 282) rfl)
theorem w283 {a0 : Array Value} {Z : State} (hw : HW a0 Z) : (Jvm.Cond.code ⟨"WaitFreeUniversal", "positionOf", "(I)I"⟩ prog_1_method_16_code 2 (some .int)).before a0 Z = true := hw _ (List.mem_of_getElem? (i := 283) rfl)
theorem w284 {a0 : Array Value} {Z : State} (hw : HW a0 Z) : (Jvm.Cond.methodLink "WaitFreeUniversalL3" 39 ⟨"WaitFreeUniversal", "tail", "()I"⟩).before a0 Z = true := hw _ (List.mem_of_getElem? (i := 284) rfl)
theorem w285 {a0 : Array Value} {Z : State} (hw : HW a0 Z) : (Jvm.Cond.declares ⟨"WaitFreeUniversal", "tail", "()I"⟩).before a0 Z = true := hw _ (List.mem_of_getElem? (i := 285) rfl)
theorem w286 {a0 : Array Value} {Z : State} (hw : HW a0 Z) : (Jvm.Cond.instanceMethod ⟨"WaitFreeUniversal", "tail", "()I"⟩).before a0 Z = true := hw _ (List.mem_of_getElem? (i := 286) rfl)
theorem w287 {a0 : Array Value} {Z : State} (hw : HW a0 Z) : (Jvm.Cond.selects "WaitFreeUniversal" ⟨"WaitFreeUniversal", "tail", "()I"⟩ ⟨"WaitFreeUniversal", "tail", "()I"⟩).before a0 Z = true := hw _ (List.mem_of_getElem? (i := 287) rfl)
theorem w288 {a0 : Array Value} {Z : State} (hw : HW a0 Z) : (Jvm.Cond.code ⟨"WaitFreeUniversal", "tail", "()I"⟩ prog_1_method_10_code 1 (some .int)).before a0 Z = true := hw _ (List.mem_of_getElem? (i := 288) rfl)
theorem w289 {a0 : Array Value} {Z : State} (hw : HW a0 Z) : (Jvm.Cond.methodLink "WaitFreeUniversalL3" 42 ⟨"WaitFreeUniversal", "ownSteps", "(I)I"⟩).before a0 Z = true := hw _ (List.mem_of_getElem? (i := 289) rfl)
theorem w290 {a0 : Array Value} {Z : State} (hw : HW a0 Z) : (Jvm.Cond.declares ⟨"WaitFreeUniversal", "ownSteps", "(I)I"⟩).before a0 Z = true := hw _ (List.mem_of_getElem? (i := 290) rfl)
theorem w291 {a0 : Array Value} {Z : State} (hw : HW a0 Z) : (Jvm.Cond.instanceMethod ⟨"WaitFreeUniversal", "ownSteps", "(I)I"⟩).before a0 Z = true := hw _ (List.mem_of_getElem? (i := 291) rfl)
theorem w292 {a0 : Array Value} {Z : State} (hw : HW a0 Z) : (Jvm.Cond.selects "WaitFreeUniversal" ⟨"WaitFreeUniversal", "ownSteps", "(I)I"⟩ ⟨"WaitFreeUniversal", "ownSteps", "(I)I"⟩).before a0 Z = true := hw _ (List.mem_of_getElem? (i := 292) rfl)
theorem w293 {a0 : Array Value} {Z : State} (hw : HW a0 Z) : (Jvm.Cond.code ⟨"WaitFreeUniversal", "ownSteps", "(I)I"⟩ prog_1_method_9_code 2 (some .int)).before a0 Z = true := hw _ (List.mem_of_getElem? (i := 293) rfl)
theorem w294 {a0 : Array Value} {Z : State} (hw : HW a0 Z) : (Jvm.Cond.methodLink "WaitFreeUniversalL3" 45 ⟨"WaitFreeUniversal", "phase", "(I)I"⟩).before a0 Z = true := hw _ (List.mem_of_getElem? (i := 294) rfl)
theorem w295 {a0 : Array Value} {Z : State} (hw : HW a0 Z) : (Jvm.Cond.declares ⟨"WaitFreeUniversal", "phase", "(I)I"⟩).before a0 Z = true := hw _ (List.mem_of_getElem? (i := 295) rfl)
theorem w296 {a0 : Array Value} {Z : State} (hw : HW a0 Z) : (Jvm.Cond.instanceMethod ⟨"WaitFreeUniversal", "phase", "(I)I"⟩).before a0 Z = true := hw _ (List.mem_of_getElem? (i := 296) rfl)
theorem w297 {a0 : Array Value} {Z : State} (hw : HW a0 Z) : (Jvm.Cond.selects "WaitFreeUniversal" ⟨"WaitFreeUniversal", "phase", "(I)I"⟩ ⟨"WaitFreeUniversal", "phase", "(I)I"⟩).before a0 Z = true := hw _ (List.mem_of_getElem? (i := 297) rfl)
theorem w298 {a0 : Array Value} {Z : State} (hw : HW a0 Z) : (Jvm.Cond.code ⟨"WaitFreeUniversal", "phase", "(I)I"⟩ prog_1_method_5_code 2 (some .int)).before a0 Z = true := hw _ (List.mem_of_getElem? (i := 298) rfl)
abbrev cC : String := "WaitFreeUniversal"
def cFS : List FSpec := [(1, "opKind", "[I", 2), (2, "opArg", "[I", 2), (3, "opThread", "[I", 2), (4, "opStatus", "[I", 2), (5, "opResp", "[I", 2), (6, "opPos", "[I", 2), (7, "thPhase", "[I", 2), (8, "thOwn", "[I", 2), (9, "thP", "[I", 2), (10, "thC", "[I", 2), (11, "thSteps", "[I", 2), (12, "thHelped", "[I", 2), (13, "thLast", "[I", 2), (14, "annId", "[I", 2), (15, "annKind", "[I", 2), (16, "annArg", "[I", 2), (17, "cellPos", "[I", 2), (18, "cellId", "[I", 2), (19, "cellResp", "[I", 2), (20, "cellCounter", "[I", 2), (21, "cellQLen", "[I", 2), (22, "cellQ", "[I", 2), (23, "cellLast", "[I", 2), (137, "n", "I", 0), (138, "cap", "I", 0), (139, "opCount", "I", 0), (153, "tailValue", "I", 0)]
def cFA : List ASpec := [(1, .int, 241), (2, .int, 241), (3, .int, 241), (4, .int, 241), (5, .int, 241), (6, .int, 241), (7, .int, 6), (8, .int, 6), (9, .int, 6), (10, .int, 6), (11, .int, 6), (12, .int, 6), (13, .int, 36), (14, .int, 6), (15, .int, 6), (16, .int, 6), (17, .int, 8), (18, .int, 8), (19, .int, 8), (20, .int, 8), (21, .int, 8), (22, .int, 32), (23, .int, 48)]
theorem mf_opKind : (1, "opKind", "[I", 2) ∈ cFS := List.mem_of_getElem? (i := 0) rfl
theorem mf_opArg : (2, "opArg", "[I", 2) ∈ cFS := List.mem_of_getElem? (i := 1) rfl
theorem mf_opThread : (3, "opThread", "[I", 2) ∈ cFS := List.mem_of_getElem? (i := 2) rfl
theorem mf_opStatus : (4, "opStatus", "[I", 2) ∈ cFS := List.mem_of_getElem? (i := 3) rfl
theorem mf_opResp : (5, "opResp", "[I", 2) ∈ cFS := List.mem_of_getElem? (i := 4) rfl
theorem mf_opPos : (6, "opPos", "[I", 2) ∈ cFS := List.mem_of_getElem? (i := 5) rfl
theorem mf_thPhase : (7, "thPhase", "[I", 2) ∈ cFS := List.mem_of_getElem? (i := 6) rfl
theorem mf_thOwn : (8, "thOwn", "[I", 2) ∈ cFS := List.mem_of_getElem? (i := 7) rfl
theorem mf_thP : (9, "thP", "[I", 2) ∈ cFS := List.mem_of_getElem? (i := 8) rfl
theorem mf_thC : (10, "thC", "[I", 2) ∈ cFS := List.mem_of_getElem? (i := 9) rfl
theorem mf_thSteps : (11, "thSteps", "[I", 2) ∈ cFS := List.mem_of_getElem? (i := 10) rfl
theorem mf_thHelped : (12, "thHelped", "[I", 2) ∈ cFS := List.mem_of_getElem? (i := 11) rfl
theorem mf_thLast : (13, "thLast", "[I", 2) ∈ cFS := List.mem_of_getElem? (i := 12) rfl
theorem mf_annId : (14, "annId", "[I", 2) ∈ cFS := List.mem_of_getElem? (i := 13) rfl
theorem mf_annKind : (15, "annKind", "[I", 2) ∈ cFS := List.mem_of_getElem? (i := 14) rfl
theorem mf_annArg : (16, "annArg", "[I", 2) ∈ cFS := List.mem_of_getElem? (i := 15) rfl
theorem mf_cellPos : (17, "cellPos", "[I", 2) ∈ cFS := List.mem_of_getElem? (i := 16) rfl
theorem mf_cellId : (18, "cellId", "[I", 2) ∈ cFS := List.mem_of_getElem? (i := 17) rfl
theorem mf_cellResp : (19, "cellResp", "[I", 2) ∈ cFS := List.mem_of_getElem? (i := 18) rfl
theorem mf_cellCounter : (20, "cellCounter", "[I", 2) ∈ cFS := List.mem_of_getElem? (i := 19) rfl
theorem mf_cellQLen : (21, "cellQLen", "[I", 2) ∈ cFS := List.mem_of_getElem? (i := 20) rfl
theorem mf_cellQ : (22, "cellQ", "[I", 2) ∈ cFS := List.mem_of_getElem? (i := 21) rfl
theorem mf_cellLast : (23, "cellLast", "[I", 2) ∈ cFS := List.mem_of_getElem? (i := 22) rfl
theorem mf_n : (137, "n", "I", 0) ∈ cFS := List.mem_of_getElem? (i := 23) rfl
theorem mf_cap : (138, "cap", "I", 0) ∈ cFS := List.mem_of_getElem? (i := 24) rfl
theorem mf_opCount : (139, "opCount", "I", 0) ∈ cFS := List.mem_of_getElem? (i := 25) rfl
theorem mf_tailValue : (153, "tailValue", "I", 0) ∈ cFS := List.mem_of_getElem? (i := 26) rfl
theorem ma_opKind : ((1, .int, 241) : ASpec) ∈ cFA := List.mem_of_getElem? (i := 0) rfl
theorem ma_opArg : ((2, .int, 241) : ASpec) ∈ cFA := List.mem_of_getElem? (i := 1) rfl
theorem ma_opThread : ((3, .int, 241) : ASpec) ∈ cFA := List.mem_of_getElem? (i := 2) rfl
theorem ma_opStatus : ((4, .int, 241) : ASpec) ∈ cFA := List.mem_of_getElem? (i := 3) rfl
theorem ma_opResp : ((5, .int, 241) : ASpec) ∈ cFA := List.mem_of_getElem? (i := 4) rfl
theorem ma_opPos : ((6, .int, 241) : ASpec) ∈ cFA := List.mem_of_getElem? (i := 5) rfl
theorem ma_thPhase : ((7, .int, 6) : ASpec) ∈ cFA := List.mem_of_getElem? (i := 6) rfl
theorem ma_thOwn : ((8, .int, 6) : ASpec) ∈ cFA := List.mem_of_getElem? (i := 7) rfl
theorem ma_thP : ((9, .int, 6) : ASpec) ∈ cFA := List.mem_of_getElem? (i := 8) rfl
theorem ma_thC : ((10, .int, 6) : ASpec) ∈ cFA := List.mem_of_getElem? (i := 9) rfl
theorem ma_thSteps : ((11, .int, 6) : ASpec) ∈ cFA := List.mem_of_getElem? (i := 10) rfl
theorem ma_thHelped : ((12, .int, 6) : ASpec) ∈ cFA := List.mem_of_getElem? (i := 11) rfl
theorem ma_thLast : ((13, .int, 36) : ASpec) ∈ cFA := List.mem_of_getElem? (i := 12) rfl
theorem ma_annId : ((14, .int, 6) : ASpec) ∈ cFA := List.mem_of_getElem? (i := 13) rfl
theorem ma_annKind : ((15, .int, 6) : ASpec) ∈ cFA := List.mem_of_getElem? (i := 14) rfl
theorem ma_annArg : ((16, .int, 6) : ASpec) ∈ cFA := List.mem_of_getElem? (i := 15) rfl
theorem ma_cellPos : ((17, .int, 8) : ASpec) ∈ cFA := List.mem_of_getElem? (i := 16) rfl
theorem ma_cellId : ((18, .int, 8) : ASpec) ∈ cFA := List.mem_of_getElem? (i := 17) rfl
theorem ma_cellResp : ((19, .int, 8) : ASpec) ∈ cFA := List.mem_of_getElem? (i := 18) rfl
theorem ma_cellCounter : ((20, .int, 8) : ASpec) ∈ cFA := List.mem_of_getElem? (i := 19) rfl
theorem ma_cellQLen : ((21, .int, 8) : ASpec) ∈ cFA := List.mem_of_getElem? (i := 20) rfl
theorem ma_cellQ : ((22, .int, 32) : ASpec) ∈ cFA := List.mem_of_getElem? (i := 21) rfl
theorem ma_cellLast : ((23, .int, 48) : ASpec) ∈ cFA := List.mem_of_getElem? (i := 22) rfl
theorem lgood : layGood cFS cFA 23 = true := by decide +kernel
theorem cj_23 : (ceJ 27 cFA [23]).1 ≤ 56 ∧ (ceJ 27 cFA [23]).2 ≤ 3456 := by decide +kernel
theorem cn_ : (ceJ 27 cFA []).1 + 1 ≤ 56 ∧ (ceJ 27 cFA []).2 + 27 ≤ 3456 := by decide +kernel
theorem ceI_nA : (1656 : Nat) = (ceI cFA 23).2 := by decide +kernel
theorem ceI_0 : (ceI cFA 0).2 = 0 := by decide +kernel
theorem layW {a0 : Array Value} {Z : State} (hw : HW a0 Z) : LayW Z a0 cC cFS 27 := by
  refine ⟨fun f hf => ?_, w1 hw, w2 hw⟩
  simp only [cFS, List.mem_cons, List.not_mem_nil, or_false] at hf
  rcases hf with rfl | rfl | rfl | rfl | rfl | rfl | rfl | rfl | rfl | rfl | rfl | rfl | rfl | rfl | rfl | rfl | rfl | rfl | rfl | rfl | rfl | rfl | rfl | rfl | rfl | rfl | rfl
  · exact Or.inl (w11 hw)
  · exact Or.inl (w13 hw)
  · exact Or.inl (w15 hw)
  · exact Or.inl (w17 hw)
  · exact Or.inl (w19 hw)
  · exact Or.inl (w21 hw)
  · exact Or.inl (w23 hw)
  · exact Or.inl (w25 hw)
  · exact Or.inl (w27 hw)
  · exact Or.inl (w29 hw)
  · exact Or.inl (w31 hw)
  · exact Or.inl (w33 hw)
  · exact Or.inl (w35 hw)
  · exact Or.inl (w37 hw)
  · exact Or.inl (w39 hw)
  · exact Or.inl (w41 hw)
  · exact Or.inl (w43 hw)
  · exact Or.inl (w45 hw)
  · exact Or.inl (w47 hw)
  · exact Or.inl (w49 hw)
  · exact Or.inl (w51 hw)
  · exact Or.inl (w53 hw)
  · exact Or.inl (w55 hw)
  · exact Or.inl (w61 hw)
  · exact Or.inl (w63 hw)
  · exact Or.inl (w65 hw)
  · exact Or.inl (w67 hw)
theorem pnC : plainName cC = true := by first | (simp [plainName, overriddenIn]; done) | decide +kernel
theorem pnL : plainName "WaitFreeUniversalL3" = true := by first | (simp [plainName, overriddenIn]; done) | decide +kernel
theorem hyC : cC ≠ "java/lang/invoke/MethodHandle" ∧ cC ≠ "java/lang/invoke/VarHandle" := by decide
theorem hyL : "WaitFreeUniversalL3" ≠ "java/lang/invoke/MethodHandle" ∧ "WaitFreeUniversalL3" ≠ "java/lang/invoke/VarHandle" := by decide
theorem pfd_I : parseFieldDescriptor "I" = some .int := by decide +kernel
theorem pfd_Z : parseFieldDescriptor "Z" = some .boolean := by decide +kernel
theorem pfd_J : parseFieldDescriptor "J" = some .long := by decide +kernel
theorem pfd_AI : parseFieldDescriptor "[I" = some (.array .int) := by decide +kernel
theorem pfd_AZ : parseFieldDescriptor "[Z" = some (.array .boolean) := by decide +kernel
theorem pfd_AC : parseFieldDescriptor "[C" = some (.array .char) := by decide +kernel
theorem pd_0 : parseMethodDescriptor "(III)V" = some ⟨[.int, .int, .int], none⟩ := by decide +kernel
theorem pd_1 : parseMethodDescriptor "(I)V" = some ⟨[.int], none⟩ := by decide +kernel
theorem pd_2 : parseMethodDescriptor "()V" = some ⟨[], none⟩ := by decide +kernel
theorem pd_3 : parseMethodDescriptor "(III)I" = some ⟨[.int, .int, .int], some .int⟩ := by decide +kernel
theorem pd_4 : parseMethodDescriptor "(IIII)V" = some ⟨[.int, .int, .int, .int], none⟩ := by decide +kernel
theorem pd_5 : parseMethodDescriptor "(I)Z" = some ⟨[.int], some .boolean⟩ := by decide +kernel
theorem pd_6 : parseMethodDescriptor "(I)I" = some ⟨[.int], some .int⟩ := by decide +kernel
theorem pd_7 : parseMethodDescriptor "(II)I" = some ⟨[.int, .int], some .int⟩ := by decide +kernel
theorem pd_8 : parseMethodDescriptor "(II)V" = some ⟨[.int, .int], none⟩ := by decide +kernel
theorem pd_9 : parseMethodDescriptor "()I" = some ⟨[], some .int⟩ := by decide +kernel
abbrev c3 : ByteArray := prog_1_method_18_code
theorem d3_0 : decode c3 0 = .ok (.iload_n 1, 1) := by decide +kernel
theorem d3_1 : decode c3 1 = .ok (.iload_n 2, 1) := by decide +kernel
theorem d3_2 : decode c3 2 = .ok (.if_icmp .ge 5, 3) := by decide +kernel
theorem d3_7 : decode c3 7 = .ok (.iload_n 1, 1) := by decide +kernel
theorem d3_8 : decode c3 8 = .ok (.iload_n 3, 1) := by decide +kernel
theorem d3_9 : decode c3 9 = .ok (.if_icmp .le 5, 3) := by decide +kernel
theorem d3_14 : decode c3 14 = .ok (.iload_n 1, 1) := by decide +kernel
theorem d3_15 : decode c3 15 = .ok (.ireturn, 1) := by decide +kernel
theorem d3_12 : decode c3 12 = .ok (.iload_n 3, 1) := by decide +kernel
theorem d3_13 : decode c3 13 = .ok (.ireturn, 1) := by decide +kernel
theorem d3_5 : decode c3 5 = .ok (.iload_n 2, 1) := by decide +kernel
theorem d3_6 : decode c3 6 = .ok (.ireturn, 1) := by decide +kernel
abbrev c4 : ByteArray := prog_1_method_27_code
theorem d4_0 : decode c4 0 = .ok (.iconst 0, 1) := by decide +kernel
theorem d4_1 : decode c4 1 = .ok (.istore_n 1, 1) := by decide +kernel
theorem d4_2 : decode c4 2 = .ok (.iload_n 1, 1) := by decide +kernel
theorem d4_3 : decode c4 3 = .ok (.sipush 240, 3) := by decide +kernel
theorem d4_6 : decode c4 6 = .ok (.if_icmp .gt 51, 3) := by decide +kernel
theorem d4_57 : decode c4 57 = .ok (.return_, 1) := by decide +kernel
theorem d4_9 : decode c4 9 = .ok (.aload_n 0, 1) := by decide +kernel
theorem d4_10 : decode c4 10 = .ok (.getfield 7, 3) := by decide +kernel
theorem d4_13 : decode c4 13 = .ok (.iload_n 1, 1) := by decide +kernel
theorem d4_14 : decode c4 14 = .ok (.iconst 0, 1) := by decide +kernel
theorem d4_15 : decode c4 15 = .ok (.iastore, 1) := by decide +kernel
theorem d4_16 : decode c4 16 = .ok (.aload_n 0, 1) := by decide +kernel
theorem d4_17 : decode c4 17 = .ok (.getfield 13, 3) := by decide +kernel
theorem d4_20 : decode c4 20 = .ok (.iload_n 1, 1) := by decide +kernel
theorem d4_21 : decode c4 21 = .ok (.iconst 0, 1) := by decide +kernel
theorem d4_22 : decode c4 22 = .ok (.iastore, 1) := by decide +kernel
theorem d4_23 : decode c4 23 = .ok (.aload_n 0, 1) := by decide +kernel
theorem d4_24 : decode c4 24 = .ok (.getfield 16, 3) := by decide +kernel
theorem d4_27 : decode c4 27 = .ok (.iload_n 1, 1) := by decide +kernel
theorem d4_28 : decode c4 28 = .ok (.iconst (-1), 1) := by decide +kernel
theorem d4_29 : decode c4 29 = .ok (.iastore, 1) := by decide +kernel
theorem d4_30 : decode c4 30 = .ok (.aload_n 0, 1) := by decide +kernel
theorem d4_31 : decode c4 31 = .ok (.getfield 19, 3) := by decide +kernel
theorem d4_34 : decode c4 34 = .ok (.iload_n 1, 1) := by decide +kernel
theorem d4_35 : decode c4 35 = .ok (.iconst 0, 1) := by decide +kernel
theorem d4_36 : decode c4 36 = .ok (.iastore, 1) := by decide +kernel
theorem d4_37 : decode c4 37 = .ok (.aload_n 0, 1) := by decide +kernel
theorem d4_38 : decode c4 38 = .ok (.getfield 22, 3) := by decide +kernel
theorem d4_41 : decode c4 41 = .ok (.iload_n 1, 1) := by decide +kernel
theorem d4_42 : decode c4 42 = .ok (.iconst 0, 1) := by decide +kernel
theorem d4_43 : decode c4 43 = .ok (.iastore, 1) := by decide +kernel
theorem d4_44 : decode c4 44 = .ok (.aload_n 0, 1) := by decide +kernel
theorem d4_45 : decode c4 45 = .ok (.getfield 25, 3) := by decide +kernel
theorem d4_48 : decode c4 48 = .ok (.iload_n 1, 1) := by decide +kernel
theorem d4_49 : decode c4 49 = .ok (.iconst 0, 1) := by decide +kernel
theorem d4_50 : decode c4 50 = .ok (.iastore, 1) := by decide +kernel
theorem d4_51 : decode c4 51 = .ok (.iinc 1 1, 3) := by decide +kernel
theorem d4_54 : decode c4 54 = .ok (.goto (-52), 3) := by decide +kernel
abbrev c7 : ByteArray := prog_1_method_47_code
theorem d7_0 : decode c7 0 = .ok (.iload_n 1, 1) := by decide +kernel
theorem d7_1 : decode c7 1 = .ok (.ifCond .lt 19, 3) := by decide +kernel
theorem d7_4 : decode c7 4 = .ok (.iload_n 1, 1) := by decide +kernel
theorem d7_5 : decode c7 5 = .ok (.bipush 6, 2) := by decide +kernel
theorem d7_7 : decode c7 7 = .ok (.if_icmp .ge 13, 3) := by decide +kernel
theorem d7_10 : decode c7 10 = .ok (.iload_n 2, 1) := by decide +kernel
theorem d7_11 : decode c7 11 = .ok (.ifCond .lt 9, 3) := by decide +kernel
theorem d7_14 : decode c7 14 = .ok (.iload_n 2, 1) := by decide +kernel
theorem d7_15 : decode c7 15 = .ok (.bipush 6, 2) := by decide +kernel
theorem d7_17 : decode c7 17 = .ok (.if_icmp .lt 4, 3) := by decide +kernel
theorem d7_21 : decode c7 21 = .ok (.aload_n 0, 1) := by decide +kernel
theorem d7_22 : decode c7 22 = .ok (.getfield 46, 3) := by decide +kernel
theorem d7_25 : decode c7 25 = .ok (.iload_n 1, 1) := by decide +kernel
theorem d7_26 : decode c7 26 = .ok (.bipush 6, 2) := by decide +kernel
theorem d7_28 : decode c7 28 = .ok (.imul, 1) := by decide +kernel
theorem d7_29 : decode c7 29 = .ok (.iload_n 2, 1) := by decide +kernel
theorem d7_30 : decode c7 30 = .ok (.iadd, 1) := by decide +kernel
theorem d7_31 : decode c7 31 = .ok (.iload_n 3, 1) := by decide +kernel
theorem d7_32 : decode c7 32 = .ok (.iastore, 1) := by decide +kernel
theorem d7_33 : decode c7 33 = .ok (.return_, 1) := by decide +kernel
theorem d7_20 : decode c7 20 = .ok (.return_, 1) := by decide +kernel
abbrev c6 : ByteArray := prog_1_method_45_code
theorem d6_0 : decode c6 0 = .ok (.iconst 0, 1) := by decide +kernel
theorem d6_1 : decode c6 1 = .ok (.istore_n 2, 1) := by decide +kernel
theorem d6_2 : decode c6 2 = .ok (.iload_n 2, 1) := by decide +kernel
theorem d6_3 : decode c6 3 = .ok (.bipush 6, 2) := by decide +kernel
theorem d6_5 : decode c6 5 = .ok (.if_icmp .ge 16, 3) := by decide +kernel
theorem d6_21 : decode c6 21 = .ok (.return_, 1) := by decide +kernel
theorem d6_8 : decode c6 8 = .ok (.aload_n 0, 1) := by decide +kernel
theorem d6_9 : decode c6 9 = .ok (.iload_n 1, 1) := by decide +kernel
theorem d6_10 : decode c6 10 = .ok (.iload_n 2, 1) := by decide +kernel
theorem d6_11 : decode c6 11 = .ok (.iconst 0, 1) := by decide +kernel
theorem d6_12 : decode c6 12 = .ok (.invokevirtual 218, 3) := by decide +kernel
theorem d6_15 : decode c6 15 = .ok (.iinc 2 1, 3) := by decide +kernel
theorem d6_18 : decode c6 18 = .ok (.goto (-16), 3) := by decide +kernel
abbrev c5 : ByteArray := prog_1_method_28_code
theorem d5_0 : decode c5 0 = .ok (.iconst 0, 1) := by decide +kernel
theorem d5_1 : decode c5 1 = .ok (.istore_n 1, 1) := by decide +kernel
theorem d5_2 : decode c5 2 = .ok (.iload_n 1, 1) := by decide +kernel
theorem d5_3 : decode c5 3 = .ok (.bipush 6, 2) := by decide +kernel
theorem d5_5 : decode c5 5 = .ok (.if_icmp .ge 56, 3) := by decide +kernel
theorem d5_61 : decode c5 61 = .ok (.return_, 1) := by decide +kernel
theorem d5_8 : decode c5 8 = .ok (.aload_n 0, 1) := by decide +kernel
theorem d5_9 : decode c5 9 = .ok (.getfield 28, 3) := by decide +kernel
theorem d5_12 : decode c5 12 = .ok (.iload_n 1, 1) := by decide +kernel
theorem d5_13 : decode c5 13 = .ok (.iconst 0, 1) := by decide +kernel
theorem d5_14 : decode c5 14 = .ok (.iastore, 1) := by decide +kernel
theorem d5_15 : decode c5 15 = .ok (.aload_n 0, 1) := by decide +kernel
theorem d5_16 : decode c5 16 = .ok (.getfield 31, 3) := by decide +kernel
theorem d5_19 : decode c5 19 = .ok (.iload_n 1, 1) := by decide +kernel
theorem d5_20 : decode c5 20 = .ok (.iconst 0, 1) := by decide +kernel
theorem d5_21 : decode c5 21 = .ok (.iastore, 1) := by decide +kernel
theorem d5_22 : decode c5 22 = .ok (.aload_n 0, 1) := by decide +kernel
theorem d5_23 : decode c5 23 = .ok (.getfield 34, 3) := by decide +kernel
theorem d5_26 : decode c5 26 = .ok (.iload_n 1, 1) := by decide +kernel
theorem d5_27 : decode c5 27 = .ok (.iconst 0, 1) := by decide +kernel
theorem d5_28 : decode c5 28 = .ok (.iastore, 1) := by decide +kernel
theorem d5_29 : decode c5 29 = .ok (.aload_n 0, 1) := by decide +kernel
theorem d5_30 : decode c5 30 = .ok (.getfield 37, 3) := by decide +kernel
theorem d5_33 : decode c5 33 = .ok (.iload_n 1, 1) := by decide +kernel
theorem d5_34 : decode c5 34 = .ok (.iconst 0, 1) := by decide +kernel
theorem d5_35 : decode c5 35 = .ok (.iastore, 1) := by decide +kernel
theorem d5_36 : decode c5 36 = .ok (.aload_n 0, 1) := by decide +kernel
theorem d5_37 : decode c5 37 = .ok (.getfield 40, 3) := by decide +kernel
theorem d5_40 : decode c5 40 = .ok (.iload_n 1, 1) := by decide +kernel
theorem d5_41 : decode c5 41 = .ok (.iconst 0, 1) := by decide +kernel
theorem d5_42 : decode c5 42 = .ok (.iastore, 1) := by decide +kernel
theorem d5_43 : decode c5 43 = .ok (.aload_n 0, 1) := by decide +kernel
theorem d5_44 : decode c5 44 = .ok (.getfield 43, 3) := by decide +kernel
theorem d5_47 : decode c5 47 = .ok (.iload_n 1, 1) := by decide +kernel
theorem d5_48 : decode c5 48 = .ok (.iconst 0, 1) := by decide +kernel
theorem d5_49 : decode c5 49 = .ok (.iastore, 1) := by decide +kernel
theorem d5_50 : decode c5 50 = .ok (.aload_n 0, 1) := by decide +kernel
theorem d5_51 : decode c5 51 = .ok (.iload_n 1, 1) := by decide +kernel
theorem d5_52 : decode c5 52 = .ok (.invokevirtual 154, 3) := by decide +kernel
theorem d5_55 : decode c5 55 = .ok (.iinc 1 1, 3) := by decide +kernel
theorem d5_58 : decode c5 58 = .ok (.goto (-56), 3) := by decide +kernel
abbrev c8 : ByteArray := prog_1_method_29_code
theorem d8_0 : decode c8 0 = .ok (.iconst 0, 1) := by decide +kernel
theorem d8_1 : decode c8 1 = .ok (.istore_n 1, 1) := by decide +kernel
theorem d8_2 : decode c8 2 = .ok (.iload_n 1, 1) := by decide +kernel
theorem d8_3 : decode c8 3 = .ok (.bipush 6, 2) := by decide +kernel
theorem d8_5 : decode c8 5 = .ok (.if_icmp .ge 30, 3) := by decide +kernel
theorem d8_35 : decode c8 35 = .ok (.return_, 1) := by decide +kernel
theorem d8_8 : decode c8 8 = .ok (.aload_n 0, 1) := by decide +kernel
theorem d8_9 : decode c8 9 = .ok (.getfield 49, 3) := by decide +kernel
theorem d8_12 : decode c8 12 = .ok (.iload_n 1, 1) := by decide +kernel
theorem d8_13 : decode c8 13 = .ok (.iconst 0, 1) := by decide +kernel
theorem d8_14 : decode c8 14 = .ok (.iastore, 1) := by decide +kernel
theorem d8_15 : decode c8 15 = .ok (.aload_n 0, 1) := by decide +kernel
theorem d8_16 : decode c8 16 = .ok (.getfield 52, 3) := by decide +kernel
theorem d8_19 : decode c8 19 = .ok (.iload_n 1, 1) := by decide +kernel
theorem d8_20 : decode c8 20 = .ok (.iconst 0, 1) := by decide +kernel
theorem d8_21 : decode c8 21 = .ok (.iastore, 1) := by decide +kernel
theorem d8_22 : decode c8 22 = .ok (.aload_n 0, 1) := by decide +kernel
theorem d8_23 : decode c8 23 = .ok (.getfield 55, 3) := by decide +kernel
theorem d8_26 : decode c8 26 = .ok (.iload_n 1, 1) := by decide +kernel
theorem d8_27 : decode c8 27 = .ok (.iconst 0, 1) := by decide +kernel
theorem d8_28 : decode c8 28 = .ok (.iastore, 1) := by decide +kernel
theorem d8_29 : decode c8 29 = .ok (.iinc 1 1, 3) := by decide +kernel
theorem d8_32 : decode c8 32 = .ok (.goto (-30), 3) := by decide +kernel
abbrev c11 : ByteArray := prog_1_method_57_code
theorem d11_0 : decode c11 0 = .ok (.iload_n 1, 1) := by decide +kernel
theorem d11_1 : decode c11 1 = .ok (.ifCond .lt 18, 3) := by decide +kernel
theorem d11_4 : decode c11 4 = .ok (.iload_n 1, 1) := by decide +kernel
theorem d11_5 : decode c11 5 = .ok (.bipush 8, 2) := by decide +kernel
theorem d11_7 : decode c11 7 = .ok (.if_icmp .ge 12, 3) := by decide +kernel
theorem d11_10 : decode c11 10 = .ok (.iload_n 2, 1) := by decide +kernel
theorem d11_11 : decode c11 11 = .ok (.ifCond .lt 8, 3) := by decide +kernel
theorem d11_14 : decode c11 14 = .ok (.iload_n 2, 1) := by decide +kernel
theorem d11_15 : decode c11 15 = .ok (.iconst 4, 1) := by decide +kernel
theorem d11_16 : decode c11 16 = .ok (.if_icmp .lt 4, 3) := by decide +kernel
theorem d11_20 : decode c11 20 = .ok (.aload_n 0, 1) := by decide +kernel
theorem d11_21 : decode c11 21 = .ok (.getfield 73, 3) := by decide +kernel
theorem d11_24 : decode c11 24 = .ok (.iload_n 1, 1) := by decide +kernel
theorem d11_25 : decode c11 25 = .ok (.iconst 4, 1) := by decide +kernel
theorem d11_26 : decode c11 26 = .ok (.imul, 1) := by decide +kernel
theorem d11_27 : decode c11 27 = .ok (.iload_n 2, 1) := by decide +kernel
theorem d11_28 : decode c11 28 = .ok (.iadd, 1) := by decide +kernel
theorem d11_29 : decode c11 29 = .ok (.iload_n 3, 1) := by decide +kernel
theorem d11_30 : decode c11 30 = .ok (.iastore, 1) := by decide +kernel
theorem d11_31 : decode c11 31 = .ok (.return_, 1) := by decide +kernel
theorem d11_19 : decode c11 19 = .ok (.return_, 1) := by decide +kernel
abbrev c10 : ByteArray := prog_1_method_31_code
theorem d10_0 : decode c10 0 = .ok (.iconst 0, 1) := by decide +kernel
theorem d10_1 : decode c10 1 = .ok (.istore_n 2, 1) := by decide +kernel
theorem d10_2 : decode c10 2 = .ok (.iload_n 2, 1) := by decide +kernel
theorem d10_3 : decode c10 3 = .ok (.iconst 4, 1) := by decide +kernel
theorem d10_4 : decode c10 4 = .ok (.if_icmp .ge 16, 3) := by decide +kernel
theorem d10_20 : decode c10 20 = .ok (.return_, 1) := by decide +kernel
theorem d10_7 : decode c10 7 = .ok (.aload_n 0, 1) := by decide +kernel
theorem d10_8 : decode c10 8 = .ok (.iload_n 1, 1) := by decide +kernel
theorem d10_9 : decode c10 9 = .ok (.iload_n 2, 1) := by decide +kernel
theorem d10_10 : decode c10 10 = .ok (.iconst 0, 1) := by decide +kernel
theorem d10_11 : decode c10 11 = .ok (.invokevirtual 164, 3) := by decide +kernel
theorem d10_14 : decode c10 14 = .ok (.iinc 2 1, 3) := by decide +kernel
theorem d10_17 : decode c10 17 = .ok (.goto (-15), 3) := by decide +kernel
abbrev c13 : ByteArray := prog_1_method_59_code
theorem d13_0 : decode c13 0 = .ok (.iload_n 1, 1) := by decide +kernel
theorem d13_1 : decode c13 1 = .ok (.ifCond .lt 19, 3) := by decide +kernel
theorem d13_4 : decode c13 4 = .ok (.iload_n 1, 1) := by decide +kernel
theorem d13_5 : decode c13 5 = .ok (.bipush 8, 2) := by decide +kernel
theorem d13_7 : decode c13 7 = .ok (.if_icmp .ge 13, 3) := by decide +kernel
theorem d13_10 : decode c13 10 = .ok (.iload_n 2, 1) := by decide +kernel
theorem d13_11 : decode c13 11 = .ok (.ifCond .lt 9, 3) := by decide +kernel
theorem d13_14 : decode c13 14 = .ok (.iload_n 2, 1) := by decide +kernel
theorem d13_15 : decode c13 15 = .ok (.bipush 6, 2) := by decide +kernel
theorem d13_17 : decode c13 17 = .ok (.if_icmp .lt 4, 3) := by decide +kernel
theorem d13_21 : decode c13 21 = .ok (.aload_n 0, 1) := by decide +kernel
theorem d13_22 : decode c13 22 = .ok (.getfield 76, 3) := by decide +kernel
theorem d13_25 : decode c13 25 = .ok (.iload_n 1, 1) := by decide +kernel
theorem d13_26 : decode c13 26 = .ok (.bipush 6, 2) := by decide +kernel
theorem d13_28 : decode c13 28 = .ok (.imul, 1) := by decide +kernel
theorem d13_29 : decode c13 29 = .ok (.iload_n 2, 1) := by decide +kernel
theorem d13_30 : decode c13 30 = .ok (.iadd, 1) := by decide +kernel
theorem d13_31 : decode c13 31 = .ok (.iload_n 3, 1) := by decide +kernel
theorem d13_32 : decode c13 32 = .ok (.iastore, 1) := by decide +kernel
theorem d13_33 : decode c13 33 = .ok (.return_, 1) := by decide +kernel
theorem d13_20 : decode c13 20 = .ok (.return_, 1) := by decide +kernel
abbrev c12 : ByteArray := prog_1_method_32_code
theorem d12_0 : decode c12 0 = .ok (.iconst 0, 1) := by decide +kernel
theorem d12_1 : decode c12 1 = .ok (.istore_n 2, 1) := by decide +kernel
theorem d12_2 : decode c12 2 = .ok (.iload_n 2, 1) := by decide +kernel
theorem d12_3 : decode c12 3 = .ok (.bipush 6, 2) := by decide +kernel
theorem d12_5 : decode c12 5 = .ok (.if_icmp .ge 16, 3) := by decide +kernel
theorem d12_21 : decode c12 21 = .ok (.return_, 1) := by decide +kernel
theorem d12_8 : decode c12 8 = .ok (.aload_n 0, 1) := by decide +kernel
theorem d12_9 : decode c12 9 = .ok (.iload_n 1, 1) := by decide +kernel
theorem d12_10 : decode c12 10 = .ok (.iload_n 2, 1) := by decide +kernel
theorem d12_11 : decode c12 11 = .ok (.iconst 0, 1) := by decide +kernel
theorem d12_12 : decode c12 12 = .ok (.invokevirtual 168, 3) := by decide +kernel
theorem d12_15 : decode c12 15 = .ok (.iinc 2 1, 3) := by decide +kernel
theorem d12_18 : decode c12 18 = .ok (.goto (-16), 3) := by decide +kernel
abbrev c9 : ByteArray := prog_1_method_30_code
theorem d9_0 : decode c9 0 = .ok (.iconst 0, 1) := by decide +kernel
theorem d9_1 : decode c9 1 = .ok (.istore_n 1, 1) := by decide +kernel
theorem d9_2 : decode c9 2 = .ok (.iload_n 1, 1) := by decide +kernel
theorem d9_3 : decode c9 3 = .ok (.bipush 8, 2) := by decide +kernel
theorem d9_5 : decode c9 5 = .ok (.if_icmp .ge 54, 3) := by decide +kernel
theorem d9_59 : decode c9 59 = .ok (.aload_n 0, 1) := by decide +kernel
theorem d9_60 : decode c9 60 = .ok (.getfield 58, 3) := by decide +kernel
theorem d9_63 : decode c9 63 = .ok (.iconst 0, 1) := by decide +kernel
theorem d9_64 : decode c9 64 = .ok (.iconst 0, 1) := by decide +kernel
theorem d9_65 : decode c9 65 = .ok (.iastore, 1) := by decide +kernel
theorem d9_66 : decode c9 66 = .ok (.return_, 1) := by decide +kernel
theorem d9_8 : decode c9 8 = .ok (.aload_n 0, 1) := by decide +kernel
theorem d9_9 : decode c9 9 = .ok (.getfield 58, 3) := by decide +kernel
theorem d9_12 : decode c9 12 = .ok (.iload_n 1, 1) := by decide +kernel
theorem d9_13 : decode c9 13 = .ok (.iconst (-1), 1) := by decide +kernel
theorem d9_14 : decode c9 14 = .ok (.iastore, 1) := by decide +kernel
theorem d9_15 : decode c9 15 = .ok (.aload_n 0, 1) := by decide +kernel
theorem d9_16 : decode c9 16 = .ok (.getfield 61, 3) := by decide +kernel
theorem d9_19 : decode c9 19 = .ok (.iload_n 1, 1) := by decide +kernel
theorem d9_20 : decode c9 20 = .ok (.iconst 0, 1) := by decide +kernel
theorem d9_21 : decode c9 21 = .ok (.iastore, 1) := by decide +kernel
theorem d9_22 : decode c9 22 = .ok (.aload_n 0, 1) := by decide +kernel
theorem d9_23 : decode c9 23 = .ok (.getfield 64, 3) := by decide +kernel
theorem d9_26 : decode c9 26 = .ok (.iload_n 1, 1) := by decide +kernel
theorem d9_27 : decode c9 27 = .ok (.iconst 0, 1) := by decide +kernel
theorem d9_28 : decode c9 28 = .ok (.iastore, 1) := by decide +kernel
theorem d9_29 : decode c9 29 = .ok (.aload_n 0, 1) := by decide +kernel
theorem d9_30 : decode c9 30 = .ok (.getfield 67, 3) := by decide +kernel
theorem d9_33 : decode c9 33 = .ok (.iload_n 1, 1) := by decide +kernel
theorem d9_34 : decode c9 34 = .ok (.iconst 0, 1) := by decide +kernel
theorem d9_35 : decode c9 35 = .ok (.iastore, 1) := by decide +kernel
theorem d9_36 : decode c9 36 = .ok (.aload_n 0, 1) := by decide +kernel
theorem d9_37 : decode c9 37 = .ok (.getfield 70, 3) := by decide +kernel
theorem d9_40 : decode c9 40 = .ok (.iload_n 1, 1) := by decide +kernel
theorem d9_41 : decode c9 41 = .ok (.iconst 0, 1) := by decide +kernel
theorem d9_42 : decode c9 42 = .ok (.iastore, 1) := by decide +kernel
theorem d9_43 : decode c9 43 = .ok (.aload_n 0, 1) := by decide +kernel
theorem d9_44 : decode c9 44 = .ok (.iload_n 1, 1) := by decide +kernel
theorem d9_45 : decode c9 45 = .ok (.invokevirtual 158, 3) := by decide +kernel
theorem d9_48 : decode c9 48 = .ok (.aload_n 0, 1) := by decide +kernel
theorem d9_49 : decode c9 49 = .ok (.iload_n 1, 1) := by decide +kernel
theorem d9_50 : decode c9 50 = .ok (.invokevirtual 161, 3) := by decide +kernel
theorem d9_53 : decode c9 53 = .ok (.iinc 1 1, 3) := by decide +kernel
theorem d9_56 : decode c9 56 = .ok (.goto (-54), 3) := by decide +kernel
abbrev c2 : ByteArray := prog_1_method_1_code
theorem d2_0 : decode c2 0 = .ok (.aload_n 0, 1) := by decide +kernel
theorem d2_1 : decode c2 1 = .ok (.invokespecial 1, 3) := by decide +kernel
theorem d2_4 : decode c2 4 = .ok (.aload_n 0, 1) := by decide +kernel
theorem d2_5 : decode c2 5 = .ok (.sipush 241, 3) := by decide +kernel
theorem d2_8 : decode c2 8 = .ok (.newarray .int, 2) := by decide +kernel
theorem d2_10 : decode c2 10 = .ok (.putfield 7, 3) := by decide +kernel
theorem d2_13 : decode c2 13 = .ok (.aload_n 0, 1) := by decide +kernel
theorem d2_14 : decode c2 14 = .ok (.sipush 241, 3) := by decide +kernel
theorem d2_17 : decode c2 17 = .ok (.newarray .int, 2) := by decide +kernel
theorem d2_19 : decode c2 19 = .ok (.putfield 13, 3) := by decide +kernel
theorem d2_22 : decode c2 22 = .ok (.aload_n 0, 1) := by decide +kernel
theorem d2_23 : decode c2 23 = .ok (.sipush 241, 3) := by decide +kernel
theorem d2_26 : decode c2 26 = .ok (.newarray .int, 2) := by decide +kernel
theorem d2_28 : decode c2 28 = .ok (.putfield 16, 3) := by decide +kernel
theorem d2_31 : decode c2 31 = .ok (.aload_n 0, 1) := by decide +kernel
theorem d2_32 : decode c2 32 = .ok (.sipush 241, 3) := by decide +kernel
theorem d2_35 : decode c2 35 = .ok (.newarray .int, 2) := by decide +kernel
theorem d2_37 : decode c2 37 = .ok (.putfield 19, 3) := by decide +kernel
theorem d2_40 : decode c2 40 = .ok (.aload_n 0, 1) := by decide +kernel
theorem d2_41 : decode c2 41 = .ok (.sipush 241, 3) := by decide +kernel
theorem d2_44 : decode c2 44 = .ok (.newarray .int, 2) := by decide +kernel
theorem d2_46 : decode c2 46 = .ok (.putfield 22, 3) := by decide +kernel
theorem d2_49 : decode c2 49 = .ok (.aload_n 0, 1) := by decide +kernel
theorem d2_50 : decode c2 50 = .ok (.sipush 241, 3) := by decide +kernel
theorem d2_53 : decode c2 53 = .ok (.newarray .int, 2) := by decide +kernel
theorem d2_55 : decode c2 55 = .ok (.putfield 25, 3) := by decide +kernel
theorem d2_58 : decode c2 58 = .ok (.aload_n 0, 1) := by decide +kernel
theorem d2_59 : decode c2 59 = .ok (.bipush 6, 2) := by decide +kernel
theorem d2_61 : decode c2 61 = .ok (.newarray .int, 2) := by decide +kernel
theorem d2_63 : decode c2 63 = .ok (.putfield 28, 3) := by decide +kernel
theorem d2_66 : decode c2 66 = .ok (.aload_n 0, 1) := by decide +kernel
theorem d2_67 : decode c2 67 = .ok (.bipush 6, 2) := by decide +kernel
theorem d2_69 : decode c2 69 = .ok (.newarray .int, 2) := by decide +kernel
theorem d2_71 : decode c2 71 = .ok (.putfield 31, 3) := by decide +kernel
theorem d2_74 : decode c2 74 = .ok (.aload_n 0, 1) := by decide +kernel
theorem d2_75 : decode c2 75 = .ok (.bipush 6, 2) := by decide +kernel
theorem d2_77 : decode c2 77 = .ok (.newarray .int, 2) := by decide +kernel
theorem d2_79 : decode c2 79 = .ok (.putfield 34, 3) := by decide +kernel
theorem d2_82 : decode c2 82 = .ok (.aload_n 0, 1) := by decide +kernel
theorem d2_83 : decode c2 83 = .ok (.bipush 6, 2) := by decide +kernel
theorem d2_85 : decode c2 85 = .ok (.newarray .int, 2) := by decide +kernel
theorem d2_87 : decode c2 87 = .ok (.putfield 37, 3) := by decide +kernel
theorem d2_90 : decode c2 90 = .ok (.aload_n 0, 1) := by decide +kernel
theorem d2_91 : decode c2 91 = .ok (.bipush 6, 2) := by decide +kernel
theorem d2_93 : decode c2 93 = .ok (.newarray .int, 2) := by decide +kernel
theorem d2_95 : decode c2 95 = .ok (.putfield 40, 3) := by decide +kernel
theorem d2_98 : decode c2 98 = .ok (.aload_n 0, 1) := by decide +kernel
theorem d2_99 : decode c2 99 = .ok (.bipush 6, 2) := by decide +kernel
theorem d2_101 : decode c2 101 = .ok (.newarray .int, 2) := by decide +kernel
theorem d2_103 : decode c2 103 = .ok (.putfield 43, 3) := by decide +kernel
theorem d2_106 : decode c2 106 = .ok (.aload_n 0, 1) := by decide +kernel
theorem d2_107 : decode c2 107 = .ok (.bipush 36, 2) := by decide +kernel
theorem d2_109 : decode c2 109 = .ok (.newarray .int, 2) := by decide +kernel
theorem d2_111 : decode c2 111 = .ok (.putfield 46, 3) := by decide +kernel
theorem d2_114 : decode c2 114 = .ok (.aload_n 0, 1) := by decide +kernel
theorem d2_115 : decode c2 115 = .ok (.bipush 6, 2) := by decide +kernel
theorem d2_117 : decode c2 117 = .ok (.newarray .int, 2) := by decide +kernel
theorem d2_119 : decode c2 119 = .ok (.putfield 49, 3) := by decide +kernel
theorem d2_122 : decode c2 122 = .ok (.aload_n 0, 1) := by decide +kernel
theorem d2_123 : decode c2 123 = .ok (.bipush 6, 2) := by decide +kernel
theorem d2_125 : decode c2 125 = .ok (.newarray .int, 2) := by decide +kernel
theorem d2_127 : decode c2 127 = .ok (.putfield 52, 3) := by decide +kernel
theorem d2_130 : decode c2 130 = .ok (.aload_n 0, 1) := by decide +kernel
theorem d2_131 : decode c2 131 = .ok (.bipush 6, 2) := by decide +kernel
theorem d2_133 : decode c2 133 = .ok (.newarray .int, 2) := by decide +kernel
theorem d2_135 : decode c2 135 = .ok (.putfield 55, 3) := by decide +kernel
theorem d2_138 : decode c2 138 = .ok (.aload_n 0, 1) := by decide +kernel
theorem d2_139 : decode c2 139 = .ok (.bipush 8, 2) := by decide +kernel
theorem d2_141 : decode c2 141 = .ok (.newarray .int, 2) := by decide +kernel
theorem d2_143 : decode c2 143 = .ok (.putfield 58, 3) := by decide +kernel
theorem d2_146 : decode c2 146 = .ok (.aload_n 0, 1) := by decide +kernel
theorem d2_147 : decode c2 147 = .ok (.bipush 8, 2) := by decide +kernel
theorem d2_149 : decode c2 149 = .ok (.newarray .int, 2) := by decide +kernel
theorem d2_151 : decode c2 151 = .ok (.putfield 61, 3) := by decide +kernel
theorem d2_154 : decode c2 154 = .ok (.aload_n 0, 1) := by decide +kernel
theorem d2_155 : decode c2 155 = .ok (.bipush 8, 2) := by decide +kernel
theorem d2_157 : decode c2 157 = .ok (.newarray .int, 2) := by decide +kernel
theorem d2_159 : decode c2 159 = .ok (.putfield 64, 3) := by decide +kernel
theorem d2_162 : decode c2 162 = .ok (.aload_n 0, 1) := by decide +kernel
theorem d2_163 : decode c2 163 = .ok (.bipush 8, 2) := by decide +kernel
theorem d2_165 : decode c2 165 = .ok (.newarray .int, 2) := by decide +kernel
theorem d2_167 : decode c2 167 = .ok (.putfield 67, 3) := by decide +kernel
theorem d2_170 : decode c2 170 = .ok (.aload_n 0, 1) := by decide +kernel
theorem d2_171 : decode c2 171 = .ok (.bipush 8, 2) := by decide +kernel
theorem d2_173 : decode c2 173 = .ok (.newarray .int, 2) := by decide +kernel
theorem d2_175 : decode c2 175 = .ok (.putfield 70, 3) := by decide +kernel
theorem d2_178 : decode c2 178 = .ok (.aload_n 0, 1) := by decide +kernel
theorem d2_179 : decode c2 179 = .ok (.bipush 32, 2) := by decide +kernel
theorem d2_181 : decode c2 181 = .ok (.newarray .int, 2) := by decide +kernel
theorem d2_183 : decode c2 183 = .ok (.putfield 73, 3) := by decide +kernel
theorem d2_186 : decode c2 186 = .ok (.aload_n 0, 1) := by decide +kernel
theorem d2_187 : decode c2 187 = .ok (.bipush 48, 2) := by decide +kernel
theorem d2_189 : decode c2 189 = .ok (.newarray .int, 2) := by decide +kernel
theorem d2_191 : decode c2 191 = .ok (.putfield 76, 3) := by decide +kernel
theorem d2_194 : decode c2 194 = .ok (.aload_n 0, 1) := by decide +kernel
theorem d2_195 : decode c2 195 = .ok (.aload_n 0, 1) := by decide +kernel
theorem d2_196 : decode c2 196 = .ok (.iload_n 1, 1) := by decide +kernel
theorem d2_197 : decode c2 197 = .ok (.iconst 2, 1) := by decide +kernel
theorem d2_198 : decode c2 198 = .ok (.bipush 6, 2) := by decide +kernel
theorem d2_200 : decode c2 200 = .ok (.invokevirtual 79, 3) := by decide +kernel
theorem d2_203 : decode c2 203 = .ok (.putfield 83, 3) := by decide +kernel
theorem d2_206 : decode c2 206 = .ok (.aload_n 0, 1) := by decide +kernel
theorem d2_207 : decode c2 207 = .ok (.aload_n 0, 1) := by decide +kernel
theorem d2_208 : decode c2 208 = .ok (.iload_n 2, 1) := by decide +kernel
theorem d2_209 : decode c2 209 = .ok (.iconst 1, 1) := by decide +kernel
theorem d2_210 : decode c2 210 = .ok (.iconst 4, 1) := by decide +kernel
theorem d2_211 : decode c2 211 = .ok (.invokevirtual 79, 3) := by decide +kernel
theorem d2_214 : decode c2 214 = .ok (.putfield 87, 3) := by decide +kernel
theorem d2_217 : decode c2 217 = .ok (.aload_n 0, 1) := by decide +kernel
theorem d2_218 : decode c2 218 = .ok (.iconst 0, 1) := by decide +kernel
theorem d2_219 : decode c2 219 = .ok (.putfield 90, 3) := by decide +kernel
theorem d2_222 : decode c2 222 = .ok (.aload_n 0, 1) := by decide +kernel
theorem d2_223 : decode c2 223 = .ok (.iconst 0, 1) := by decide +kernel
theorem d2_224 : decode c2 224 = .ok (.putfield 93, 3) := by decide +kernel
theorem d2_227 : decode c2 227 = .ok (.aload_n 0, 1) := by decide +kernel
theorem d2_228 : decode c2 228 = .ok (.invokevirtual 96, 3) := by decide +kernel
theorem d2_231 : decode c2 231 = .ok (.aload_n 0, 1) := by decide +kernel
theorem d2_232 : decode c2 232 = .ok (.invokevirtual 99, 3) := by decide +kernel
theorem d2_235 : decode c2 235 = .ok (.aload_n 0, 1) := by decide +kernel
theorem d2_236 : decode c2 236 = .ok (.invokevirtual 102, 3) := by decide +kernel
theorem d2_239 : decode c2 239 = .ok (.aload_n 0, 1) := by decide +kernel
theorem d2_240 : decode c2 240 = .ok (.invokevirtual 105, 3) := by decide +kernel
theorem d2_243 : decode c2 243 = .ok (.return_, 1) := by decide +kernel
abbrev c16 : ByteArray := prog_1_method_34_code
theorem d16_0 : decode c16 0 = .ok (.iload_n 1, 1) := by decide +kernel
theorem d16_1 : decode c16 1 = .ok (.iconst 1, 1) := by decide +kernel
theorem d16_2 : decode c16 2 = .ok (.if_icmp .lt 10, 3) := by decide +kernel
theorem d16_5 : decode c16 5 = .ok (.iload_n 1, 1) := by decide +kernel
theorem d16_6 : decode c16 6 = .ok (.sipush 240, 3) := by decide +kernel
theorem d16_9 : decode c16 9 = .ok (.if_icmp .le 4, 3) := by decide +kernel
theorem d16_13 : decode c16 13 = .ok (.aload_n 0, 1) := by decide +kernel
theorem d16_14 : decode c16 14 = .ok (.getfield 7, 3) := by decide +kernel
theorem d16_17 : decode c16 17 = .ok (.iload_n 1, 1) := by decide +kernel
theorem d16_18 : decode c16 18 = .ok (.iload_n 3, 1) := by decide +kernel
theorem d16_19 : decode c16 19 = .ok (.iastore, 1) := by decide +kernel
theorem d16_20 : decode c16 20 = .ok (.aload_n 0, 1) := by decide +kernel
theorem d16_21 : decode c16 21 = .ok (.getfield 13, 3) := by decide +kernel
theorem d16_24 : decode c16 24 = .ok (.iload_n 1, 1) := by decide +kernel
theorem d16_25 : decode c16 25 = .ok (.iload_n 3, 1) := by decide +kernel
theorem d16_26 : decode c16 26 = .ok (.iconst 3, 1) := by decide +kernel
theorem d16_27 : decode c16 27 = .ok (.if_icmp .ne 7, 3) := by decide +kernel
theorem d16_34 : decode c16 34 = .ok (.iload 4, 2) := by decide +kernel
theorem d16_30 : decode c16 30 = .ok (.iconst 0, 1) := by decide +kernel
theorem d16_31 : decode c16 31 = .ok (.goto 5, 3) := by decide +kernel
theorem d16_36 : decode c16 36 = .ok (.iastore, 1) := by decide +kernel
theorem d16_37 : decode c16 37 = .ok (.aload_n 0, 1) := by decide +kernel
theorem d16_38 : decode c16 38 = .ok (.getfield 16, 3) := by decide +kernel
theorem d16_41 : decode c16 41 = .ok (.iload_n 1, 1) := by decide +kernel
theorem d16_42 : decode c16 42 = .ok (.iload_n 2, 1) := by decide +kernel
theorem d16_43 : decode c16 43 = .ok (.iastore, 1) := by decide +kernel
theorem d16_44 : decode c16 44 = .ok (.aload_n 0, 1) := by decide +kernel
theorem d16_45 : decode c16 45 = .ok (.getfield 19, 3) := by decide +kernel
theorem d16_48 : decode c16 48 = .ok (.iload_n 1, 1) := by decide +kernel
theorem d16_49 : decode c16 49 = .ok (.iconst 1, 1) := by decide +kernel
theorem d16_50 : decode c16 50 = .ok (.iastore, 1) := by decide +kernel
theorem d16_51 : decode c16 51 = .ok (.aload_n 0, 1) := by decide +kernel
theorem d16_52 : decode c16 52 = .ok (.getfield 22, 3) := by decide +kernel
theorem d16_55 : decode c16 55 = .ok (.iload_n 1, 1) := by decide +kernel
theorem d16_56 : decode c16 56 = .ok (.iconst 0, 1) := by decide +kernel
theorem d16_57 : decode c16 57 = .ok (.iastore, 1) := by decide +kernel
theorem d16_58 : decode c16 58 = .ok (.aload_n 0, 1) := by decide +kernel
theorem d16_59 : decode c16 59 = .ok (.getfield 25, 3) := by decide +kernel
theorem d16_62 : decode c16 62 = .ok (.iload_n 1, 1) := by decide +kernel
theorem d16_63 : decode c16 63 = .ok (.iconst 0, 1) := by decide +kernel
theorem d16_64 : decode c16 64 = .ok (.iastore, 1) := by decide +kernel
theorem d16_65 : decode c16 65 = .ok (.return_, 1) := by decide +kernel
theorem d16_12 : decode c16 12 = .ok (.return_, 1) := by decide +kernel
abbrev c15 : ByteArray := prog_1_method_33_code
theorem d15_0 : decode c15 0 = .ok (.aload_n 0, 1) := by decide +kernel
theorem d15_1 : decode c15 1 = .ok (.getfield 90, 3) := by decide +kernel
theorem d15_4 : decode c15 4 = .ok (.iconst 1, 1) := by decide +kernel
theorem d15_5 : decode c15 5 = .ok (.iadd, 1) := by decide +kernel
theorem d15_6 : decode c15 6 = .ok (.istore 4, 2) := by decide +kernel
theorem d15_8 : decode c15 8 = .ok (.aload_n 0, 1) := by decide +kernel
theorem d15_9 : decode c15 9 = .ok (.iload 4, 2) := by decide +kernel
theorem d15_11 : decode c15 11 = .ok (.putfield 90, 3) := by decide +kernel
theorem d15_14 : decode c15 14 = .ok (.aload_n 0, 1) := by decide +kernel
theorem d15_15 : decode c15 15 = .ok (.iload 4, 2) := by decide +kernel
theorem d15_17 : decode c15 17 = .ok (.iload_n 1, 1) := by decide +kernel
theorem d15_18 : decode c15 18 = .ok (.iload_n 2, 1) := by decide +kernel
theorem d15_19 : decode c15 19 = .ok (.iload_n 3, 1) := by decide +kernel
theorem d15_20 : decode c15 20 = .ok (.invokevirtual 171, 3) := by decide +kernel
theorem d15_23 : decode c15 23 = .ok (.aload_n 0, 1) := by decide +kernel
theorem d15_24 : decode c15 24 = .ok (.getfield 31, 3) := by decide +kernel
theorem d15_27 : decode c15 27 = .ok (.iload_n 1, 1) := by decide +kernel
theorem d15_28 : decode c15 28 = .ok (.iload 4, 2) := by decide +kernel
theorem d15_30 : decode c15 30 = .ok (.iastore, 1) := by decide +kernel
theorem d15_31 : decode c15 31 = .ok (.aload_n 0, 1) := by decide +kernel
theorem d15_32 : decode c15 32 = .ok (.getfield 28, 3) := by decide +kernel
theorem d15_35 : decode c15 35 = .ok (.iload_n 1, 1) := by decide +kernel
theorem d15_36 : decode c15 36 = .ok (.iconst 1, 1) := by decide +kernel
theorem d15_37 : decode c15 37 = .ok (.iastore, 1) := by decide +kernel
theorem d15_38 : decode c15 38 = .ok (.aload_n 0, 1) := by decide +kernel
theorem d15_39 : decode c15 39 = .ok (.getfield 40, 3) := by decide +kernel
theorem d15_42 : decode c15 42 = .ok (.iload_n 1, 1) := by decide +kernel
theorem d15_43 : decode c15 43 = .ok (.iconst 0, 1) := by decide +kernel
theorem d15_44 : decode c15 44 = .ok (.iastore, 1) := by decide +kernel
theorem d15_45 : decode c15 45 = .ok (.aload_n 0, 1) := by decide +kernel
theorem d15_46 : decode c15 46 = .ok (.getfield 34, 3) := by decide +kernel
theorem d15_49 : decode c15 49 = .ok (.iload_n 1, 1) := by decide +kernel
theorem d15_50 : decode c15 50 = .ok (.iconst 0, 1) := by decide +kernel
theorem d15_51 : decode c15 51 = .ok (.iastore, 1) := by decide +kernel
theorem d15_52 : decode c15 52 = .ok (.aload_n 0, 1) := by decide +kernel
theorem d15_53 : decode c15 53 = .ok (.getfield 37, 3) := by decide +kernel
theorem d15_56 : decode c15 56 = .ok (.iload_n 1, 1) := by decide +kernel
theorem d15_57 : decode c15 57 = .ok (.iconst 0, 1) := by decide +kernel
theorem d15_58 : decode c15 58 = .ok (.iastore, 1) := by decide +kernel
theorem d15_59 : decode c15 59 = .ok (.aload_n 0, 1) := by decide +kernel
theorem d15_60 : decode c15 60 = .ok (.getfield 43, 3) := by decide +kernel
theorem d15_63 : decode c15 63 = .ok (.iload_n 1, 1) := by decide +kernel
theorem d15_64 : decode c15 64 = .ok (.iconst 0, 1) := by decide +kernel
theorem d15_65 : decode c15 65 = .ok (.iastore, 1) := by decide +kernel
theorem d15_66 : decode c15 66 = .ok (.aload_n 0, 1) := by decide +kernel
theorem d15_67 : decode c15 67 = .ok (.iload_n 1, 1) := by decide +kernel
theorem d15_68 : decode c15 68 = .ok (.invokevirtual 154, 3) := by decide +kernel
theorem d15_71 : decode c15 71 = .ok (.iload 4, 2) := by decide +kernel
theorem d15_73 : decode c15 73 = .ok (.ireturn, 1) := by decide +kernel
abbrev c17 : ByteArray := prog_1_method_19_code
theorem d17_0 : decode c17 0 = .ok (.iload_n 1, 1) := by decide +kernel
theorem d17_1 : decode c17 1 = .ok (.ifCond .lt 21, 3) := by decide +kernel
theorem d17_4 : decode c17 4 = .ok (.iload_n 1, 1) := by decide +kernel
theorem d17_5 : decode c17 5 = .ok (.aload_n 0, 1) := by decide +kernel
theorem d17_6 : decode c17 6 = .ok (.getfield 83, 3) := by decide +kernel
theorem d17_9 : decode c17 9 = .ok (.if_icmp .ge 13, 3) := by decide +kernel
theorem d17_12 : decode c17 12 = .ok (.iload_n 1, 1) := by decide +kernel
theorem d17_13 : decode c17 13 = .ok (.bipush 6, 2) := by decide +kernel
theorem d17_15 : decode c17 15 = .ok (.if_icmp .ge 7, 3) := by decide +kernel
theorem d17_22 : decode c17 22 = .ok (.iconst 0, 1) := by decide +kernel
theorem d17_18 : decode c17 18 = .ok (.iconst 1, 1) := by decide +kernel
theorem d17_19 : decode c17 19 = .ok (.goto 4, 3) := by decide +kernel
theorem d17_23 : decode c17 23 = .ok (.ireturn, 1) := by decide +kernel
abbrev c18 : ByteArray := prog_1_method_20_code
theorem d18_0 : decode c18 0 = .ok (.iload_n 1, 1) := by decide +kernel
theorem d18_1 : decode c18 1 = .ok (.iconst 1, 1) := by decide +kernel
theorem d18_2 : decode c18 2 = .ok (.if_icmp .eq 13, 3) := by decide +kernel
theorem d18_5 : decode c18 5 = .ok (.iload_n 1, 1) := by decide +kernel
theorem d18_6 : decode c18 6 = .ok (.iconst 2, 1) := by decide +kernel
theorem d18_7 : decode c18 7 = .ok (.if_icmp .eq 8, 3) := by decide +kernel
theorem d18_10 : decode c18 10 = .ok (.iload_n 1, 1) := by decide +kernel
theorem d18_11 : decode c18 11 = .ok (.iconst 3, 1) := by decide +kernel
theorem d18_12 : decode c18 12 = .ok (.if_icmp .ne 7, 3) := by decide +kernel
theorem d18_19 : decode c18 19 = .ok (.iconst 0, 1) := by decide +kernel
theorem d18_15 : decode c18 15 = .ok (.iconst 1, 1) := by decide +kernel
theorem d18_16 : decode c18 16 = .ok (.goto 4, 3) := by decide +kernel
theorem d18_20 : decode c18 20 = .ok (.ireturn, 1) := by decide +kernel
abbrev c19 : ByteArray := prog_1_method_21_code
theorem d19_0 : decode c19 0 = .ok (.iload_n 1, 1) := by decide +kernel
theorem d19_1 : decode c19 1 = .ok (.ifCond .lt 14, 3) := by decide +kernel
theorem d19_4 : decode c19 4 = .ok (.iload_n 1, 1) := by decide +kernel
theorem d19_5 : decode c19 5 = .ok (.sipush 32767, 3) := by decide +kernel
theorem d19_8 : decode c19 8 = .ok (.if_icmp .gt 7, 3) := by decide +kernel
theorem d19_15 : decode c19 15 = .ok (.iconst 0, 1) := by decide +kernel
theorem d19_11 : decode c19 11 = .ok (.iconst 1, 1) := by decide +kernel
theorem d19_12 : decode c19 12 = .ok (.goto 4, 3) := by decide +kernel
theorem d19_16 : decode c19 16 = .ok (.ireturn, 1) := by decide +kernel
abbrev c14 : ByteArray := prog_1_method_2_code
theorem d14_0 : decode c14 0 = .ok (.aload_n 0, 1) := by decide +kernel
theorem d14_1 : decode c14 1 = .ok (.iload_n 1, 1) := by decide +kernel
theorem d14_2 : decode c14 2 = .ok (.invokevirtual 108, 3) := by decide +kernel
theorem d14_5 : decode c14 5 = .ok (.ifCond .ne 5, 3) := by decide +kernel
theorem d14_10 : decode c14 10 = .ok (.aload_n 0, 1) := by decide +kernel
theorem d14_11 : decode c14 11 = .ok (.getfield 28, 3) := by decide +kernel
theorem d14_14 : decode c14 14 = .ok (.iload_n 1, 1) := by decide +kernel
theorem d14_15 : decode c14 15 = .ok (.iaload, 1) := by decide +kernel
theorem d14_16 : decode c14 16 = .ok (.ifCond .eq 6, 3) := by decide +kernel
theorem d14_22 : decode c14 22 = .ok (.aload_n 0, 1) := by decide +kernel
theorem d14_23 : decode c14 23 = .ok (.iload_n 2, 1) := by decide +kernel
theorem d14_24 : decode c14 24 = .ok (.invokevirtual 112, 3) := by decide +kernel
theorem d14_27 : decode c14 27 = .ok (.ifCond .ne 6, 3) := by decide +kernel
theorem d14_33 : decode c14 33 = .ok (.iload_n 2, 1) := by decide +kernel
theorem d14_34 : decode c14 34 = .ok (.iconst 2, 1) := by decide +kernel
theorem d14_35 : decode c14 35 = .ok (.if_icmp .ne 14, 3) := by decide +kernel
theorem d14_38 : decode c14 38 = .ok (.aload_n 0, 1) := by decide +kernel
theorem d14_39 : decode c14 39 = .ok (.iload_n 3, 1) := by decide +kernel
theorem d14_40 : decode c14 40 = .ok (.invokevirtual 115, 3) := by decide +kernel
theorem d14_43 : decode c14 43 = .ok (.ifCond .ne 6, 3) := by decide +kernel
theorem d14_49 : decode c14 49 = .ok (.aload_n 0, 1) := by decide +kernel
theorem d14_50 : decode c14 50 = .ok (.getfield 90, 3) := by decide +kernel
theorem d14_53 : decode c14 53 = .ok (.sipush 240, 3) := by decide +kernel
theorem d14_56 : decode c14 56 = .ok (.if_icmp .lt 6, 3) := by decide +kernel
theorem d14_62 : decode c14 62 = .ok (.aload_n 0, 1) := by decide +kernel
theorem d14_63 : decode c14 63 = .ok (.iload_n 1, 1) := by decide +kernel
theorem d14_64 : decode c14 64 = .ok (.iload_n 2, 1) := by decide +kernel
theorem d14_65 : decode c14 65 = .ok (.iload_n 3, 1) := by decide +kernel
theorem d14_66 : decode c14 66 = .ok (.invokevirtual 118, 3) := by decide +kernel
theorem d14_69 : decode c14 69 = .ok (.ireturn, 1) := by decide +kernel
theorem d14_59 : decode c14 59 = .ok (.bipush (-5), 2) := by decide +kernel
theorem d14_61 : decode c14 61 = .ok (.ireturn, 1) := by decide +kernel
theorem d14_46 : decode c14 46 = .ok (.bipush (-4), 2) := by decide +kernel
theorem d14_48 : decode c14 48 = .ok (.ireturn, 1) := by decide +kernel
theorem d14_30 : decode c14 30 = .ok (.bipush (-3), 2) := by decide +kernel
theorem d14_32 : decode c14 32 = .ok (.ireturn, 1) := by decide +kernel
theorem d14_19 : decode c14 19 = .ok (.bipush (-2), 2) := by decide +kernel
theorem d14_21 : decode c14 21 = .ok (.ireturn, 1) := by decide +kernel
theorem d14_8 : decode c14 8 = .ok (.iconst (-1), 1) := by decide +kernel
theorem d14_9 : decode c14 9 = .ok (.ireturn, 1) := by decide +kernel
abbrev c24 : ByteArray := prog_1_method_22_code
theorem d24_0 : decode c24 0 = .ok (.iload_n 1, 1) := by decide +kernel
theorem d24_1 : decode c24 1 = .ok (.iconst 1, 1) := by decide +kernel
theorem d24_2 : decode c24 2 = .ok (.if_icmp .lt 22, 3) := by decide +kernel
theorem d24_5 : decode c24 5 = .ok (.iload_n 1, 1) := by decide +kernel
theorem d24_6 : decode c24 6 = .ok (.aload_n 0, 1) := by decide +kernel
theorem d24_7 : decode c24 7 = .ok (.getfield 90, 3) := by decide +kernel
theorem d24_10 : decode c24 10 = .ok (.if_icmp .gt 14, 3) := by decide +kernel
theorem d24_13 : decode c24 13 = .ok (.iload_n 1, 1) := by decide +kernel
theorem d24_14 : decode c24 14 = .ok (.sipush 240, 3) := by decide +kernel
theorem d24_17 : decode c24 17 = .ok (.if_icmp .gt 7, 3) := by decide +kernel
theorem d24_24 : decode c24 24 = .ok (.iconst 0, 1) := by decide +kernel
theorem d24_20 : decode c24 20 = .ok (.iconst 1, 1) := by decide +kernel
theorem d24_21 : decode c24 21 = .ok (.goto 4, 3) := by decide +kernel
theorem d24_25 : decode c24 25 = .ok (.ireturn, 1) := by decide +kernel
abbrev c23 : ByteArray := prog_1_method_35_code
theorem d23_0 : decode c23 0 = .ok (.aload_n 0, 1) := by decide +kernel
theorem d23_1 : decode c23 1 = .ok (.iload_n 1, 1) := by decide +kernel
theorem d23_2 : decode c23 2 = .ok (.invokevirtual 146, 3) := by decide +kernel
theorem d23_5 : decode c23 5 = .ok (.ifCond .ne 5, 3) := by decide +kernel
theorem d23_10 : decode c23 10 = .ok (.aload_n 0, 1) := by decide +kernel
theorem d23_11 : decode c23 11 = .ok (.getfield 7, 3) := by decide +kernel
theorem d23_14 : decode c23 14 = .ok (.iload_n 1, 1) := by decide +kernel
theorem d23_15 : decode c23 15 = .ok (.iaload, 1) := by decide +kernel
theorem d23_16 : decode c23 16 = .ok (.ireturn, 1) := by decide +kernel
theorem d23_8 : decode c23 8 = .ok (.iconst 0, 1) := by decide +kernel
theorem d23_9 : decode c23 9 = .ok (.ireturn, 1) := by decide +kernel
abbrev c25 : ByteArray := prog_1_method_36_code
theorem d25_0 : decode c25 0 = .ok (.aload_n 0, 1) := by decide +kernel
theorem d25_1 : decode c25 1 = .ok (.iload_n 1, 1) := by decide +kernel
theorem d25_2 : decode c25 2 = .ok (.invokevirtual 146, 3) := by decide +kernel
theorem d25_5 : decode c25 5 = .ok (.ifCond .ne 5, 3) := by decide +kernel
theorem d25_10 : decode c25 10 = .ok (.aload_n 0, 1) := by decide +kernel
theorem d25_11 : decode c25 11 = .ok (.getfield 13, 3) := by decide +kernel
theorem d25_14 : decode c25 14 = .ok (.iload_n 1, 1) := by decide +kernel
theorem d25_15 : decode c25 15 = .ok (.iaload, 1) := by decide +kernel
theorem d25_16 : decode c25 16 = .ok (.ireturn, 1) := by decide +kernel
theorem d25_8 : decode c25 8 = .ok (.iconst 0, 1) := by decide +kernel
theorem d25_9 : decode c25 9 = .ok (.ireturn, 1) := by decide +kernel
abbrev c22 : ByteArray := prog_1_method_38_code
theorem d22_0 : decode c22 0 = .ok (.aload_n 0, 1) := by decide +kernel
theorem d22_1 : decode c22 1 = .ok (.getfield 31, 3) := by decide +kernel
theorem d22_4 : decode c22 4 = .ok (.iload_n 1, 1) := by decide +kernel
theorem d22_5 : decode c22 5 = .ok (.iaload, 1) := by decide +kernel
theorem d22_6 : decode c22 6 = .ok (.istore_n 2, 1) := by decide +kernel
theorem d22_7 : decode c22 7 = .ok (.aload_n 0, 1) := by decide +kernel
theorem d22_8 : decode c22 8 = .ok (.getfield 49, 3) := by decide +kernel
theorem d22_11 : decode c22 11 = .ok (.iload_n 1, 1) := by decide +kernel
theorem d22_12 : decode c22 12 = .ok (.iload_n 2, 1) := by decide +kernel
theorem d22_13 : decode c22 13 = .ok (.iastore, 1) := by decide +kernel
theorem d22_14 : decode c22 14 = .ok (.aload_n 0, 1) := by decide +kernel
theorem d22_15 : decode c22 15 = .ok (.getfield 52, 3) := by decide +kernel
theorem d22_18 : decode c22 18 = .ok (.iload_n 1, 1) := by decide +kernel
theorem d22_19 : decode c22 19 = .ok (.aload_n 0, 1) := by decide +kernel
theorem d22_20 : decode c22 20 = .ok (.iload_n 2, 1) := by decide +kernel
theorem d22_21 : decode c22 21 = .ok (.invokevirtual 190, 3) := by decide +kernel
theorem d22_24 : decode c22 24 = .ok (.iastore, 1) := by decide +kernel
theorem d22_25 : decode c22 25 = .ok (.aload_n 0, 1) := by decide +kernel
theorem d22_26 : decode c22 26 = .ok (.getfield 55, 3) := by decide +kernel
theorem d22_29 : decode c22 29 = .ok (.iload_n 1, 1) := by decide +kernel
theorem d22_30 : decode c22 30 = .ok (.aload_n 0, 1) := by decide +kernel
theorem d22_31 : decode c22 31 = .ok (.iload_n 2, 1) := by decide +kernel
theorem d22_32 : decode c22 32 = .ok (.invokevirtual 193, 3) := by decide +kernel
theorem d22_35 : decode c22 35 = .ok (.iastore, 1) := by decide +kernel
theorem d22_36 : decode c22 36 = .ok (.aload_n 0, 1) := by decide +kernel
theorem d22_37 : decode c22 37 = .ok (.getfield 28, 3) := by decide +kernel
theorem d22_40 : decode c22 40 = .ok (.iload_n 1, 1) := by decide +kernel
theorem d22_41 : decode c22 41 = .ok (.iconst 2, 1) := by decide +kernel
theorem d22_42 : decode c22 42 = .ok (.iastore, 1) := by decide +kernel
theorem d22_43 : decode c22 43 = .ok (.iconst 1, 1) := by decide +kernel
theorem d22_44 : decode c22 44 = .ok (.ireturn, 1) := by decide +kernel
abbrev c26 : ByteArray := prog_1_method_39_code
theorem d26_0 : decode c26 0 = .ok (.aload_n 0, 1) := by decide +kernel
theorem d26_1 : decode c26 1 = .ok (.getfield 34, 3) := by decide +kernel
theorem d26_4 : decode c26 4 = .ok (.iload_n 1, 1) := by decide +kernel
theorem d26_5 : decode c26 5 = .ok (.aload_n 0, 1) := by decide +kernel
theorem d26_6 : decode c26 6 = .ok (.getfield 93, 3) := by decide +kernel
theorem d26_9 : decode c26 9 = .ok (.iastore, 1) := by decide +kernel
theorem d26_10 : decode c26 10 = .ok (.aload_n 0, 1) := by decide +kernel
theorem d26_11 : decode c26 11 = .ok (.getfield 28, 3) := by decide +kernel
theorem d26_14 : decode c26 14 = .ok (.iload_n 1, 1) := by decide +kernel
theorem d26_15 : decode c26 15 = .ok (.iconst 3, 1) := by decide +kernel
theorem d26_16 : decode c26 16 = .ok (.iastore, 1) := by decide +kernel
theorem d26_17 : decode c26 17 = .ok (.iconst 2, 1) := by decide +kernel
theorem d26_18 : decode c26 18 = .ok (.ireturn, 1) := by decide +kernel
abbrev c30 : ByteArray := prog_1_method_53_code
theorem d30_0 : decode c30 0 = .ok (.iload_n 1, 1) := by decide +kernel
theorem d30_1 : decode c30 1 = .ok (.bipush 7, 2) := by decide +kernel
theorem d30_3 : decode c30 3 = .ok (.iand, 1) := by decide +kernel
theorem d30_4 : decode c30 4 = .ok (.ireturn, 1) := by decide +kernel
abbrev c29 : ByteArray := prog_1_method_55_code
theorem d29_0 : decode c29 0 = .ok (.iload_n 1, 1) := by decide +kernel
theorem d29_1 : decode c29 1 = .ok (.ifCond .lt 11, 3) := by decide +kernel
theorem d29_4 : decode c29 4 = .ok (.iload_n 1, 1) := by decide +kernel
theorem d29_5 : decode c29 5 = .ok (.aload_n 0, 1) := by decide +kernel
theorem d29_6 : decode c29 6 = .ok (.getfield 93, 3) := by decide +kernel
theorem d29_9 : decode c29 9 = .ok (.if_icmp .le 5, 3) := by decide +kernel
theorem d29_14 : decode c29 14 = .ok (.aload_n 0, 1) := by decide +kernel
theorem d29_15 : decode c29 15 = .ok (.getfield 58, 3) := by decide +kernel
theorem d29_18 : decode c29 18 = .ok (.aload_n 0, 1) := by decide +kernel
theorem d29_19 : decode c29 19 = .ok (.iload_n 1, 1) := by decide +kernel
theorem d29_20 : decode c29 20 = .ok (.invokevirtual 224, 3) := by decide +kernel
theorem d29_23 : decode c29 23 = .ok (.iaload, 1) := by decide +kernel
theorem d29_24 : decode c29 24 = .ok (.iload_n 1, 1) := by decide +kernel
theorem d29_25 : decode c29 25 = .ok (.if_icmp .ne 7, 3) := by decide +kernel
theorem d29_32 : decode c29 32 = .ok (.iconst 0, 1) := by decide +kernel
theorem d29_28 : decode c29 28 = .ok (.iconst 1, 1) := by decide +kernel
theorem d29_29 : decode c29 29 = .ok (.goto 4, 3) := by decide +kernel
theorem d29_33 : decode c29 33 = .ok (.ireturn, 1) := by decide +kernel
theorem d29_12 : decode c29 12 = .ok (.iconst 0, 1) := by decide +kernel
theorem d29_13 : decode c29 13 = .ok (.ireturn, 1) := by decide +kernel
abbrev c32 : ByteArray := prog_1_method_58_code
theorem d32_0 : decode c32 0 = .ok (.iload_n 1, 1) := by decide +kernel
theorem d32_1 : decode c32 1 = .ok (.ifCond .lt 19, 3) := by decide +kernel
theorem d32_4 : decode c32 4 = .ok (.iload_n 1, 1) := by decide +kernel
theorem d32_5 : decode c32 5 = .ok (.bipush 8, 2) := by decide +kernel
theorem d32_7 : decode c32 7 = .ok (.if_icmp .ge 13, 3) := by decide +kernel
theorem d32_10 : decode c32 10 = .ok (.iload_n 2, 1) := by decide +kernel
theorem d32_11 : decode c32 11 = .ok (.ifCond .lt 9, 3) := by decide +kernel
theorem d32_14 : decode c32 14 = .ok (.iload_n 2, 1) := by decide +kernel
theorem d32_15 : decode c32 15 = .ok (.bipush 6, 2) := by decide +kernel
theorem d32_17 : decode c32 17 = .ok (.if_icmp .lt 5, 3) := by decide +kernel
theorem d32_22 : decode c32 22 = .ok (.aload_n 0, 1) := by decide +kernel
theorem d32_23 : decode c32 23 = .ok (.getfield 76, 3) := by decide +kernel
theorem d32_26 : decode c32 26 = .ok (.iload_n 1, 1) := by decide +kernel
theorem d32_27 : decode c32 27 = .ok (.bipush 6, 2) := by decide +kernel
theorem d32_29 : decode c32 29 = .ok (.imul, 1) := by decide +kernel
theorem d32_30 : decode c32 30 = .ok (.iload_n 2, 1) := by decide +kernel
theorem d32_31 : decode c32 31 = .ok (.iadd, 1) := by decide +kernel
theorem d32_32 : decode c32 32 = .ok (.iaload, 1) := by decide +kernel
theorem d32_33 : decode c32 33 = .ok (.ireturn, 1) := by decide +kernel
theorem d32_20 : decode c32 20 = .ok (.iconst 0, 1) := by decide +kernel
theorem d32_21 : decode c32 21 = .ok (.ireturn, 1) := by decide +kernel
abbrev c31 : ByteArray := prog_1_method_51_code
theorem d31_0 : decode c31 0 = .ok (.iconst 0, 1) := by decide +kernel
theorem d31_1 : decode c31 1 = .ok (.istore_n 3, 1) := by decide +kernel
theorem d31_2 : decode c31 2 = .ok (.iload_n 3, 1) := by decide +kernel
theorem d31_3 : decode c31 3 = .ok (.bipush 6, 2) := by decide +kernel
theorem d31_5 : decode c31 5 = .ok (.if_icmp .ge 25, 3) := by decide +kernel
theorem d31_30 : decode c31 30 = .ok (.return_, 1) := by decide +kernel
theorem d31_8 : decode c31 8 = .ok (.aload_n 0, 1) := by decide +kernel
theorem d31_9 : decode c31 9 = .ok (.iload_n 2, 1) := by decide +kernel
theorem d31_10 : decode c31 10 = .ok (.iload_n 3, 1) := by decide +kernel
theorem d31_11 : decode c31 11 = .ok (.invokevirtual 233, 3) := by decide +kernel
theorem d31_14 : decode c31 14 = .ok (.istore 4, 2) := by decide +kernel
theorem d31_16 : decode c31 16 = .ok (.aload_n 0, 1) := by decide +kernel
theorem d31_17 : decode c31 17 = .ok (.iload_n 1, 1) := by decide +kernel
theorem d31_18 : decode c31 18 = .ok (.iload_n 3, 1) := by decide +kernel
theorem d31_19 : decode c31 19 = .ok (.iload 4, 2) := by decide +kernel
theorem d31_21 : decode c31 21 = .ok (.invokevirtual 218, 3) := by decide +kernel
theorem d31_24 : decode c31 24 = .ok (.iinc 3 1, 3) := by decide +kernel
theorem d31_27 : decode c31 27 = .ok (.goto (-25), 3) := by decide +kernel
abbrev c28 : ByteArray := prog_1_method_50_code
theorem d28_0 : decode c28 0 = .ok (.aload_n 0, 1) := by decide +kernel
theorem d28_1 : decode c28 1 = .ok (.iload_n 2, 1) := by decide +kernel
theorem d28_2 : decode c28 2 = .ok (.invokevirtual 221, 3) := by decide +kernel
theorem d28_5 : decode c28 5 = .ok (.ifCond .eq 16, 3) := by decide +kernel
theorem d28_21 : decode c28 21 = .ok (.aload_n 0, 1) := by decide +kernel
theorem d28_22 : decode c28 22 = .ok (.iload_n 1, 1) := by decide +kernel
theorem d28_23 : decode c28 23 = .ok (.iload_n 2, 1) := by decide +kernel
theorem d28_24 : decode c28 24 = .ok (.invokevirtual 230, 3) := by decide +kernel
theorem d28_8 : decode c28 8 = .ok (.aload_n 0, 1) := by decide +kernel
theorem d28_9 : decode c28 9 = .ok (.iload_n 1, 1) := by decide +kernel
theorem d28_10 : decode c28 10 = .ok (.aload_n 0, 1) := by decide +kernel
theorem d28_11 : decode c28 11 = .ok (.iload_n 2, 1) := by decide +kernel
theorem d28_12 : decode c28 12 = .ok (.invokevirtual 224, 3) := by decide +kernel
theorem d28_15 : decode c28 15 = .ok (.invokevirtual 227, 3) := by decide +kernel
theorem d28_18 : decode c28 18 = .ok (.goto 9, 3) := by decide +kernel
theorem d28_27 : decode c28 27 = .ok (.return_, 1) := by decide +kernel
abbrev c34 : ByteArray := prog_1_method_46_code
theorem d34_0 : decode c34 0 = .ok (.iload_n 1, 1) := by decide +kernel
theorem d34_1 : decode c34 1 = .ok (.ifCond .lt 19, 3) := by decide +kernel
theorem d34_4 : decode c34 4 = .ok (.iload_n 1, 1) := by decide +kernel
theorem d34_5 : decode c34 5 = .ok (.bipush 6, 2) := by decide +kernel
theorem d34_7 : decode c34 7 = .ok (.if_icmp .ge 13, 3) := by decide +kernel
theorem d34_10 : decode c34 10 = .ok (.iload_n 2, 1) := by decide +kernel
theorem d34_11 : decode c34 11 = .ok (.ifCond .lt 9, 3) := by decide +kernel
theorem d34_14 : decode c34 14 = .ok (.iload_n 2, 1) := by decide +kernel
theorem d34_15 : decode c34 15 = .ok (.bipush 6, 2) := by decide +kernel
theorem d34_17 : decode c34 17 = .ok (.if_icmp .lt 5, 3) := by decide +kernel
theorem d34_22 : decode c34 22 = .ok (.aload_n 0, 1) := by decide +kernel
theorem d34_23 : decode c34 23 = .ok (.getfield 46, 3) := by decide +kernel
theorem d34_26 : decode c34 26 = .ok (.iload_n 1, 1) := by decide +kernel
theorem d34_27 : decode c34 27 = .ok (.bipush 6, 2) := by decide +kernel
theorem d34_29 : decode c34 29 = .ok (.imul, 1) := by decide +kernel
theorem d34_30 : decode c34 30 = .ok (.iload_n 2, 1) := by decide +kernel
theorem d34_31 : decode c34 31 = .ok (.iadd, 1) := by decide +kernel
theorem d34_32 : decode c34 32 = .ok (.iaload, 1) := by decide +kernel
theorem d34_33 : decode c34 33 = .ok (.ireturn, 1) := by decide +kernel
theorem d34_20 : decode c34 20 = .ok (.iconst 0, 1) := by decide +kernel
theorem d34_21 : decode c34 21 = .ok (.ireturn, 1) := by decide +kernel
abbrev c33 : ByteArray := prog_1_method_49_code
theorem d33_0 : decode c33 0 = .ok (.aload_n 0, 1) := by decide +kernel
theorem d33_1 : decode c33 1 = .ok (.getfield 31, 3) := by decide +kernel
theorem d33_4 : decode c33 4 = .ok (.iload_n 1, 1) := by decide +kernel
theorem d33_5 : decode c33 5 = .ok (.iaload, 1) := by decide +kernel
theorem d33_6 : decode c33 6 = .ok (.istore_n 2, 1) := by decide +kernel
theorem d33_7 : decode c33 7 = .ok (.iload_n 2, 1) := by decide +kernel
theorem d33_8 : decode c33 8 = .ok (.ifCond .gt 5, 3) := by decide +kernel
theorem d33_13 : decode c33 13 = .ok (.aload_n 0, 1) := by decide +kernel
theorem d33_14 : decode c33 14 = .ok (.iload_n 1, 1) := by decide +kernel
theorem d33_15 : decode c33 15 = .ok (.iload_n 1, 1) := by decide +kernel
theorem d33_16 : decode c33 16 = .ok (.invokevirtual 209, 3) := by decide +kernel
theorem d33_19 : decode c33 19 = .ok (.iload_n 2, 1) := by decide +kernel
theorem d33_20 : decode c33 20 = .ok (.if_icmp .ne 7, 3) := by decide +kernel
theorem d33_27 : decode c33 27 = .ok (.iconst 0, 1) := by decide +kernel
theorem d33_23 : decode c33 23 = .ok (.iconst 1, 1) := by decide +kernel
theorem d33_24 : decode c33 24 = .ok (.goto 4, 3) := by decide +kernel
theorem d33_28 : decode c33 28 = .ok (.ireturn, 1) := by decide +kernel
theorem d33_11 : decode c33 11 = .ok (.iconst 0, 1) := by decide +kernel
theorem d33_12 : decode c33 12 = .ok (.ireturn, 1) := by decide +kernel
abbrev c35 : ByteArray := prog_1_method_43_code
theorem d35_0 : decode c35 0 = .ok (.aload_n 0, 1) := by decide +kernel
theorem d35_1 : decode c35 1 = .ok (.getfield 31, 3) := by decide +kernel
theorem d35_4 : decode c35 4 = .ok (.iload_n 1, 1) := by decide +kernel
theorem d35_5 : decode c35 5 = .ok (.iaload, 1) := by decide +kernel
theorem d35_6 : decode c35 6 = .ok (.istore_n 2, 1) := by decide +kernel
theorem d35_7 : decode c35 7 = .ok (.aload_n 0, 1) := by decide +kernel
theorem d35_8 : decode c35 8 = .ok (.iload_n 2, 1) := by decide +kernel
theorem d35_9 : decode c35 9 = .ok (.invokevirtual 146, 3) := by decide +kernel
theorem d35_12 : decode c35 12 = .ok (.ifCond .eq 10, 3) := by decide +kernel
theorem d35_15 : decode c35 15 = .ok (.aload_n 0, 1) := by decide +kernel
theorem d35_16 : decode c35 16 = .ok (.getfield 19, 3) := by decide +kernel
theorem d35_19 : decode c35 19 = .ok (.iload_n 2, 1) := by decide +kernel
theorem d35_20 : decode c35 20 = .ok (.iconst 3, 1) := by decide +kernel
theorem d35_21 : decode c35 21 = .ok (.iastore, 1) := by decide +kernel
theorem d35_22 : decode c35 22 = .ok (.aload_n 0, 1) := by decide +kernel
theorem d35_23 : decode c35 23 = .ok (.getfield 28, 3) := by decide +kernel
theorem d35_26 : decode c35 26 = .ok (.iload_n 1, 1) := by decide +kernel
theorem d35_27 : decode c35 27 = .ok (.iconst 0, 1) := by decide +kernel
theorem d35_28 : decode c35 28 = .ok (.iastore, 1) := by decide +kernel
theorem d35_29 : decode c35 29 = .ok (.return_, 1) := by decide +kernel
abbrev c27 : ByteArray := prog_1_method_40_code
theorem d27_0 : decode c27 0 = .ok (.aload_n 0, 1) := by decide +kernel
theorem d27_1 : decode c27 1 = .ok (.getfield 34, 3) := by decide +kernel
theorem d27_4 : decode c27 4 = .ok (.iload_n 1, 1) := by decide +kernel
theorem d27_5 : decode c27 5 = .ok (.iaload, 1) := by decide +kernel
theorem d27_6 : decode c27 6 = .ok (.istore_n 2, 1) := by decide +kernel
theorem d27_7 : decode c27 7 = .ok (.aload_n 0, 1) := by decide +kernel
theorem d27_8 : decode c27 8 = .ok (.iload_n 1, 1) := by decide +kernel
theorem d27_9 : decode c27 9 = .ok (.iload_n 2, 1) := by decide +kernel
theorem d27_10 : decode c27 10 = .ok (.invokevirtual 196, 3) := by decide +kernel
theorem d27_13 : decode c27 13 = .ok (.aload_n 0, 1) := by decide +kernel
theorem d27_14 : decode c27 14 = .ok (.iload_n 1, 1) := by decide +kernel
theorem d27_15 : decode c27 15 = .ok (.invokevirtual 200, 3) := by decide +kernel
theorem d27_18 : decode c27 18 = .ok (.ifCond .eq 10, 3) := by decide +kernel
theorem d27_28 : decode c27 28 = .ok (.aload_n 0, 1) := by decide +kernel
theorem d27_29 : decode c27 29 = .ok (.getfield 28, 3) := by decide +kernel
theorem d27_32 : decode c27 32 = .ok (.iload_n 1, 1) := by decide +kernel
theorem d27_33 : decode c27 33 = .ok (.iconst 4, 1) := by decide +kernel
theorem d27_34 : decode c27 34 = .ok (.iastore, 1) := by decide +kernel
theorem d27_35 : decode c27 35 = .ok (.iconst 3, 1) := by decide +kernel
theorem d27_36 : decode c27 36 = .ok (.ireturn, 1) := by decide +kernel
theorem d27_21 : decode c27 21 = .ok (.aload_n 0, 1) := by decide +kernel
theorem d27_22 : decode c27 22 = .ok (.iload_n 1, 1) := by decide +kernel
theorem d27_23 : decode c27 23 = .ok (.invokevirtual 203, 3) := by decide +kernel
theorem d27_26 : decode c27 26 = .ok (.iconst 4, 1) := by decide +kernel
theorem d27_27 : decode c27 27 = .ok (.ireturn, 1) := by decide +kernel
abbrev c37 : ByteArray := prog_1_method_44_code
theorem d37_0 : decode c37 0 = .ok (.iload_n 1, 1) := by decide +kernel
theorem d37_1 : decode c37 1 = .ok (.aload_n 0, 1) := by decide +kernel
theorem d37_2 : decode c37 2 = .ok (.getfield 83, 3) := by decide +kernel
theorem d37_5 : decode c37 5 = .ok (.irem, 1) := by decide +kernel
theorem d37_6 : decode c37 6 = .ok (.istore_n 2, 1) := by decide +kernel
theorem d37_7 : decode c37 7 = .ok (.iload_n 2, 1) := by decide +kernel
theorem d37_8 : decode c37 8 = .ok (.ifCond .ge 10, 3) := by decide +kernel
theorem d37_11 : decode c37 11 = .ok (.iload_n 2, 1) := by decide +kernel
theorem d37_12 : decode c37 12 = .ok (.aload_n 0, 1) := by decide +kernel
theorem d37_13 : decode c37 13 = .ok (.getfield 83, 3) := by decide +kernel
theorem d37_16 : decode c37 16 = .ok (.iadd, 1) := by decide +kernel
theorem d37_17 : decode c37 17 = .ok (.istore_n 2, 1) := by decide +kernel
theorem d37_18 : decode c37 18 = .ok (.iload_n 2, 1) := by decide +kernel
theorem d37_19 : decode c37 19 = .ok (.iconst 1, 1) := by decide +kernel
theorem d37_20 : decode c37 20 = .ok (.iadd, 1) := by decide +kernel
theorem d37_21 : decode c37 21 = .ok (.istore_n 2, 1) := by decide +kernel
theorem d37_22 : decode c37 22 = .ok (.iload_n 2, 1) := by decide +kernel
theorem d37_23 : decode c37 23 = .ok (.aload_n 0, 1) := by decide +kernel
theorem d37_24 : decode c37 24 = .ok (.getfield 83, 3) := by decide +kernel
theorem d37_27 : decode c37 27 = .ok (.if_icmp .lt 10, 3) := by decide +kernel
theorem d37_30 : decode c37 30 = .ok (.iload_n 2, 1) := by decide +kernel
theorem d37_31 : decode c37 31 = .ok (.aload_n 0, 1) := by decide +kernel
theorem d37_32 : decode c37 32 = .ok (.getfield 83, 3) := by decide +kernel
theorem d37_35 : decode c37 35 = .ok (.isub, 1) := by decide +kernel
theorem d37_36 : decode c37 36 = .ok (.istore_n 2, 1) := by decide +kernel
theorem d37_37 : decode c37 37 = .ok (.iload_n 2, 1) := by decide +kernel
theorem d37_38 : decode c37 38 = .ok (.ifCond .lt 9, 3) := by decide +kernel
theorem d37_41 : decode c37 41 = .ok (.iload_n 2, 1) := by decide +kernel
theorem d37_42 : decode c37 42 = .ok (.bipush 6, 2) := by decide +kernel
theorem d37_44 : decode c37 44 = .ok (.if_icmp .lt 5, 3) := by decide +kernel
theorem d37_49 : decode c37 49 = .ok (.iload_n 2, 1) := by decide +kernel
theorem d37_50 : decode c37 50 = .ok (.ireturn, 1) := by decide +kernel
theorem d37_47 : decode c37 47 = .ok (.iconst 0, 1) := by decide +kernel
theorem d37_48 : decode c37 48 = .ok (.ireturn, 1) := by decide +kernel
abbrev c36 : ByteArray := prog_1_method_41_code
theorem d36_0 : decode c36 0 = .ok (.aload_n 0, 1) := by decide +kernel
theorem d36_1 : decode c36 1 = .ok (.getfield 34, 3) := by decide +kernel
theorem d36_4 : decode c36 4 = .ok (.iload_n 1, 1) := by decide +kernel
theorem d36_5 : decode c36 5 = .ok (.iaload, 1) := by decide +kernel
theorem d36_6 : decode c36 6 = .ok (.istore_n 2, 1) := by decide +kernel
theorem d36_7 : decode c36 7 = .ok (.aload_n 0, 1) := by decide +kernel
theorem d36_8 : decode c36 8 = .ok (.iload_n 2, 1) := by decide +kernel
theorem d36_9 : decode c36 9 = .ok (.invokevirtual 206, 3) := by decide +kernel
theorem d36_12 : decode c36 12 = .ok (.istore_n 3, 1) := by decide +kernel
theorem d36_13 : decode c36 13 = .ok (.aload_n 0, 1) := by decide +kernel
theorem d36_14 : decode c36 14 = .ok (.getfield 43, 3) := by decide +kernel
theorem d36_17 : decode c36 17 = .ok (.iload_n 1, 1) := by decide +kernel
theorem d36_18 : decode c36 18 = .ok (.iload_n 3, 1) := by decide +kernel
theorem d36_19 : decode c36 19 = .ok (.iastore, 1) := by decide +kernel
theorem d36_20 : decode c36 20 = .ok (.aload_n 0, 1) := by decide +kernel
theorem d36_21 : decode c36 21 = .ok (.getfield 49, 3) := by decide +kernel
theorem d36_24 : decode c36 24 = .ok (.iload_n 3, 1) := by decide +kernel
theorem d36_25 : decode c36 25 = .ok (.iaload, 1) := by decide +kernel
theorem d36_26 : decode c36 26 = .ok (.istore 4, 2) := by decide +kernel
theorem d36_28 : decode c36 28 = .ok (.aload_n 0, 1) := by decide +kernel
theorem d36_29 : decode c36 29 = .ok (.iload_n 1, 1) := by decide +kernel
theorem d36_30 : decode c36 30 = .ok (.iload_n 3, 1) := by decide +kernel
theorem d36_31 : decode c36 31 = .ok (.invokevirtual 209, 3) := by decide +kernel
theorem d36_34 : decode c36 34 = .ok (.istore 5, 2) := by decide +kernel
theorem d36_36 : decode c36 36 = .ok (.iload 4, 2) := by decide +kernel
theorem d36_38 : decode c36 38 = .ok (.iload 5, 2) := by decide +kernel
theorem d36_40 : decode c36 40 = .ok (.if_icmp .le 14, 3) := by decide +kernel
theorem d36_54 : decode c36 54 = .ok (.aload_n 0, 1) := by decide +kernel
theorem d36_55 : decode c36 55 = .ok (.getfield 37, 3) := by decide +kernel
theorem d36_58 : decode c36 58 = .ok (.iload_n 1, 1) := by decide +kernel
theorem d36_59 : decode c36 59 = .ok (.aload_n 0, 1) := by decide +kernel
theorem d36_60 : decode c36 60 = .ok (.getfield 31, 3) := by decide +kernel
theorem d36_63 : decode c36 63 = .ok (.iload_n 1, 1) := by decide +kernel
theorem d36_64 : decode c36 64 = .ok (.iaload, 1) := by decide +kernel
theorem d36_65 : decode c36 65 = .ok (.iastore, 1) := by decide +kernel
theorem d36_43 : decode c36 43 = .ok (.aload_n 0, 1) := by decide +kernel
theorem d36_44 : decode c36 44 = .ok (.getfield 37, 3) := by decide +kernel
theorem d36_47 : decode c36 47 = .ok (.iload_n 1, 1) := by decide +kernel
theorem d36_48 : decode c36 48 = .ok (.iload 4, 2) := by decide +kernel
theorem d36_50 : decode c36 50 = .ok (.iastore, 1) := by decide +kernel
theorem d36_51 : decode c36 51 = .ok (.goto 15, 3) := by decide +kernel
theorem d36_66 : decode c36 66 = .ok (.aload_n 0, 1) := by decide +kernel
theorem d36_67 : decode c36 67 = .ok (.getfield 28, 3) := by decide +kernel
theorem d36_70 : decode c36 70 = .ok (.iload_n 1, 1) := by decide +kernel
theorem d36_71 : decode c36 71 = .ok (.iconst 5, 1) := by decide +kernel
theorem d36_72 : decode c36 72 = .ok (.iastore, 1) := by decide +kernel
theorem d36_73 : decode c36 73 = .ok (.iconst 5, 1) := by decide +kernel
theorem d36_74 : decode c36 74 = .ok (.ireturn, 1) := by decide +kernel
abbrev c39 : ByteArray := prog_1_method_63_code
theorem d39_0 : decode c39 0 = .ok (.aload_n 0, 1) := by decide +kernel
theorem d39_1 : decode c39 1 = .ok (.iload_n 1, 1) := by decide +kernel
theorem d39_2 : decode c39 2 = .ok (.invokevirtual 146, 3) := by decide +kernel
theorem d39_5 : decode c39 5 = .ok (.ifCond .ne 5, 3) := by decide +kernel
theorem d39_10 : decode c39 10 = .ok (.aload_n 0, 1) := by decide +kernel
theorem d39_11 : decode c39 11 = .ok (.getfield 19, 3) := by decide +kernel
theorem d39_14 : decode c39 14 = .ok (.iload_n 1, 1) := by decide +kernel
theorem d39_15 : decode c39 15 = .ok (.iaload, 1) := by decide +kernel
theorem d39_16 : decode c39 16 = .ok (.iconst 1, 1) := by decide +kernel
theorem d39_17 : decode c39 17 = .ok (.if_icmp .ne 17, 3) := by decide +kernel
theorem d39_20 : decode c39 20 = .ok (.aload_n 0, 1) := by decide +kernel
theorem d39_21 : decode c39 21 = .ok (.getfield 93, 3) := by decide +kernel
theorem d39_24 : decode c39 24 = .ok (.sipush 240, 3) := by decide +kernel
theorem d39_27 : decode c39 27 = .ok (.if_icmp .ge 7, 3) := by decide +kernel
theorem d39_34 : decode c39 34 = .ok (.iconst 0, 1) := by decide +kernel
theorem d39_30 : decode c39 30 = .ok (.iconst 1, 1) := by decide +kernel
theorem d39_31 : decode c39 31 = .ok (.goto 4, 3) := by decide +kernel
theorem d39_35 : decode c39 35 = .ok (.ireturn, 1) := by decide +kernel
theorem d39_8 : decode c39 8 = .ok (.iconst 0, 1) := by decide +kernel
theorem d39_9 : decode c39 9 = .ok (.ireturn, 1) := by decide +kernel
abbrev c43 : ByteArray := prog_1_method_56_code
theorem d43_0 : decode c43 0 = .ok (.iload_n 1, 1) := by decide +kernel
theorem d43_1 : decode c43 1 = .ok (.ifCond .lt 18, 3) := by decide +kernel
theorem d43_4 : decode c43 4 = .ok (.iload_n 1, 1) := by decide +kernel
theorem d43_5 : decode c43 5 = .ok (.bipush 8, 2) := by decide +kernel
theorem d43_7 : decode c43 7 = .ok (.if_icmp .ge 12, 3) := by decide +kernel
theorem d43_10 : decode c43 10 = .ok (.iload_n 2, 1) := by decide +kernel
theorem d43_11 : decode c43 11 = .ok (.ifCond .lt 8, 3) := by decide +kernel
theorem d43_14 : decode c43 14 = .ok (.iload_n 2, 1) := by decide +kernel
theorem d43_15 : decode c43 15 = .ok (.iconst 4, 1) := by decide +kernel
theorem d43_16 : decode c43 16 = .ok (.if_icmp .lt 5, 3) := by decide +kernel
theorem d43_21 : decode c43 21 = .ok (.aload_n 0, 1) := by decide +kernel
theorem d43_22 : decode c43 22 = .ok (.getfield 73, 3) := by decide +kernel
theorem d43_25 : decode c43 25 = .ok (.iload_n 1, 1) := by decide +kernel
theorem d43_26 : decode c43 26 = .ok (.iconst 4, 1) := by decide +kernel
theorem d43_27 : decode c43 27 = .ok (.imul, 1) := by decide +kernel
theorem d43_28 : decode c43 28 = .ok (.iload_n 2, 1) := by decide +kernel
theorem d43_29 : decode c43 29 = .ok (.iadd, 1) := by decide +kernel
theorem d43_30 : decode c43 30 = .ok (.iaload, 1) := by decide +kernel
theorem d43_31 : decode c43 31 = .ok (.ireturn, 1) := by decide +kernel
theorem d43_19 : decode c43 19 = .ok (.iconst 0, 1) := by decide +kernel
theorem d43_20 : decode c43 20 = .ok (.ireturn, 1) := by decide +kernel
abbrev c42 : ByteArray := prog_1_method_61_code
theorem d42_0 : decode c42 0 = .ok (.iconst 0, 1) := by decide +kernel
theorem d42_1 : decode c42 1 = .ok (.istore_n 3, 1) := by decide +kernel
theorem d42_2 : decode c42 2 = .ok (.iload_n 3, 1) := by decide +kernel
theorem d42_3 : decode c42 3 = .ok (.iconst 4, 1) := by decide +kernel
theorem d42_4 : decode c42 4 = .ok (.if_icmp .ge 25, 3) := by decide +kernel
theorem d42_29 : decode c42 29 = .ok (.return_, 1) := by decide +kernel
theorem d42_7 : decode c42 7 = .ok (.aload_n 0, 1) := by decide +kernel
theorem d42_8 : decode c42 8 = .ok (.iload_n 1, 1) := by decide +kernel
theorem d42_9 : decode c42 9 = .ok (.iload_n 3, 1) := by decide +kernel
theorem d42_10 : decode c42 10 = .ok (.invokevirtual 143, 3) := by decide +kernel
theorem d42_13 : decode c42 13 = .ok (.istore 4, 2) := by decide +kernel
theorem d42_15 : decode c42 15 = .ok (.aload_n 0, 1) := by decide +kernel
theorem d42_16 : decode c42 16 = .ok (.iload_n 2, 1) := by decide +kernel
theorem d42_17 : decode c42 17 = .ok (.iload_n 3, 1) := by decide +kernel
theorem d42_18 : decode c42 18 = .ok (.iload 4, 2) := by decide +kernel
theorem d42_20 : decode c42 20 = .ok (.invokevirtual 164, 3) := by decide +kernel
theorem d42_23 : decode c42 23 = .ok (.iinc 3 1, 3) := by decide +kernel
theorem d42_26 : decode c42 26 = .ok (.goto (-24), 3) := by decide +kernel
abbrev c44 : ByteArray := prog_1_method_62_code
theorem d44_0 : decode c44 0 = .ok (.iconst 0, 1) := by decide +kernel
theorem d44_1 : decode c44 1 = .ok (.istore_n 3, 1) := by decide +kernel
theorem d44_2 : decode c44 2 = .ok (.iload_n 3, 1) := by decide +kernel
theorem d44_3 : decode c44 3 = .ok (.bipush 6, 2) := by decide +kernel
theorem d44_5 : decode c44 5 = .ok (.if_icmp .ge 25, 3) := by decide +kernel
theorem d44_30 : decode c44 30 = .ok (.return_, 1) := by decide +kernel
theorem d44_8 : decode c44 8 = .ok (.aload_n 0, 1) := by decide +kernel
theorem d44_9 : decode c44 9 = .ok (.iload_n 1, 1) := by decide +kernel
theorem d44_10 : decode c44 10 = .ok (.iload_n 3, 1) := by decide +kernel
theorem d44_11 : decode c44 11 = .ok (.invokevirtual 233, 3) := by decide +kernel
theorem d44_14 : decode c44 14 = .ok (.istore 4, 2) := by decide +kernel
theorem d44_16 : decode c44 16 = .ok (.aload_n 0, 1) := by decide +kernel
theorem d44_17 : decode c44 17 = .ok (.iload_n 2, 1) := by decide +kernel
theorem d44_18 : decode c44 18 = .ok (.iload_n 3, 1) := by decide +kernel
theorem d44_19 : decode c44 19 = .ok (.iload 4, 2) := by decide +kernel
theorem d44_21 : decode c44 21 = .ok (.invokevirtual 168, 3) := by decide +kernel
theorem d44_24 : decode c44 24 = .ok (.iinc 3 1, 3) := by decide +kernel
theorem d44_27 : decode c44 27 = .ok (.goto (-25), 3) := by decide +kernel
abbrev c41 : ByteArray := prog_1_method_60_code
theorem d41_0 : decode c41 0 = .ok (.aload_n 0, 1) := by decide +kernel
theorem d41_1 : decode c41 1 = .ok (.getfield 67, 3) := by decide +kernel
theorem d41_4 : decode c41 4 = .ok (.iload_n 2, 1) := by decide +kernel
theorem d41_5 : decode c41 5 = .ok (.aload_n 0, 1) := by decide +kernel
theorem d41_6 : decode c41 6 = .ok (.getfield 67, 3) := by decide +kernel
theorem d41_9 : decode c41 9 = .ok (.iload_n 1, 1) := by decide +kernel
theorem d41_10 : decode c41 10 = .ok (.iaload, 1) := by decide +kernel
theorem d41_11 : decode c41 11 = .ok (.iastore, 1) := by decide +kernel
theorem d41_12 : decode c41 12 = .ok (.aload_n 0, 1) := by decide +kernel
theorem d41_13 : decode c41 13 = .ok (.getfield 70, 3) := by decide +kernel
theorem d41_16 : decode c41 16 = .ok (.iload_n 2, 1) := by decide +kernel
theorem d41_17 : decode c41 17 = .ok (.aload_n 0, 1) := by decide +kernel
theorem d41_18 : decode c41 18 = .ok (.getfield 70, 3) := by decide +kernel
theorem d41_21 : decode c41 21 = .ok (.iload_n 1, 1) := by decide +kernel
theorem d41_22 : decode c41 22 = .ok (.iaload, 1) := by decide +kernel
theorem d41_23 : decode c41 23 = .ok (.iastore, 1) := by decide +kernel
theorem d41_24 : decode c41 24 = .ok (.aload_n 0, 1) := by decide +kernel
theorem d41_25 : decode c41 25 = .ok (.iload_n 1, 1) := by decide +kernel
theorem d41_26 : decode c41 26 = .ok (.iload_n 2, 1) := by decide +kernel
theorem d41_27 : decode c41 27 = .ok (.invokevirtual 239, 3) := by decide +kernel
theorem d41_30 : decode c41 30 = .ok (.aload_n 0, 1) := by decide +kernel
theorem d41_31 : decode c41 31 = .ok (.iload_n 1, 1) := by decide +kernel
theorem d41_32 : decode c41 32 = .ok (.iload_n 2, 1) := by decide +kernel
theorem d41_33 : decode c41 33 = .ok (.invokevirtual 242, 3) := by decide +kernel
theorem d41_36 : decode c41 36 = .ok (.return_, 1) := by decide +kernel
abbrev c46 : ByteArray := prog_1_method_67_code
theorem d46_0 : decode c46 0 = .ok (.aload_n 0, 1) := by decide +kernel
theorem d46_1 : decode c46 1 = .ok (.getfield 70, 3) := by decide +kernel
theorem d46_4 : decode c46 4 = .ok (.iload_n 1, 1) := by decide +kernel
theorem d46_5 : decode c46 5 = .ok (.iaload, 1) := by decide +kernel
theorem d46_6 : decode c46 6 = .ok (.istore_n 3, 1) := by decide +kernel
theorem d46_7 : decode c46 7 = .ok (.iload_n 3, 1) := by decide +kernel
theorem d46_8 : decode c46 8 = .ok (.aload_n 0, 1) := by decide +kernel
theorem d46_9 : decode c46 9 = .ok (.getfield 87, 3) := by decide +kernel
theorem d46_12 : decode c46 12 = .ok (.if_icmp .ge 12, 3) := by decide +kernel
theorem d46_15 : decode c46 15 = .ok (.iload_n 3, 1) := by decide +kernel
theorem d46_16 : decode c46 16 = .ok (.iconst 4, 1) := by decide +kernel
theorem d46_17 : decode c46 17 = .ok (.if_icmp .ge 7, 3) := by decide +kernel
theorem d46_20 : decode c46 20 = .ok (.iload_n 3, 1) := by decide +kernel
theorem d46_21 : decode c46 21 = .ok (.ifCond .ge 6, 3) := by decide +kernel
theorem d46_27 : decode c46 27 = .ok (.aload_n 0, 1) := by decide +kernel
theorem d46_28 : decode c46 28 = .ok (.iload_n 1, 1) := by decide +kernel
theorem d46_29 : decode c46 29 = .ok (.iload_n 3, 1) := by decide +kernel
theorem d46_30 : decode c46 30 = .ok (.iload_n 2, 1) := by decide +kernel
theorem d46_31 : decode c46 31 = .ok (.invokevirtual 164, 3) := by decide +kernel
theorem d46_34 : decode c46 34 = .ok (.aload_n 0, 1) := by decide +kernel
theorem d46_35 : decode c46 35 = .ok (.getfield 70, 3) := by decide +kernel
theorem d46_38 : decode c46 38 = .ok (.iload_n 1, 1) := by decide +kernel
theorem d46_39 : decode c46 39 = .ok (.iload_n 3, 1) := by decide +kernel
theorem d46_40 : decode c46 40 = .ok (.iconst 1, 1) := by decide +kernel
theorem d46_41 : decode c46 41 = .ok (.iadd, 1) := by decide +kernel
theorem d46_42 : decode c46 42 = .ok (.iastore, 1) := by decide +kernel
theorem d46_43 : decode c46 43 = .ok (.iload_n 3, 1) := by decide +kernel
theorem d46_44 : decode c46 44 = .ok (.iconst 1, 1) := by decide +kernel
theorem d46_45 : decode c46 45 = .ok (.iadd, 1) := by decide +kernel
theorem d46_46 : decode c46 46 = .ok (.ireturn, 1) := by decide +kernel
theorem d46_24 : decode c46 24 = .ok (.bipush (-2), 2) := by decide +kernel
theorem d46_26 : decode c46 26 = .ok (.ireturn, 1) := by decide +kernel
abbrev c47 : ByteArray := prog_1_method_68_code
theorem d47_0 : decode c47 0 = .ok (.aload_n 0, 1) := by decide +kernel
theorem d47_1 : decode c47 1 = .ok (.getfield 70, 3) := by decide +kernel
theorem d47_4 : decode c47 4 = .ok (.iload_n 1, 1) := by decide +kernel
theorem d47_5 : decode c47 5 = .ok (.iaload, 1) := by decide +kernel
theorem d47_6 : decode c47 6 = .ok (.istore_n 2, 1) := by decide +kernel
theorem d47_7 : decode c47 7 = .ok (.iload_n 2, 1) := by decide +kernel
theorem d47_8 : decode c47 8 = .ok (.ifCond .gt 5, 3) := by decide +kernel
theorem d47_13 : decode c47 13 = .ok (.aload_n 0, 1) := by decide +kernel
theorem d47_14 : decode c47 14 = .ok (.iload_n 1, 1) := by decide +kernel
theorem d47_15 : decode c47 15 = .ok (.iconst 0, 1) := by decide +kernel
theorem d47_16 : decode c47 16 = .ok (.invokevirtual 143, 3) := by decide +kernel
theorem d47_19 : decode c47 19 = .ok (.istore_n 3, 1) := by decide +kernel
theorem d47_20 : decode c47 20 = .ok (.iconst 0, 1) := by decide +kernel
theorem d47_21 : decode c47 21 = .ok (.istore 4, 2) := by decide +kernel
theorem d47_23 : decode c47 23 = .ok (.iload 4, 2) := by decide +kernel
theorem d47_25 : decode c47 25 = .ok (.iconst 1, 1) := by decide +kernel
theorem d47_26 : decode c47 26 = .ok (.iadd, 1) := by decide +kernel
theorem d47_27 : decode c47 27 = .ok (.iload_n 2, 1) := by decide +kernel
theorem d47_28 : decode c47 28 = .ok (.if_icmp .ge 35, 3) := by decide +kernel
theorem d47_31 : decode c47 31 = .ok (.iload 4, 2) := by decide +kernel
theorem d47_33 : decode c47 33 = .ok (.iconst 3, 1) := by decide +kernel
theorem d47_34 : decode c47 34 = .ok (.if_icmp .ge 29, 3) := by decide +kernel
theorem d47_63 : decode c47 63 = .ok (.aload_n 0, 1) := by decide +kernel
theorem d47_64 : decode c47 64 = .ok (.iload_n 1, 1) := by decide +kernel
theorem d47_65 : decode c47 65 = .ok (.iload_n 2, 1) := by decide +kernel
theorem d47_66 : decode c47 66 = .ok (.iconst 1, 1) := by decide +kernel
theorem d47_67 : decode c47 67 = .ok (.isub, 1) := by decide +kernel
theorem d47_68 : decode c47 68 = .ok (.iconst 0, 1) := by decide +kernel
theorem d47_69 : decode c47 69 = .ok (.invokevirtual 164, 3) := by decide +kernel
theorem d47_72 : decode c47 72 = .ok (.aload_n 0, 1) := by decide +kernel
theorem d47_73 : decode c47 73 = .ok (.getfield 70, 3) := by decide +kernel
theorem d47_76 : decode c47 76 = .ok (.iload_n 1, 1) := by decide +kernel
theorem d47_77 : decode c47 77 = .ok (.iload_n 2, 1) := by decide +kernel
theorem d47_78 : decode c47 78 = .ok (.iconst 1, 1) := by decide +kernel
theorem d47_79 : decode c47 79 = .ok (.isub, 1) := by decide +kernel
theorem d47_80 : decode c47 80 = .ok (.iastore, 1) := by decide +kernel
theorem d47_81 : decode c47 81 = .ok (.iload_n 3, 1) := by decide +kernel
theorem d47_82 : decode c47 82 = .ok (.ireturn, 1) := by decide +kernel
theorem d47_37 : decode c47 37 = .ok (.aload_n 0, 1) := by decide +kernel
theorem d47_38 : decode c47 38 = .ok (.iload_n 1, 1) := by decide +kernel
theorem d47_39 : decode c47 39 = .ok (.iload 4, 2) := by decide +kernel
theorem d47_41 : decode c47 41 = .ok (.iconst 1, 1) := by decide +kernel
theorem d47_42 : decode c47 42 = .ok (.iadd, 1) := by decide +kernel
theorem d47_43 : decode c47 43 = .ok (.invokevirtual 143, 3) := by decide +kernel
theorem d47_46 : decode c47 46 = .ok (.istore 5, 2) := by decide +kernel
theorem d47_48 : decode c47 48 = .ok (.aload_n 0, 1) := by decide +kernel
theorem d47_49 : decode c47 49 = .ok (.iload_n 1, 1) := by decide +kernel
theorem d47_50 : decode c47 50 = .ok (.iload 4, 2) := by decide +kernel
theorem d47_52 : decode c47 52 = .ok (.iload 5, 2) := by decide +kernel
theorem d47_54 : decode c47 54 = .ok (.invokevirtual 164, 3) := by decide +kernel
theorem d47_57 : decode c47 57 = .ok (.iinc 4 1, 3) := by decide +kernel
theorem d47_60 : decode c47 60 = .ok (.goto (-37), 3) := by decide +kernel
theorem d47_11 : decode c47 11 = .ok (.iconst (-1), 1) := by decide +kernel
theorem d47_12 : decode c47 12 = .ok (.ireturn, 1) := by decide +kernel
abbrev c45 : ByteArray := prog_1_method_65_code
theorem d45_0 : decode c45 0 = .ok (.iload_n 2, 1) := by decide +kernel
theorem d45_1 : decode c45 1 = .ok (.iconst 1, 1) := by decide +kernel
theorem d45_2 : decode c45 2 = .ok (.if_icmp .ne 10, 3) := by decide +kernel
theorem d45_12 : decode c45 12 = .ok (.iload_n 2, 1) := by decide +kernel
theorem d45_13 : decode c45 13 = .ok (.iconst 2, 1) := by decide +kernel
theorem d45_14 : decode c45 14 = .ok (.if_icmp .ne 10, 3) := by decide +kernel
theorem d45_24 : decode c45 24 = .ok (.aload_n 0, 1) := by decide +kernel
theorem d45_25 : decode c45 25 = .ok (.iload_n 1, 1) := by decide +kernel
theorem d45_26 : decode c45 26 = .ok (.invokevirtual 257, 3) := by decide +kernel
theorem d45_29 : decode c45 29 = .ok (.ireturn, 1) := by decide +kernel
theorem d45_17 : decode c45 17 = .ok (.aload_n 0, 1) := by decide +kernel
theorem d45_18 : decode c45 18 = .ok (.iload_n 1, 1) := by decide +kernel
theorem d45_19 : decode c45 19 = .ok (.iload_n 3, 1) := by decide +kernel
theorem d45_20 : decode c45 20 = .ok (.invokevirtual 254, 3) := by decide +kernel
theorem d45_23 : decode c45 23 = .ok (.ireturn, 1) := by decide +kernel
theorem d45_5 : decode c45 5 = .ok (.aload_n 0, 1) := by decide +kernel
theorem d45_6 : decode c45 6 = .ok (.iload_n 1, 1) := by decide +kernel
theorem d45_7 : decode c45 7 = .ok (.iload_n 3, 1) := by decide +kernel
theorem d45_8 : decode c45 8 = .ok (.invokevirtual 251, 3) := by decide +kernel
abbrev c40 : ByteArray := prog_1_method_64_code
theorem d40_0 : decode c40 0 = .ok (.aload_n 0, 1) := by decide +kernel
theorem d40_1 : decode c40 1 = .ok (.getfield 93, 3) := by decide +kernel
theorem d40_4 : decode c40 4 = .ok (.iconst 1, 1) := by decide +kernel
theorem d40_5 : decode c40 5 = .ok (.iadd, 1) := by decide +kernel
theorem d40_6 : decode c40 6 = .ok (.istore_n 2, 1) := by decide +kernel
theorem d40_7 : decode c40 7 = .ok (.aload_n 0, 1) := by decide +kernel
theorem d40_8 : decode c40 8 = .ok (.aload_n 0, 1) := by decide +kernel
theorem d40_9 : decode c40 9 = .ok (.getfield 93, 3) := by decide +kernel
theorem d40_12 : decode c40 12 = .ok (.invokevirtual 224, 3) := by decide +kernel
theorem d40_15 : decode c40 15 = .ok (.istore_n 3, 1) := by decide +kernel
theorem d40_16 : decode c40 16 = .ok (.aload_n 0, 1) := by decide +kernel
theorem d40_17 : decode c40 17 = .ok (.iload_n 2, 1) := by decide +kernel
theorem d40_18 : decode c40 18 = .ok (.invokevirtual 224, 3) := by decide +kernel
theorem d40_21 : decode c40 21 = .ok (.istore 4, 2) := by decide +kernel
theorem d40_23 : decode c40 23 = .ok (.aload_n 0, 1) := by decide +kernel
theorem d40_24 : decode c40 24 = .ok (.iload_n 3, 1) := by decide +kernel
theorem d40_25 : decode c40 25 = .ok (.iload 4, 2) := by decide +kernel
theorem d40_27 : decode c40 27 = .ok (.invokevirtual 245, 3) := by decide +kernel
theorem d40_30 : decode c40 30 = .ok (.aload_n 0, 1) := by decide +kernel
theorem d40_31 : decode c40 31 = .ok (.iload 4, 2) := by decide +kernel
theorem d40_33 : decode c40 33 = .ok (.aload_n 0, 1) := by decide +kernel
theorem d40_34 : decode c40 34 = .ok (.getfield 7, 3) := by decide +kernel
theorem d40_37 : decode c40 37 = .ok (.iload_n 1, 1) := by decide +kernel
theorem d40_38 : decode c40 38 = .ok (.iaload, 1) := by decide +kernel
theorem d40_39 : decode c40 39 = .ok (.aload_n 0, 1) := by decide +kernel
theorem d40_40 : decode c40 40 = .ok (.getfield 13, 3) := by decide +kernel
theorem d40_43 : decode c40 43 = .ok (.iload_n 1, 1) := by decide +kernel
theorem d40_44 : decode c40 44 = .ok (.iaload, 1) := by decide +kernel
theorem d40_45 : decode c40 45 = .ok (.invokevirtual 248, 3) := by decide +kernel
theorem d40_48 : decode c40 48 = .ok (.istore 5, 2) := by decide +kernel
theorem d40_50 : decode c40 50 = .ok (.aload_n 0, 1) := by decide +kernel
theorem d40_51 : decode c40 51 = .ok (.getfield 58, 3) := by decide +kernel
theorem d40_54 : decode c40 54 = .ok (.iload 4, 2) := by decide +kernel
theorem d40_56 : decode c40 56 = .ok (.iload_n 2, 1) := by decide +kernel
theorem d40_57 : decode c40 57 = .ok (.iastore, 1) := by decide +kernel
theorem d40_58 : decode c40 58 = .ok (.aload_n 0, 1) := by decide +kernel
theorem d40_59 : decode c40 59 = .ok (.getfield 61, 3) := by decide +kernel
theorem d40_62 : decode c40 62 = .ok (.iload 4, 2) := by decide +kernel
theorem d40_64 : decode c40 64 = .ok (.iload_n 1, 1) := by decide +kernel
theorem d40_65 : decode c40 65 = .ok (.iastore, 1) := by decide +kernel
theorem d40_66 : decode c40 66 = .ok (.aload_n 0, 1) := by decide +kernel
theorem d40_67 : decode c40 67 = .ok (.getfield 64, 3) := by decide +kernel
theorem d40_70 : decode c40 70 = .ok (.iload 4, 2) := by decide +kernel
theorem d40_72 : decode c40 72 = .ok (.iload 5, 2) := by decide +kernel
theorem d40_74 : decode c40 74 = .ok (.iastore, 1) := by decide +kernel
theorem d40_75 : decode c40 75 = .ok (.aload_n 0, 1) := by decide +kernel
theorem d40_76 : decode c40 76 = .ok (.iload 4, 2) := by decide +kernel
theorem d40_78 : decode c40 78 = .ok (.aload_n 0, 1) := by decide +kernel
theorem d40_79 : decode c40 79 = .ok (.getfield 16, 3) := by decide +kernel
theorem d40_82 : decode c40 82 = .ok (.iload_n 1, 1) := by decide +kernel
theorem d40_83 : decode c40 83 = .ok (.iaload, 1) := by decide +kernel
theorem d40_84 : decode c40 84 = .ok (.iload_n 1, 1) := by decide +kernel
theorem d40_85 : decode c40 85 = .ok (.invokevirtual 168, 3) := by decide +kernel
theorem d40_88 : decode c40 88 = .ok (.aload_n 0, 1) := by decide +kernel
theorem d40_89 : decode c40 89 = .ok (.iload_n 2, 1) := by decide +kernel
theorem d40_90 : decode c40 90 = .ok (.putfield 93, 3) := by decide +kernel
theorem d40_93 : decode c40 93 = .ok (.aload_n 0, 1) := by decide +kernel
theorem d40_94 : decode c40 94 = .ok (.getfield 25, 3) := by decide +kernel
theorem d40_97 : decode c40 97 = .ok (.iload_n 1, 1) := by decide +kernel
theorem d40_98 : decode c40 98 = .ok (.iload_n 2, 1) := by decide +kernel
theorem d40_99 : decode c40 99 = .ok (.iastore, 1) := by decide +kernel
theorem d40_100 : decode c40 100 = .ok (.aload_n 0, 1) := by decide +kernel
theorem d40_101 : decode c40 101 = .ok (.getfield 22, 3) := by decide +kernel
theorem d40_104 : decode c40 104 = .ok (.iload_n 1, 1) := by decide +kernel
theorem d40_105 : decode c40 105 = .ok (.iload 5, 2) := by decide +kernel
theorem d40_107 : decode c40 107 = .ok (.iastore, 1) := by decide +kernel
theorem d40_108 : decode c40 108 = .ok (.aload_n 0, 1) := by decide +kernel
theorem d40_109 : decode c40 109 = .ok (.getfield 19, 3) := by decide +kernel
theorem d40_112 : decode c40 112 = .ok (.iload_n 1, 1) := by decide +kernel
theorem d40_113 : decode c40 113 = .ok (.iconst 2, 1) := by decide +kernel
theorem d40_114 : decode c40 114 = .ok (.iastore, 1) := by decide +kernel
theorem d40_115 : decode c40 115 = .ok (.return_, 1) := by decide +kernel
abbrev c38 : ByteArray := prog_1_method_42_code
theorem d38_0 : decode c38 0 = .ok (.aload_n 0, 1) := by decide +kernel
theorem d38_1 : decode c38 1 = .ok (.getfield 37, 3) := by decide +kernel
theorem d38_4 : decode c38 4 = .ok (.iload_n 1, 1) := by decide +kernel
theorem d38_5 : decode c38 5 = .ok (.iaload, 1) := by decide +kernel
theorem d38_6 : decode c38 6 = .ok (.istore_n 2, 1) := by decide +kernel
theorem d38_7 : decode c38 7 = .ok (.aload_n 0, 1) := by decide +kernel
theorem d38_8 : decode c38 8 = .ok (.getfield 93, 3) := by decide +kernel
theorem d38_11 : decode c38 11 = .ok (.aload_n 0, 1) := by decide +kernel
theorem d38_12 : decode c38 12 = .ok (.getfield 34, 3) := by decide +kernel
theorem d38_15 : decode c38 15 = .ok (.iload_n 1, 1) := by decide +kernel
theorem d38_16 : decode c38 16 = .ok (.iaload, 1) := by decide +kernel
theorem d38_17 : decode c38 17 = .ok (.if_icmp .ne 11, 3) := by decide +kernel
theorem d38_20 : decode c38 20 = .ok (.aload_n 0, 1) := by decide +kernel
theorem d38_21 : decode c38 21 = .ok (.iload_n 2, 1) := by decide +kernel
theorem d38_22 : decode c38 22 = .ok (.invokevirtual 212, 3) := by decide +kernel
theorem d38_25 : decode c38 25 = .ok (.ifCond .ne 13, 3) := by decide +kernel
theorem d38_38 : decode c38 38 = .ok (.aload_n 0, 1) := by decide +kernel
theorem d38_39 : decode c38 39 = .ok (.iload_n 2, 1) := by decide +kernel
theorem d38_40 : decode c38 40 = .ok (.invokevirtual 215, 3) := by decide +kernel
theorem d38_43 : decode c38 43 = .ok (.iload_n 2, 1) := by decide +kernel
theorem d38_44 : decode c38 44 = .ok (.aload_n 0, 1) := by decide +kernel
theorem d38_45 : decode c38 45 = .ok (.getfield 31, 3) := by decide +kernel
theorem d38_48 : decode c38 48 = .ok (.iload_n 1, 1) := by decide +kernel
theorem d38_49 : decode c38 49 = .ok (.iaload, 1) := by decide +kernel
theorem d38_50 : decode c38 50 = .ok (.if_icmp .ne 11, 3) := by decide +kernel
theorem d38_61 : decode c38 61 = .ok (.aload_n 0, 1) := by decide +kernel
theorem d38_62 : decode c38 62 = .ok (.getfield 28, 3) := by decide +kernel
theorem d38_65 : decode c38 65 = .ok (.iload_n 1, 1) := by decide +kernel
theorem d38_66 : decode c38 66 = .ok (.iconst 2, 1) := by decide +kernel
theorem d38_67 : decode c38 67 = .ok (.iastore, 1) := by decide +kernel
theorem d38_68 : decode c38 68 = .ok (.bipush 6, 2) := by decide +kernel
theorem d38_70 : decode c38 70 = .ok (.ireturn, 1) := by decide +kernel
theorem d38_53 : decode c38 53 = .ok (.aload_n 0, 1) := by decide +kernel
theorem d38_54 : decode c38 54 = .ok (.iload_n 1, 1) := by decide +kernel
theorem d38_55 : decode c38 55 = .ok (.invokevirtual 203, 3) := by decide +kernel
theorem d38_58 : decode c38 58 = .ok (.bipush 8, 2) := by decide +kernel
theorem d38_60 : decode c38 60 = .ok (.ireturn, 1) := by decide +kernel
theorem d38_28 : decode c38 28 = .ok (.aload_n 0, 1) := by decide +kernel
theorem d38_29 : decode c38 29 = .ok (.getfield 28, 3) := by decide +kernel
theorem d38_32 : decode c38 32 = .ok (.iload_n 1, 1) := by decide +kernel
theorem d38_33 : decode c38 33 = .ok (.iconst 2, 1) := by decide +kernel
theorem d38_34 : decode c38 34 = .ok (.iastore, 1) := by decide +kernel
theorem d38_35 : decode c38 35 = .ok (.bipush 7, 2) := by decide +kernel
theorem d38_37 : decode c38 37 = .ok (.ireturn, 1) := by decide +kernel
abbrev c21 : ByteArray := prog_1_method_37_code
theorem d21_0 : decode c21 0 = .ok (.iload_n 2, 1) := by decide +kernel
theorem d21_1 : decode c21 1 = .ok (.iconst 1, 1) := by decide +kernel
theorem d21_2 : decode c21 2 = .ok (.if_icmp .ne 9, 3) := by decide +kernel
theorem d21_11 : decode c21 11 = .ok (.iload_n 2, 1) := by decide +kernel
theorem d21_12 : decode c21 12 = .ok (.iconst 2, 1) := by decide +kernel
theorem d21_13 : decode c21 13 = .ok (.if_icmp .ne 9, 3) := by decide +kernel
theorem d21_22 : decode c21 22 = .ok (.iload_n 2, 1) := by decide +kernel
theorem d21_23 : decode c21 23 = .ok (.iconst 3, 1) := by decide +kernel
theorem d21_24 : decode c21 24 = .ok (.if_icmp .ne 9, 3) := by decide +kernel
theorem d21_33 : decode c21 33 = .ok (.iload_n 2, 1) := by decide +kernel
theorem d21_34 : decode c21 34 = .ok (.iconst 4, 1) := by decide +kernel
theorem d21_35 : decode c21 35 = .ok (.if_icmp .ne 9, 3) := by decide +kernel
theorem d21_44 : decode c21 44 = .ok (.aload_n 0, 1) := by decide +kernel
theorem d21_45 : decode c21 45 = .ok (.iload_n 1, 1) := by decide +kernel
theorem d21_46 : decode c21 46 = .ok (.invokevirtual 187, 3) := by decide +kernel
theorem d21_49 : decode c21 49 = .ok (.ireturn, 1) := by decide +kernel
theorem d21_38 : decode c21 38 = .ok (.aload_n 0, 1) := by decide +kernel
theorem d21_39 : decode c21 39 = .ok (.iload_n 1, 1) := by decide +kernel
theorem d21_40 : decode c21 40 = .ok (.invokevirtual 184, 3) := by decide +kernel
theorem d21_43 : decode c21 43 = .ok (.ireturn, 1) := by decide +kernel
theorem d21_27 : decode c21 27 = .ok (.aload_n 0, 1) := by decide +kernel
theorem d21_28 : decode c21 28 = .ok (.iload_n 1, 1) := by decide +kernel
theorem d21_29 : decode c21 29 = .ok (.invokevirtual 181, 3) := by decide +kernel
theorem d21_32 : decode c21 32 = .ok (.ireturn, 1) := by decide +kernel
theorem d21_16 : decode c21 16 = .ok (.aload_n 0, 1) := by decide +kernel
theorem d21_17 : decode c21 17 = .ok (.iload_n 1, 1) := by decide +kernel
theorem d21_18 : decode c21 18 = .ok (.invokevirtual 178, 3) := by decide +kernel
theorem d21_21 : decode c21 21 = .ok (.ireturn, 1) := by decide +kernel
theorem d21_5 : decode c21 5 = .ok (.aload_n 0, 1) := by decide +kernel
theorem d21_6 : decode c21 6 = .ok (.iload_n 1, 1) := by decide +kernel
theorem d21_7 : decode c21 7 = .ok (.invokevirtual 175, 3) := by decide +kernel
theorem d21_10 : decode c21 10 = .ok (.ireturn, 1) := by decide +kernel
abbrev c20 : ByteArray := prog_1_method_3_code
theorem d20_0 : decode c20 0 = .ok (.aload_n 0, 1) := by decide +kernel
theorem d20_1 : decode c20 1 = .ok (.iload_n 1, 1) := by decide +kernel
theorem d20_2 : decode c20 2 = .ok (.invokevirtual 108, 3) := by decide +kernel
theorem d20_5 : decode c20 5 = .ok (.ifCond .ne 5, 3) := by decide +kernel
theorem d20_10 : decode c20 10 = .ok (.aload_n 0, 1) := by decide +kernel
theorem d20_11 : decode c20 11 = .ok (.getfield 28, 3) := by decide +kernel
theorem d20_14 : decode c20 14 = .ok (.iload_n 1, 1) := by decide +kernel
theorem d20_15 : decode c20 15 = .ok (.iaload, 1) := by decide +kernel
theorem d20_16 : decode c20 16 = .ok (.istore_n 2, 1) := by decide +kernel
theorem d20_17 : decode c20 17 = .ok (.iload_n 2, 1) := by decide +kernel
theorem d20_18 : decode c20 18 = .ok (.ifCond .ne 5, 3) := by decide +kernel
theorem d20_23 : decode c20 23 = .ok (.aload_n 0, 1) := by decide +kernel
theorem d20_24 : decode c20 24 = .ok (.getfield 40, 3) := by decide +kernel
theorem d20_27 : decode c20 27 = .ok (.iload_n 1, 1) := by decide +kernel
theorem d20_28 : decode c20 28 = .ok (.aload_n 0, 1) := by decide +kernel
theorem d20_29 : decode c20 29 = .ok (.getfield 40, 3) := by decide +kernel
theorem d20_32 : decode c20 32 = .ok (.iload_n 1, 1) := by decide +kernel
theorem d20_33 : decode c20 33 = .ok (.iaload, 1) := by decide +kernel
theorem d20_34 : decode c20 34 = .ok (.iconst 1, 1) := by decide +kernel
theorem d20_35 : decode c20 35 = .ok (.iadd, 1) := by decide +kernel
theorem d20_36 : decode c20 36 = .ok (.iastore, 1) := by decide +kernel
theorem d20_37 : decode c20 37 = .ok (.aload_n 0, 1) := by decide +kernel
theorem d20_38 : decode c20 38 = .ok (.iload_n 1, 1) := by decide +kernel
theorem d20_39 : decode c20 39 = .ok (.iload_n 2, 1) := by decide +kernel
theorem d20_40 : decode c20 40 = .ok (.invokevirtual 121, 3) := by decide +kernel
theorem d20_43 : decode c20 43 = .ok (.ireturn, 1) := by decide +kernel
theorem d20_21 : decode c20 21 = .ok (.iconst 0, 1) := by decide +kernel
theorem d20_22 : decode c20 22 = .ok (.ireturn, 1) := by decide +kernel
theorem d20_8 : decode c20 8 = .ok (.iconst (-1), 1) := by decide +kernel
theorem d20_9 : decode c20 9 = .ok (.ireturn, 1) := by decide +kernel
abbrev c48 : ByteArray := prog_1_method_7_code
theorem d48_0 : decode c48 0 = .ok (.aload_n 0, 1) := by decide +kernel
theorem d48_1 : decode c48 1 = .ok (.iload_n 1, 1) := by decide +kernel
theorem d48_2 : decode c48 2 = .ok (.invokevirtual 108, 3) := by decide +kernel
theorem d48_5 : decode c48 5 = .ok (.ifCond .ne 5, 3) := by decide +kernel
theorem d48_10 : decode c48 10 = .ok (.aload_n 0, 1) := by decide +kernel
theorem d48_11 : decode c48 11 = .ok (.getfield 28, 3) := by decide +kernel
theorem d48_14 : decode c48 14 = .ok (.iload_n 1, 1) := by decide +kernel
theorem d48_15 : decode c48 15 = .ok (.iaload, 1) := by decide +kernel
theorem d48_16 : decode c48 16 = .ok (.iconst 5, 1) := by decide +kernel
theorem d48_17 : decode c48 17 = .ok (.if_icmp .eq 5, 3) := by decide +kernel
theorem d48_22 : decode c48 22 = .ok (.aload_n 0, 1) := by decide +kernel
theorem d48_23 : decode c48 23 = .ok (.getfield 37, 3) := by decide +kernel
theorem d48_26 : decode c48 26 = .ok (.iload_n 1, 1) := by decide +kernel
theorem d48_27 : decode c48 27 = .ok (.iaload, 1) := by decide +kernel
theorem d48_28 : decode c48 28 = .ok (.ireturn, 1) := by decide +kernel
theorem d48_20 : decode c48 20 = .ok (.iconst 0, 1) := by decide +kernel
theorem d48_21 : decode c48 21 = .ok (.ireturn, 1) := by decide +kernel
theorem d48_8 : decode c48 8 = .ok (.iconst 0, 1) := by decide +kernel
theorem d48_9 : decode c48 9 = .ok (.ireturn, 1) := by decide +kernel
abbrev c49 : ByteArray := prog_1_method_14_code
theorem d49_0 : decode c49 0 = .ok (.aload_n 0, 1) := by decide +kernel
theorem d49_1 : decode c49 1 = .ok (.iload_n 1, 1) := by decide +kernel
theorem d49_2 : decode c49 2 = .ok (.invokevirtual 146, 3) := by decide +kernel
theorem d49_5 : decode c49 5 = .ok (.ifCond .ne 5, 3) := by decide +kernel
theorem d49_10 : decode c49 10 = .ok (.aload_n 0, 1) := by decide +kernel
theorem d49_11 : decode c49 11 = .ok (.getfield 19, 3) := by decide +kernel
theorem d49_14 : decode c49 14 = .ok (.iload_n 1, 1) := by decide +kernel
theorem d49_15 : decode c49 15 = .ok (.iaload, 1) := by decide +kernel
theorem d49_16 : decode c49 16 = .ok (.ireturn, 1) := by decide +kernel
theorem d49_8 : decode c49 8 = .ok (.iconst 0, 1) := by decide +kernel
theorem d49_9 : decode c49 9 = .ok (.ireturn, 1) := by decide +kernel
abbrev c51 : ByteArray := prog_1_method_23_code
theorem d51_0 : decode c51 0 = .ok (.aload_n 0, 1) := by decide +kernel
theorem d51_1 : decode c51 1 = .ok (.getfield 19, 3) := by decide +kernel
theorem d51_4 : decode c51 4 = .ok (.iload_n 1, 1) := by decide +kernel
theorem d51_5 : decode c51 5 = .ok (.iaload, 1) := by decide +kernel
theorem d51_6 : decode c51 6 = .ok (.istore_n 2, 1) := by decide +kernel
theorem d51_7 : decode c51 7 = .ok (.iload_n 2, 1) := by decide +kernel
theorem d51_8 : decode c51 8 = .ok (.iconst 2, 1) := by decide +kernel
theorem d51_9 : decode c51 9 = .ok (.if_icmp .eq 8, 3) := by decide +kernel
theorem d51_12 : decode c51 12 = .ok (.iload_n 2, 1) := by decide +kernel
theorem d51_13 : decode c51 13 = .ok (.iconst 3, 1) := by decide +kernel
theorem d51_14 : decode c51 14 = .ok (.if_icmp .ne 7, 3) := by decide +kernel
theorem d51_21 : decode c51 21 = .ok (.iconst 0, 1) := by decide +kernel
theorem d51_17 : decode c51 17 = .ok (.iconst 1, 1) := by decide +kernel
theorem d51_18 : decode c51 18 = .ok (.goto 4, 3) := by decide +kernel
theorem d51_22 : decode c51 22 = .ok (.ireturn, 1) := by decide +kernel
abbrev c50 : ByteArray := prog_1_method_15_code
theorem d50_0 : decode c50 0 = .ok (.aload_n 0, 1) := by decide +kernel
theorem d50_1 : decode c50 1 = .ok (.iload_n 1, 1) := by decide +kernel
theorem d50_2 : decode c50 2 = .ok (.invokevirtual 146, 3) := by decide +kernel
theorem d50_5 : decode c50 5 = .ok (.ifCond .ne 5, 3) := by decide +kernel
theorem d50_10 : decode c50 10 = .ok (.aload_n 0, 1) := by decide +kernel
theorem d50_11 : decode c50 11 = .ok (.iload_n 1, 1) := by decide +kernel
theorem d50_12 : decode c50 12 = .ok (.invokevirtual 149, 3) := by decide +kernel
theorem d50_15 : decode c50 15 = .ok (.ifCond .ne 5, 3) := by decide +kernel
theorem d50_20 : decode c50 20 = .ok (.aload_n 0, 1) := by decide +kernel
theorem d50_21 : decode c50 21 = .ok (.getfield 22, 3) := by decide +kernel
theorem d50_24 : decode c50 24 = .ok (.iload_n 1, 1) := by decide +kernel
theorem d50_25 : decode c50 25 = .ok (.iaload, 1) := by decide +kernel
theorem d50_26 : decode c50 26 = .ok (.ireturn, 1) := by decide +kernel
theorem d50_18 : decode c50 18 = .ok (.iconst 0, 1) := by decide +kernel
theorem d50_19 : decode c50 19 = .ok (.ireturn, 1) := by decide +kernel
theorem d50_8 : decode c50 8 = .ok (.iconst 0, 1) := by decide +kernel
theorem d50_9 : decode c50 9 = .ok (.ireturn, 1) := by decide +kernel
abbrev c53 : ByteArray := prog_1_method_54_code
theorem d53_0 : decode c53 0 = .ok (.aload_n 0, 1) := by decide +kernel
theorem d53_1 : decode c53 1 = .ok (.aload_n 0, 1) := by decide +kernel
theorem d53_2 : decode c53 2 = .ok (.getfield 93, 3) := by decide +kernel
theorem d53_5 : decode c53 5 = .ok (.invokevirtual 224, 3) := by decide +kernel
theorem d53_8 : decode c53 8 = .ok (.ireturn, 1) := by decide +kernel
abbrev c52 : ByteArray := prog_1_method_12_code
theorem d52_0 : decode c52 0 = .ok (.aload_n 0, 1) := by decide +kernel
theorem d52_1 : decode c52 1 = .ok (.getfield 70, 3) := by decide +kernel
theorem d52_4 : decode c52 4 = .ok (.aload_n 0, 1) := by decide +kernel
theorem d52_5 : decode c52 5 = .ok (.invokevirtual 139, 3) := by decide +kernel
theorem d52_8 : decode c52 8 = .ok (.iaload, 1) := by decide +kernel
theorem d52_9 : decode c52 9 = .ok (.ireturn, 1) := by decide +kernel
abbrev c54 : ByteArray := prog_1_method_13_code
theorem d54_0 : decode c54 0 = .ok (.aload_n 0, 1) := by decide +kernel
theorem d54_1 : decode c54 1 = .ok (.invokevirtual 139, 3) := by decide +kernel
theorem d54_4 : decode c54 4 = .ok (.istore_n 2, 1) := by decide +kernel
theorem d54_5 : decode c54 5 = .ok (.aload_n 0, 1) := by decide +kernel
theorem d54_6 : decode c54 6 = .ok (.getfield 70, 3) := by decide +kernel
theorem d54_9 : decode c54 9 = .ok (.iload_n 2, 1) := by decide +kernel
theorem d54_10 : decode c54 10 = .ok (.iaload, 1) := by decide +kernel
theorem d54_11 : decode c54 11 = .ok (.istore_n 3, 1) := by decide +kernel
theorem d54_12 : decode c54 12 = .ok (.iload_n 1, 1) := by decide +kernel
theorem d54_13 : decode c54 13 = .ok (.ifCond .lt 8, 3) := by decide +kernel
theorem d54_16 : decode c54 16 = .ok (.iload_n 1, 1) := by decide +kernel
theorem d54_17 : decode c54 17 = .ok (.iload_n 3, 1) := by decide +kernel
theorem d54_18 : decode c54 18 = .ok (.if_icmp .lt 5, 3) := by decide +kernel
theorem d54_23 : decode c54 23 = .ok (.aload_n 0, 1) := by decide +kernel
theorem d54_24 : decode c54 24 = .ok (.iload_n 2, 1) := by decide +kernel
theorem d54_25 : decode c54 25 = .ok (.iload_n 1, 1) := by decide +kernel
theorem d54_26 : decode c54 26 = .ok (.invokevirtual 143, 3) := by decide +kernel
theorem d54_29 : decode c54 29 = .ok (.ireturn, 1) := by decide +kernel
theorem d54_21 : decode c54 21 = .ok (.iconst (-1), 1) := by decide +kernel
theorem d54_22 : decode c54 22 = .ok (.ireturn, 1) := by decide +kernel
abbrev c55 : ByteArray := prog_1_method_16_code
theorem d55_0 : decode c55 0 = .ok (.aload_n 0, 1) := by decide +kernel
theorem d55_1 : decode c55 1 = .ok (.iload_n 1, 1) := by decide +kernel
theorem d55_2 : decode c55 2 = .ok (.invokevirtual 146, 3) := by decide +kernel
theorem d55_5 : decode c55 5 = .ok (.ifCond .ne 5, 3) := by decide +kernel
theorem d55_10 : decode c55 10 = .ok (.aload_n 0, 1) := by decide +kernel
theorem d55_11 : decode c55 11 = .ok (.iload_n 1, 1) := by decide +kernel
theorem d55_12 : decode c55 12 = .ok (.invokevirtual 149, 3) := by decide +kernel
theorem d55_15 : decode c55 15 = .ok (.ifCond .ne 5, 3) := by decide +kernel
theorem d55_20 : decode c55 20 = .ok (.aload_n 0, 1) := by decide +kernel
theorem d55_21 : decode c55 21 = .ok (.getfield 25, 3) := by decide +kernel
theorem d55_24 : decode c55 24 = .ok (.iload_n 1, 1) := by decide +kernel
theorem d55_25 : decode c55 25 = .ok (.iaload, 1) := by decide +kernel
theorem d55_26 : decode c55 26 = .ok (.ireturn, 1) := by decide +kernel
theorem d55_18 : decode c55 18 = .ok (.iconst 0, 1) := by decide +kernel
theorem d55_19 : decode c55 19 = .ok (.ireturn, 1) := by decide +kernel
theorem d55_8 : decode c55 8 = .ok (.iconst (-1), 1) := by decide +kernel
theorem d55_9 : decode c55 9 = .ok (.ireturn, 1) := by decide +kernel
abbrev c56 : ByteArray := prog_1_method_10_code
theorem d56_0 : decode c56 0 = .ok (.aload_n 0, 1) := by decide +kernel
theorem d56_1 : decode c56 1 = .ok (.getfield 93, 3) := by decide +kernel
theorem d56_4 : decode c56 4 = .ok (.ireturn, 1) := by decide +kernel
abbrev c57 : ByteArray := prog_1_method_9_code
theorem d57_0 : decode c57 0 = .ok (.aload_n 0, 1) := by decide +kernel
theorem d57_1 : decode c57 1 = .ok (.iload_n 1, 1) := by decide +kernel
theorem d57_2 : decode c57 2 = .ok (.invokevirtual 108, 3) := by decide +kernel
theorem d57_5 : decode c57 5 = .ok (.ifCond .ne 5, 3) := by decide +kernel
theorem d57_10 : decode c57 10 = .ok (.aload_n 0, 1) := by decide +kernel
theorem d57_11 : decode c57 11 = .ok (.getfield 40, 3) := by decide +kernel
theorem d57_14 : decode c57 14 = .ok (.iload_n 1, 1) := by decide +kernel
theorem d57_15 : decode c57 15 = .ok (.iaload, 1) := by decide +kernel
theorem d57_16 : decode c57 16 = .ok (.ireturn, 1) := by decide +kernel
theorem d57_8 : decode c57 8 = .ok (.iconst (-1), 1) := by decide +kernel
theorem d57_9 : decode c57 9 = .ok (.ireturn, 1) := by decide +kernel
abbrev c58 : ByteArray := prog_1_method_5_code
theorem d58_0 : decode c58 0 = .ok (.aload_n 0, 1) := by decide +kernel
theorem d58_1 : decode c58 1 = .ok (.iload_n 1, 1) := by decide +kernel
theorem d58_2 : decode c58 2 = .ok (.invokevirtual 108, 3) := by decide +kernel
theorem d58_5 : decode c58 5 = .ok (.ifCond .ne 5, 3) := by decide +kernel
theorem d58_10 : decode c58 10 = .ok (.aload_n 0, 1) := by decide +kernel
theorem d58_11 : decode c58 11 = .ok (.getfield 28, 3) := by decide +kernel
theorem d58_14 : decode c58 14 = .ok (.iload_n 1, 1) := by decide +kernel
theorem d58_15 : decode c58 15 = .ok (.iaload, 1) := by decide +kernel
theorem d58_16 : decode c58 16 = .ok (.ireturn, 1) := by decide +kernel
theorem d58_8 : decode c58 8 = .ok (.iconst (-1), 1) := by decide +kernel
theorem d58_9 : decode c58 9 = .ok (.ireturn, 1) := by decide +kernel
abbrev KM_M_clamp (X : Cx (St × Nat)) (Z : State) (a0 : Array Value) (l : Launch) (n1 : Nat) (a : Addr) (h0 : Heap) : Prop := CtxC X Z a0 cC cFS cFA 23 27 l n1 a h0 ce0 ⟨0, 0, 0, 0⟩ "clamp" c3 4 (some .int)
def M_clamp (σ : St) (v1 : Int32) (v2 : Int32) (v3 : Int32) : Option (Int32 × St) :=
  (if v1 < v2 then (some (v2, σ)) else (if v3 < v1 then (some (v3, σ)) else (some (v1, σ))))
theorem ok_M_clamp {X : Cx (St × Nat)} {Z : State} {a0 : Array Value} {l : Launch} {n1 : Nat} {a : Addr} {h0 : Heap} (K : KM_M_clamp X Z a0 l n1 a h0) (hw : HW a0 Z) {σ : St} {v1 : Int32} {v2 : Int32} {v3 : Int32} {r : Int32 × St} (h : M_clamp σ v1 v2 v3 = some r) : Go X (some (.int r.1), (r.2, 23)) 0 [some (.ref 0), some (.int v1), some (.int v2), some (.int v3)] [] (σ, 23) := by
  unfold M_clamp at h
  refine g_iloadN (pc := 0) K.1 d3_0 rfl ?_
  refine g_iloadN (pc := 1) K.1 d3_1 rfl ?_
  rcases ifs h with ⟨hc2, h⟩ | ⟨hc2, h⟩
  · refine g_icF (pc := 2) K.1 d3_2 ((tlt hc2).2.1) ?_
    refine g_iloadN (pc := 5) K.1 d3_5 rfl ?_
    cases h; exact g_ireturn K.1 d3_6 (capC K)
  refine g_icT (pc := 2) (pc' := 7) K.1 d3_2 (by decide) ((flt hc2).2.1) ?_
  refine g_iloadN (pc := 7) K.1 d3_7 rfl ?_
  refine g_iloadN (pc := 8) K.1 d3_8 rfl ?_
  rcases ifs h with ⟨hc9, h⟩ | ⟨hc9, h⟩
  · refine g_icF (pc := 9) K.1 d3_9 ((tlt hc9).2.2.2) ?_
    refine g_iloadN (pc := 12) K.1 d3_12 rfl ?_
    cases h; exact g_ireturn K.1 d3_13 (capC K)
  refine g_icT (pc := 9) (pc' := 14) K.1 d3_9 (by decide) ((flt hc9).2.2.2) ?_
  refine g_iloadN (pc := 14) K.1 d3_14 rfl ?_
  cases h; exact g_ireturn K.1 d3_15 (capC K)
theorem con_M_clamp (l : Launch) (Z : State) (a0 : Array Value) (hw : HW a0 Z) (n1 : Nat) (a : Addr) (ha : n1 ≤ a) {σ : St} {v1 : Int32} {v2 : Int32} {v3 : Int32} {r : Int32 × St} (h : M_clamp σ v1 v2 v3 = some r) : Con l Z cC cFS cFA 23 n1 a ⟨cC, "clamp", "(III)I"⟩ c3 4 (some .int) ⟨0, 0, 0, 0⟩ [.ref 0, .int v1, .int v2, .int v3] σ (some (.int r.1)) r.2 :=
  con_of_go pnC rfl (layW hw) lgood ha (fun X h1 K => ok_M_clamp K hw h)
abbrev KM_M_resetRecords (X : Cx (St × Nat)) (Z : State) (a0 : Array Value) (l : Launch) (n1 : Nat) (a : Addr) (h0 : Heap) : Prop := CtxC X Z a0 cC cFS cFA 23 27 l n1 a h0 ce0 ⟨0, 0, 0, 0⟩ "resetRecords" c4 2 none
def M_resetRecords_w2 (NF : Nat) (k2 : Int32 → St → Option (St)) (i1 : Int32) (σ : St) : Option (St) :=
  (if (240 : Int32) < i1 then (some σ) else (if 0 ≤ (i1).toInt ∧ (i1).toInt < 241 then (if 0 ≤ (i1).toInt ∧ (i1).toInt < 241 then (if 0 ≤ (i1).toInt ∧ (i1).toInt < 241 then (if 0 ≤ (i1).toInt ∧ (i1).toInt < 241 then (if 0 ≤ (i1).toInt ∧ (i1).toInt < 241 then (if 0 ≤ (i1).toInt ∧ (i1).toInt < 241 then k2 (i1 + (1 : Int32)) (sA (sA (sA (sA (sA (sA σ 1 (i1).toInt (0 : Int32)) 2 (i1).toInt (0 : Int32)) 3 (i1).toInt (-1 : Int32)) 4 (i1).toInt (0 : Int32)) 5 (i1).toInt (0 : Int32)) 6 (i1).toInt (0 : Int32)) else none) else none) else none) else none) else none) else none))
theorem ok_M_resetRecords_w2 {X : Cx (St × Nat)} {Z : State} {a0 : Array Value} {l : Launch} {n1 : Nat} {a : Addr} {h0 : Heap} {NF : Nat} (K : KM_M_resetRecords X Z a0 l n1 a h0) (hw : HW a0 Z) {k2 : Int32 → St → Option (St)} {i1 : Int32} {σ : St} {r : St} (hk2 : ∀ (i1 : Int32) (σ : St) (h : k2 i1 σ = some r), Go X (none, (r, 23)) 2 [some (.ref 0), some (.int i1)] [] (σ, 23)) (h : M_resetRecords_w2 NF k2 i1 σ = some r) : Go X (none, (r, 23)) 2 [some (.ref 0), some (.int i1)] [] (σ, 23) := by
  unfold M_resetRecords_w2 at h
  refine g_iloadN (pc := 2) K.1 d4_2 rfl ?_
  refine g_sipush (pc := 3) (v := 240) K.1 d4_3 (by decide) ?_
  rcases ifs h with ⟨hc6, h⟩ | ⟨hc6, h⟩
  · refine g_icT (pc := 6) (pc' := 57) K.1 d4_6 (by decide) ((tlt hc6).2.2.1) ?_
    cases h; exact g_return K.1 d4_57 (capC K)
  refine g_icF (pc := 6) K.1 d4_6 ((flt hc6).2.2.1) ?_
  refine g_aloadN (pc := 9) K.1 d4_9 rfl ?_
  refine g_getA (pc := 10) K d4_10 (w10 hw) mf_opKind rfl ?_
  refine g_iloadN (pc := 13) K.1 d4_13 rfl ?_
  refine g_iconst (pc := 14) (v := 0) K.1 d4_14 (by decide) ?_
  obtain ⟨hc15, h⟩ := ifn h
  refine g_iastore (pc := 15) K d4_15 ma_opKind rfl hc15 ?_
  refine g_aloadN (pc := 16) K.1 d4_16 rfl ?_
  refine g_getA (pc := 17) K d4_17 (w12 hw) mf_opArg rfl ?_
  refine g_iloadN (pc := 20) K.1 d4_20 rfl ?_
  refine g_iconst (pc := 21) (v := 0) K.1 d4_21 (by decide) ?_
  obtain ⟨hc22, h⟩ := ifn h
  refine g_iastore (pc := 22) K d4_22 ma_opArg rfl hc22 ?_
  refine g_aloadN (pc := 23) K.1 d4_23 rfl ?_
  refine g_getA (pc := 24) K d4_24 (w14 hw) mf_opThread rfl ?_
  refine g_iloadN (pc := 27) K.1 d4_27 rfl ?_
  refine g_iconst (pc := 28) (v := -1) K.1 d4_28 (by decide) ?_
  obtain ⟨hc29, h⟩ := ifn h
  refine g_iastore (pc := 29) K d4_29 ma_opThread rfl hc29 ?_
  refine g_aloadN (pc := 30) K.1 d4_30 rfl ?_
  refine g_getA (pc := 31) K d4_31 (w16 hw) mf_opStatus rfl ?_
  refine g_iloadN (pc := 34) K.1 d4_34 rfl ?_
  refine g_iconst (pc := 35) (v := 0) K.1 d4_35 (by decide) ?_
  obtain ⟨hc36, h⟩ := ifn h
  refine g_iastore (pc := 36) K d4_36 ma_opStatus rfl hc36 ?_
  refine g_aloadN (pc := 37) K.1 d4_37 rfl ?_
  refine g_getA (pc := 38) K d4_38 (w18 hw) mf_opResp rfl ?_
  refine g_iloadN (pc := 41) K.1 d4_41 rfl ?_
  refine g_iconst (pc := 42) (v := 0) K.1 d4_42 (by decide) ?_
  obtain ⟨hc43, h⟩ := ifn h
  refine g_iastore (pc := 43) K d4_43 ma_opResp rfl hc43 ?_
  refine g_aloadN (pc := 44) K.1 d4_44 rfl ?_
  refine g_getA (pc := 45) K d4_45 (w20 hw) mf_opPos rfl ?_
  refine g_iloadN (pc := 48) K.1 d4_48 rfl ?_
  refine g_iconst (pc := 49) (v := 0) K.1 d4_49 (by decide) ?_
  obtain ⟨hc50, h⟩ := ifn h
  refine g_iastore (pc := 50) K d4_50 ma_opPos rfl hc50 ?_
  refine g_iinc (pc := 51) (w := 1) (L' := [some (.ref 0), some (.int (i1 + (1 : Int32)))]) K.1 d4_51 rfl (by decide) rfl ?_
  refine g_goto (pc := 54) (pc' := 2) K.1 d4_54 (by decide) ?_
  exact hk2 _ _ h
def M_resetRecords_l2 (NF : Nat)  : Nat → Int32 → St → Option (St)
  | 0 => fun _ _ => none
  | n + 1 => fun i1 σ => M_resetRecords_w2 NF  (M_resetRecords_l2 NF  n) i1 σ
theorem ok_M_resetRecords_l2 {X : Cx (St × Nat)} {Z : State} {a0 : Array Value} {l : Launch} {n1 : Nat} {a : Addr} {h0 : Heap} {NF : Nat} (K : KM_M_resetRecords X Z a0 l n1 a h0) (hw : HW a0 Z) (n : Nat)  {r : St}  : ∀ (i1 : Int32) (σ : St) (h : M_resetRecords_l2 NF  n i1 σ = some r), Go X (none, (r, 23)) 2 [some (.ref 0), some (.int i1)] [] (σ, 23) := by
  induction n with
  | zero => intro i1 σ h; cases h
  | succ n ih => intro i1 σ h; exact ok_M_resetRecords_w2 (NF := NF) K hw  ih h
def M_resetRecords (NF : Nat) (σ : St) : Option (St) :=
  M_resetRecords_l2 NF NF (0 : Int32) σ
theorem ok_M_resetRecords {X : Cx (St × Nat)} {Z : State} {a0 : Array Value} {l : Launch} {n1 : Nat} {a : Addr} {h0 : Heap} {NF : Nat} (K : KM_M_resetRecords X Z a0 l n1 a h0) (hw : HW a0 Z) {σ : St} {r : St} (h : M_resetRecords NF σ = some r) : Go X (none, (r, 23)) 0 [some (.ref 0), none] [] (σ, 23) := by
  unfold M_resetRecords at h
  refine g_iconst (pc := 0) (v := 0) K.1 d4_0 (by decide) ?_
  refine g_istoreN (pc := 1) (L' := [some (.ref 0), some (.int (0 : Int32))]) K.1 d4_1 (blt rfl) rfl ?_
  exact ok_M_resetRecords_l2 K hw NF  _ _ h
theorem con_M_resetRecords (l : Launch) (Z : State) (a0 : Array Value) (hw : HW a0 Z) (n1 : Nat) (a : Addr) (ha : n1 ≤ a) {NF : Nat} {σ : St} {r : St} (h : M_resetRecords NF σ = some r) : Con l Z cC cFS cFA 23 n1 a ⟨cC, "resetRecords", "()V"⟩ c4 2 none ⟨0, 0, 0, 0⟩ [.ref 0] σ none r :=
  con_of_go pnC rfl (layW hw) lgood ha (fun X h1 K => ok_M_resetRecords K hw h)
abbrev KM_M_setThreadLast (X : Cx (St × Nat)) (Z : State) (a0 : Array Value) (l : Launch) (n1 : Nat) (a : Addr) (h0 : Heap) : Prop := CtxC X Z a0 cC cFS cFA 23 27 l n1 a h0 ce0 ⟨0, 0, 0, 0⟩ "setThreadLast" c7 4 none
def M_setThreadLast (σ : St) (v1 : Int32) (v2 : Int32) (v3 : Int32) : Option (St) :=
  (if v1 < 0 then (some σ) else (if v1 < (6 : Int32) then (if v2 < 0 then (some σ) else (if v2 < (6 : Int32) then (if 0 ≤ (((v1 * (6 : Int32)) + v2)).toInt ∧ (((v1 * (6 : Int32)) + v2)).toInt < 36 then (some (sA σ 13 (((v1 * (6 : Int32)) + v2)).toInt v3)) else none) else (some σ))) else (some σ)))
theorem ok_M_setThreadLast {X : Cx (St × Nat)} {Z : State} {a0 : Array Value} {l : Launch} {n1 : Nat} {a : Addr} {h0 : Heap} (K : KM_M_setThreadLast X Z a0 l n1 a h0) (hw : HW a0 Z) {σ : St} {v1 : Int32} {v2 : Int32} {v3 : Int32} {r : St} (h : M_setThreadLast σ v1 v2 v3 = some r) : Go X (none, (r, 23)) 0 [some (.ref 0), some (.int v1), some (.int v2), some (.int v3)] [] (σ, 23) := by
  unfold M_setThreadLast at h
  refine g_iloadN (pc := 0) K.1 d7_0 rfl ?_
  rcases ifs h with ⟨hc1, h⟩ | ⟨hc1, h⟩
  · refine g_ifT (pc := 1) (pc' := 20) K.1 d7_1 (by decide) ((if0 _ _).trans (tlt hc1).1) ?_
    cases h; exact g_return K.1 d7_20 (capC K)
  refine g_ifF (pc := 1) K.1 d7_1 ((if0 _ _).trans (flt hc1).1) ?_
  refine g_iloadN (pc := 4) K.1 d7_4 rfl ?_
  refine g_bipush (pc := 5) (v := 6) K.1 d7_5 (by decide) ?_
  rcases ifs h with ⟨hc7, h⟩ | ⟨hc7, h⟩
  · refine g_icF (pc := 7) K.1 d7_7 ((tlt hc7).2.1) ?_
    refine g_iloadN (pc := 10) K.1 d7_10 rfl ?_
    rcases ifs h with ⟨hc11, h⟩ | ⟨hc11, h⟩
    · refine g_ifT (pc := 11) (pc' := 20) K.1 d7_11 (by decide) ((if0 _ _).trans (tlt hc11).1) ?_
      cases h; exact g_return K.1 d7_20 (capC K)
    refine g_ifF (pc := 11) K.1 d7_11 ((if0 _ _).trans (flt hc11).1) ?_
    refine g_iloadN (pc := 14) K.1 d7_14 rfl ?_
    refine g_bipush (pc := 15) (v := 6) K.1 d7_15 (by decide) ?_
    rcases ifs h with ⟨hc17, h⟩ | ⟨hc17, h⟩
    · refine g_icT (pc := 17) (pc' := 21) K.1 d7_17 (by decide) ((tlt hc17).1) ?_
      refine g_aloadN (pc := 21) K.1 d7_21 rfl ?_
      refine g_getA (pc := 22) K d7_22 (w34 hw) mf_thLast rfl ?_
      refine g_iloadN (pc := 25) K.1 d7_25 rfl ?_
      refine g_bipush (pc := 26) (v := 6) K.1 d7_26 (by decide) ?_
      refine g_imul (pc := 28) K.1 d7_28 ?_
      refine g_iloadN (pc := 29) K.1 d7_29 rfl ?_
      refine g_iadd (pc := 30) K.1 d7_30 ?_
      refine g_iloadN (pc := 31) K.1 d7_31 rfl ?_
      obtain ⟨hc32, h⟩ := ifn h
      refine g_iastore (pc := 32) K d7_32 ma_thLast rfl hc32 ?_
      cases h; exact g_return K.1 d7_33 (capC K)
    refine g_icF (pc := 17) K.1 d7_17 ((flt hc17).1) ?_
    cases h; exact g_return K.1 d7_20 (capC K)
  refine g_icT (pc := 7) (pc' := 20) K.1 d7_7 (by decide) ((flt hc7).2.1) ?_
  cases h; exact g_return K.1 d7_20 (capC K)
theorem con_M_setThreadLast (l : Launch) (Z : State) (a0 : Array Value) (hw : HW a0 Z) (n1 : Nat) (a : Addr) (ha : n1 ≤ a) {σ : St} {v1 : Int32} {v2 : Int32} {v3 : Int32} {r : St} (h : M_setThreadLast σ v1 v2 v3 = some r) : Con l Z cC cFS cFA 23 n1 a ⟨cC, "setThreadLast", "(III)V"⟩ c7 4 none ⟨0, 0, 0, 0⟩ [.ref 0, .int v1, .int v2, .int v3] σ none r :=
  con_of_go pnC rfl (layW hw) lgood ha (fun X h1 K => ok_M_setThreadLast K hw h)
abbrev KM_M_clearThreadLast (X : Cx (St × Nat)) (Z : State) (a0 : Array Value) (l : Launch) (n1 : Nat) (a : Addr) (h0 : Heap) : Prop := CtxC X Z a0 cC cFS cFA 23 27 l n1 a h0 ce0 ⟨1, 0, 0, 15⟩ "clearThreadLast" c6 3 none
def M_clearThreadLast_w2 (NF : Nat) (k2 : Int32 → Int32 → St → Option (St)) (i1 : Int32) (i2 : Int32) (σ : St) : Option (St) :=
  (if i2 < (6 : Int32) then ((M_setThreadLast σ i1 i2 (0 : Int32)).bind fun q12 => k2 i1 (i2 + (1 : Int32)) q12) else (some σ))
theorem ok_M_clearThreadLast_w2 {X : Cx (St × Nat)} {Z : State} {a0 : Array Value} {l : Launch} {n1 : Nat} {a : Addr} {h0 : Heap} {NF : Nat} (K : KM_M_clearThreadLast X Z a0 l n1 a h0) (hw : HW a0 Z) {k2 : Int32 → Int32 → St → Option (St)} {i1 : Int32} {i2 : Int32} {σ : St} {r : St} (hk2 : ∀ (i1 : Int32) (i2 : Int32) (σ : St) (h : k2 i1 i2 σ = some r), Go X (none, (r, 23)) 2 [some (.ref 0), some (.int i1), some (.int i2)] [] (σ, 23)) (h : M_clearThreadLast_w2 NF k2 i1 i2 σ = some r) : Go X (none, (r, 23)) 2 [some (.ref 0), some (.int i1), some (.int i2)] [] (σ, 23) := by
  unfold M_clearThreadLast_w2 at h
  refine g_iloadN (pc := 2) K.1 d6_2 rfl ?_
  refine g_bipush (pc := 3) (v := 6) K.1 d6_3 (by decide) ?_
  rcases ifs h with ⟨hc5, h⟩ | ⟨hc5, h⟩
  · refine g_icF (pc := 5) K.1 d6_5 ((tlt hc5).2.1) ?_
    refine g_aloadN (pc := 8) K.1 d6_8 rfl ?_
    refine g_iloadN (pc := 9) K.1 d6_9 rfl ?_
    refine g_iloadN (pc := 10) K.1 d6_10 rfl ?_
    refine g_iconst (pc := 11) (v := 0) K.1 d6_11 (by decide) ?_
    obtain ⟨q12, hq12, h⟩ := Option.bind_eq_some_iff.mp h
    refine g_callP (pc := 12) (vs := [.int i1, .int i2, .int (0 : Int32)]) K d6_12 (w80 hw) (w81 hw) (w82 hw) (w83 hw) hyC pd_0 rfl rfl (con_M_setThreadLast l Z a0 hw n1 a (ctx_le K) hq12) rfl (Nat.le_of_ble_eq_true rfl) (Nat.le_of_ble_eq_true rfl) rfl rfl ?_
    refine g_iinc (pc := 15) (w := 1) (L' := [some (.ref 0), some (.int i1), some (.int (i2 + (1 : Int32)))]) K.1 d6_15 rfl (by decide) rfl ?_
    refine g_goto (pc := 18) (pc' := 2) K.1 d6_18 (by decide) ?_
    exact hk2 _ _ _ h
  refine g_icT (pc := 5) (pc' := 21) K.1 d6_5 (by decide) ((flt hc5).2.1) ?_
  cases h; exact g_return K.1 d6_21 (capC K)
def M_clearThreadLast_l2 (NF : Nat)  : Nat → Int32 → Int32 → St → Option (St)
  | 0 => fun _ _ _ => none
  | n + 1 => fun i1 i2 σ => M_clearThreadLast_w2 NF  (M_clearThreadLast_l2 NF  n) i1 i2 σ
theorem ok_M_clearThreadLast_l2 {X : Cx (St × Nat)} {Z : State} {a0 : Array Value} {l : Launch} {n1 : Nat} {a : Addr} {h0 : Heap} {NF : Nat} (K : KM_M_clearThreadLast X Z a0 l n1 a h0) (hw : HW a0 Z) (n : Nat)  {r : St}  : ∀ (i1 : Int32) (i2 : Int32) (σ : St) (h : M_clearThreadLast_l2 NF  n i1 i2 σ = some r), Go X (none, (r, 23)) 2 [some (.ref 0), some (.int i1), some (.int i2)] [] (σ, 23) := by
  induction n with
  | zero => intro i1 i2 σ h; cases h
  | succ n ih => intro i1 i2 σ h; exact ok_M_clearThreadLast_w2 (NF := NF) K hw  ih h
def M_clearThreadLast (NF : Nat) (σ : St) (v1 : Int32) : Option (St) :=
  M_clearThreadLast_l2 NF NF v1 (0 : Int32) σ
theorem ok_M_clearThreadLast {X : Cx (St × Nat)} {Z : State} {a0 : Array Value} {l : Launch} {n1 : Nat} {a : Addr} {h0 : Heap} {NF : Nat} (K : KM_M_clearThreadLast X Z a0 l n1 a h0) (hw : HW a0 Z) {σ : St} {v1 : Int32} {r : St} (h : M_clearThreadLast NF σ v1 = some r) : Go X (none, (r, 23)) 0 [some (.ref 0), some (.int v1), none] [] (σ, 23) := by
  unfold M_clearThreadLast at h
  refine g_iconst (pc := 0) (v := 0) K.1 d6_0 (by decide) ?_
  refine g_istoreN (pc := 1) (L' := [some (.ref 0), some (.int v1), some (.int (0 : Int32))]) K.1 d6_1 (blt rfl) rfl ?_
  exact ok_M_clearThreadLast_l2 K hw NF  _ _ _ h
theorem con_M_clearThreadLast (l : Launch) (Z : State) (a0 : Array Value) (hw : HW a0 Z) (n1 : Nat) (a : Addr) (ha : n1 ≤ a) {NF : Nat} {σ : St} {v1 : Int32} {r : St} (h : M_clearThreadLast NF σ v1 = some r) : Con l Z cC cFS cFA 23 n1 a ⟨cC, "clearThreadLast", "(I)V"⟩ c6 3 none ⟨1, 0, 0, 15⟩ [.ref 0, .int v1] σ none r :=
  con_of_go pnC rfl (layW hw) lgood ha (fun X h1 K => ok_M_clearThreadLast K hw h)
abbrev KM_M_resetThreads (X : Cx (St × Nat)) (Z : State) (a0 : Array Value) (l : Launch) (n1 : Nat) (a : Addr) (h0 : Heap) : Prop := CtxC X Z a0 cC cFS cFA 23 27 l n1 a h0 ce0 ⟨2, 0, 0, 29⟩ "resetThreads" c5 2 none
def M_resetThreads_w2 (NF : Nat) (k2 : Int32 → St → Option (St)) (i1 : Int32) (σ : St) : Option (St) :=
  (if i1 < (6 : Int32) then (if 0 ≤ (i1).toInt ∧ (i1).toInt < 6 then (if 0 ≤ (i1).toInt ∧ (i1).toInt < 6 then (if 0 ≤ (i1).toInt ∧ (i1).toInt < 6 then (if 0 ≤ (i1).toInt ∧ (i1).toInt < 6 then (if 0 ≤ (i1).toInt ∧ (i1).toInt < 6 then (if 0 ≤ (i1).toInt ∧ (i1).toInt < 6 then ((M_clearThreadLast NF (sA (sA (sA (sA (sA (sA σ 7 (i1).toInt (0 : Int32)) 8 (i1).toInt (0 : Int32)) 9 (i1).toInt (0 : Int32)) 10 (i1).toInt (0 : Int32)) 11 (i1).toInt (0 : Int32)) 12 (i1).toInt (0 : Int32)) i1).bind fun q52 => k2 (i1 + (1 : Int32)) q52) else none) else none) else none) else none) else none) else none) else (some σ))
theorem ok_M_resetThreads_w2 {X : Cx (St × Nat)} {Z : State} {a0 : Array Value} {l : Launch} {n1 : Nat} {a : Addr} {h0 : Heap} {NF : Nat} (K : KM_M_resetThreads X Z a0 l n1 a h0) (hw : HW a0 Z) {k2 : Int32 → St → Option (St)} {i1 : Int32} {σ : St} {r : St} (hk2 : ∀ (i1 : Int32) (σ : St) (h : k2 i1 σ = some r), Go X (none, (r, 23)) 2 [some (.ref 0), some (.int i1)] [] (σ, 23)) (h : M_resetThreads_w2 NF k2 i1 σ = some r) : Go X (none, (r, 23)) 2 [some (.ref 0), some (.int i1)] [] (σ, 23) := by
  unfold M_resetThreads_w2 at h
  refine g_iloadN (pc := 2) K.1 d5_2 rfl ?_
  refine g_bipush (pc := 3) (v := 6) K.1 d5_3 (by decide) ?_
  rcases ifs h with ⟨hc5, h⟩ | ⟨hc5, h⟩
  · refine g_icF (pc := 5) K.1 d5_5 ((tlt hc5).2.1) ?_
    refine g_aloadN (pc := 8) K.1 d5_8 rfl ?_
    refine g_getA (pc := 9) K d5_9 (w22 hw) mf_thPhase rfl ?_
    refine g_iloadN (pc := 12) K.1 d5_12 rfl ?_
    refine g_iconst (pc := 13) (v := 0) K.1 d5_13 (by decide) ?_
    obtain ⟨hc14, h⟩ := ifn h
    refine g_iastore (pc := 14) K d5_14 ma_thPhase rfl hc14 ?_
    refine g_aloadN (pc := 15) K.1 d5_15 rfl ?_
    refine g_getA (pc := 16) K d5_16 (w24 hw) mf_thOwn rfl ?_
    refine g_iloadN (pc := 19) K.1 d5_19 rfl ?_
    refine g_iconst (pc := 20) (v := 0) K.1 d5_20 (by decide) ?_
    obtain ⟨hc21, h⟩ := ifn h
    refine g_iastore (pc := 21) K d5_21 ma_thOwn rfl hc21 ?_
    refine g_aloadN (pc := 22) K.1 d5_22 rfl ?_
    refine g_getA (pc := 23) K d5_23 (w26 hw) mf_thP rfl ?_
    refine g_iloadN (pc := 26) K.1 d5_26 rfl ?_
    refine g_iconst (pc := 27) (v := 0) K.1 d5_27 (by decide) ?_
    obtain ⟨hc28, h⟩ := ifn h
    refine g_iastore (pc := 28) K d5_28 ma_thP rfl hc28 ?_
    refine g_aloadN (pc := 29) K.1 d5_29 rfl ?_
    refine g_getA (pc := 30) K d5_30 (w28 hw) mf_thC rfl ?_
    refine g_iloadN (pc := 33) K.1 d5_33 rfl ?_
    refine g_iconst (pc := 34) (v := 0) K.1 d5_34 (by decide) ?_
    obtain ⟨hc35, h⟩ := ifn h
    refine g_iastore (pc := 35) K d5_35 ma_thC rfl hc35 ?_
    refine g_aloadN (pc := 36) K.1 d5_36 rfl ?_
    refine g_getA (pc := 37) K d5_37 (w30 hw) mf_thSteps rfl ?_
    refine g_iloadN (pc := 40) K.1 d5_40 rfl ?_
    refine g_iconst (pc := 41) (v := 0) K.1 d5_41 (by decide) ?_
    obtain ⟨hc42, h⟩ := ifn h
    refine g_iastore (pc := 42) K d5_42 ma_thSteps rfl hc42 ?_
    refine g_aloadN (pc := 43) K.1 d5_43 rfl ?_
    refine g_getA (pc := 44) K d5_44 (w32 hw) mf_thHelped rfl ?_
    refine g_iloadN (pc := 47) K.1 d5_47 rfl ?_
    refine g_iconst (pc := 48) (v := 0) K.1 d5_48 (by decide) ?_
    obtain ⟨hc49, h⟩ := ifn h
    refine g_iastore (pc := 49) K d5_49 ma_thHelped rfl hc49 ?_
    refine g_aloadN (pc := 50) K.1 d5_50 rfl ?_
    refine g_iloadN (pc := 51) K.1 d5_51 rfl ?_
    obtain ⟨q52, hq52, h⟩ := Option.bind_eq_some_iff.mp h
    refine g_callP (pc := 52) (vs := [.int i1]) K d5_52 (w76 hw) (w77 hw) (w78 hw) (w79 hw) hyC pd_1 rfl rfl (con_M_clearThreadLast l Z a0 hw n1 a (ctx_le K) hq52) rfl (Nat.le_of_ble_eq_true rfl) (Nat.le_of_ble_eq_true rfl) rfl rfl ?_
    refine g_iinc (pc := 55) (w := 1) (L' := [some (.ref 0), some (.int (i1 + (1 : Int32)))]) K.1 d5_55 rfl (by decide) rfl ?_
    refine g_goto (pc := 58) (pc' := 2) K.1 d5_58 (by decide) ?_
    exact hk2 _ _ h
  refine g_icT (pc := 5) (pc' := 61) K.1 d5_5 (by decide) ((flt hc5).2.1) ?_
  cases h; exact g_return K.1 d5_61 (capC K)
def M_resetThreads_l2 (NF : Nat)  : Nat → Int32 → St → Option (St)
  | 0 => fun _ _ => none
  | n + 1 => fun i1 σ => M_resetThreads_w2 NF  (M_resetThreads_l2 NF  n) i1 σ
theorem ok_M_resetThreads_l2 {X : Cx (St × Nat)} {Z : State} {a0 : Array Value} {l : Launch} {n1 : Nat} {a : Addr} {h0 : Heap} {NF : Nat} (K : KM_M_resetThreads X Z a0 l n1 a h0) (hw : HW a0 Z) (n : Nat)  {r : St}  : ∀ (i1 : Int32) (σ : St) (h : M_resetThreads_l2 NF  n i1 σ = some r), Go X (none, (r, 23)) 2 [some (.ref 0), some (.int i1)] [] (σ, 23) := by
  induction n with
  | zero => intro i1 σ h; cases h
  | succ n ih => intro i1 σ h; exact ok_M_resetThreads_w2 (NF := NF) K hw  ih h
def M_resetThreads (NF : Nat) (σ : St) : Option (St) :=
  M_resetThreads_l2 NF NF (0 : Int32) σ
theorem ok_M_resetThreads {X : Cx (St × Nat)} {Z : State} {a0 : Array Value} {l : Launch} {n1 : Nat} {a : Addr} {h0 : Heap} {NF : Nat} (K : KM_M_resetThreads X Z a0 l n1 a h0) (hw : HW a0 Z) {σ : St} {r : St} (h : M_resetThreads NF σ = some r) : Go X (none, (r, 23)) 0 [some (.ref 0), none] [] (σ, 23) := by
  unfold M_resetThreads at h
  refine g_iconst (pc := 0) (v := 0) K.1 d5_0 (by decide) ?_
  refine g_istoreN (pc := 1) (L' := [some (.ref 0), some (.int (0 : Int32))]) K.1 d5_1 (blt rfl) rfl ?_
  exact ok_M_resetThreads_l2 K hw NF  _ _ h
theorem con_M_resetThreads (l : Launch) (Z : State) (a0 : Array Value) (hw : HW a0 Z) (n1 : Nat) (a : Addr) (ha : n1 ≤ a) {NF : Nat} {σ : St} {r : St} (h : M_resetThreads NF σ = some r) : Con l Z cC cFS cFA 23 n1 a ⟨cC, "resetThreads", "()V"⟩ c5 2 none ⟨2, 0, 0, 29⟩ [.ref 0] σ none r :=
  con_of_go pnC rfl (layW hw) lgood ha (fun X h1 K => ok_M_resetThreads K hw h)
abbrev KM_M_resetAnnounces (X : Cx (St × Nat)) (Z : State) (a0 : Array Value) (l : Launch) (n1 : Nat) (a : Addr) (h0 : Heap) : Prop := CtxC X Z a0 cC cFS cFA 23 27 l n1 a h0 ce0 ⟨0, 0, 0, 0⟩ "resetAnnounces" c8 2 none
def M_resetAnnounces_w2 (NF : Nat) (k2 : Int32 → St → Option (St)) (i1 : Int32) (σ : St) : Option (St) :=
  (if i1 < (6 : Int32) then (if 0 ≤ (i1).toInt ∧ (i1).toInt < 6 then (if 0 ≤ (i1).toInt ∧ (i1).toInt < 6 then (if 0 ≤ (i1).toInt ∧ (i1).toInt < 6 then k2 (i1 + (1 : Int32)) (sA (sA (sA σ 14 (i1).toInt (0 : Int32)) 15 (i1).toInt (0 : Int32)) 16 (i1).toInt (0 : Int32)) else none) else none) else none) else (some σ))
theorem ok_M_resetAnnounces_w2 {X : Cx (St × Nat)} {Z : State} {a0 : Array Value} {l : Launch} {n1 : Nat} {a : Addr} {h0 : Heap} {NF : Nat} (K : KM_M_resetAnnounces X Z a0 l n1 a h0) (hw : HW a0 Z) {k2 : Int32 → St → Option (St)} {i1 : Int32} {σ : St} {r : St} (hk2 : ∀ (i1 : Int32) (σ : St) (h : k2 i1 σ = some r), Go X (none, (r, 23)) 2 [some (.ref 0), some (.int i1)] [] (σ, 23)) (h : M_resetAnnounces_w2 NF k2 i1 σ = some r) : Go X (none, (r, 23)) 2 [some (.ref 0), some (.int i1)] [] (σ, 23) := by
  unfold M_resetAnnounces_w2 at h
  refine g_iloadN (pc := 2) K.1 d8_2 rfl ?_
  refine g_bipush (pc := 3) (v := 6) K.1 d8_3 (by decide) ?_
  rcases ifs h with ⟨hc5, h⟩ | ⟨hc5, h⟩
  · refine g_icF (pc := 5) K.1 d8_5 ((tlt hc5).2.1) ?_
    refine g_aloadN (pc := 8) K.1 d8_8 rfl ?_
    refine g_getA (pc := 9) K d8_9 (w36 hw) mf_annId rfl ?_
    refine g_iloadN (pc := 12) K.1 d8_12 rfl ?_
    refine g_iconst (pc := 13) (v := 0) K.1 d8_13 (by decide) ?_
    obtain ⟨hc14, h⟩ := ifn h
    refine g_iastore (pc := 14) K d8_14 ma_annId rfl hc14 ?_
    refine g_aloadN (pc := 15) K.1 d8_15 rfl ?_
    refine g_getA (pc := 16) K d8_16 (w38 hw) mf_annKind rfl ?_
    refine g_iloadN (pc := 19) K.1 d8_19 rfl ?_
    refine g_iconst (pc := 20) (v := 0) K.1 d8_20 (by decide) ?_
    obtain ⟨hc21, h⟩ := ifn h
    refine g_iastore (pc := 21) K d8_21 ma_annKind rfl hc21 ?_
    refine g_aloadN (pc := 22) K.1 d8_22 rfl ?_
    refine g_getA (pc := 23) K d8_23 (w40 hw) mf_annArg rfl ?_
    refine g_iloadN (pc := 26) K.1 d8_26 rfl ?_
    refine g_iconst (pc := 27) (v := 0) K.1 d8_27 (by decide) ?_
    obtain ⟨hc28, h⟩ := ifn h
    refine g_iastore (pc := 28) K d8_28 ma_annArg rfl hc28 ?_
    refine g_iinc (pc := 29) (w := 1) (L' := [some (.ref 0), some (.int (i1 + (1 : Int32)))]) K.1 d8_29 rfl (by decide) rfl ?_
    refine g_goto (pc := 32) (pc' := 2) K.1 d8_32 (by decide) ?_
    exact hk2 _ _ h
  refine g_icT (pc := 5) (pc' := 35) K.1 d8_5 (by decide) ((flt hc5).2.1) ?_
  cases h; exact g_return K.1 d8_35 (capC K)
def M_resetAnnounces_l2 (NF : Nat)  : Nat → Int32 → St → Option (St)
  | 0 => fun _ _ => none
  | n + 1 => fun i1 σ => M_resetAnnounces_w2 NF  (M_resetAnnounces_l2 NF  n) i1 σ
theorem ok_M_resetAnnounces_l2 {X : Cx (St × Nat)} {Z : State} {a0 : Array Value} {l : Launch} {n1 : Nat} {a : Addr} {h0 : Heap} {NF : Nat} (K : KM_M_resetAnnounces X Z a0 l n1 a h0) (hw : HW a0 Z) (n : Nat)  {r : St}  : ∀ (i1 : Int32) (σ : St) (h : M_resetAnnounces_l2 NF  n i1 σ = some r), Go X (none, (r, 23)) 2 [some (.ref 0), some (.int i1)] [] (σ, 23) := by
  induction n with
  | zero => intro i1 σ h; cases h
  | succ n ih => intro i1 σ h; exact ok_M_resetAnnounces_w2 (NF := NF) K hw  ih h
def M_resetAnnounces (NF : Nat) (σ : St) : Option (St) :=
  M_resetAnnounces_l2 NF NF (0 : Int32) σ
theorem ok_M_resetAnnounces {X : Cx (St × Nat)} {Z : State} {a0 : Array Value} {l : Launch} {n1 : Nat} {a : Addr} {h0 : Heap} {NF : Nat} (K : KM_M_resetAnnounces X Z a0 l n1 a h0) (hw : HW a0 Z) {σ : St} {r : St} (h : M_resetAnnounces NF σ = some r) : Go X (none, (r, 23)) 0 [some (.ref 0), none] [] (σ, 23) := by
  unfold M_resetAnnounces at h
  refine g_iconst (pc := 0) (v := 0) K.1 d8_0 (by decide) ?_
  refine g_istoreN (pc := 1) (L' := [some (.ref 0), some (.int (0 : Int32))]) K.1 d8_1 (blt rfl) rfl ?_
  exact ok_M_resetAnnounces_l2 K hw NF  _ _ h
theorem con_M_resetAnnounces (l : Launch) (Z : State) (a0 : Array Value) (hw : HW a0 Z) (n1 : Nat) (a : Addr) (ha : n1 ≤ a) {NF : Nat} {σ : St} {r : St} (h : M_resetAnnounces NF σ = some r) : Con l Z cC cFS cFA 23 n1 a ⟨cC, "resetAnnounces", "()V"⟩ c8 2 none ⟨0, 0, 0, 0⟩ [.ref 0] σ none r :=
  con_of_go pnC rfl (layW hw) lgood ha (fun X h1 K => ok_M_resetAnnounces K hw h)
abbrev KM_M_writeQueueSlot (X : Cx (St × Nat)) (Z : State) (a0 : Array Value) (l : Launch) (n1 : Nat) (a : Addr) (h0 : Heap) : Prop := CtxC X Z a0 cC cFS cFA 23 27 l n1 a h0 ce0 ⟨0, 0, 0, 0⟩ "writeQueueSlot" c11 4 none
def M_writeQueueSlot (σ : St) (v1 : Int32) (v2 : Int32) (v3 : Int32) : Option (St) :=
  (if v1 < 0 then (some σ) else (if v1 < (8 : Int32) then (if v2 < 0 then (some σ) else (if v2 < (4 : Int32) then (if 0 ≤ (((v1 * (4 : Int32)) + v2)).toInt ∧ (((v1 * (4 : Int32)) + v2)).toInt < 32 then (some (sA σ 22 (((v1 * (4 : Int32)) + v2)).toInt v3)) else none) else (some σ))) else (some σ)))
theorem ok_M_writeQueueSlot {X : Cx (St × Nat)} {Z : State} {a0 : Array Value} {l : Launch} {n1 : Nat} {a : Addr} {h0 : Heap} (K : KM_M_writeQueueSlot X Z a0 l n1 a h0) (hw : HW a0 Z) {σ : St} {v1 : Int32} {v2 : Int32} {v3 : Int32} {r : St} (h : M_writeQueueSlot σ v1 v2 v3 = some r) : Go X (none, (r, 23)) 0 [some (.ref 0), some (.int v1), some (.int v2), some (.int v3)] [] (σ, 23) := by
  unfold M_writeQueueSlot at h
  refine g_iloadN (pc := 0) K.1 d11_0 rfl ?_
  rcases ifs h with ⟨hc1, h⟩ | ⟨hc1, h⟩
  · refine g_ifT (pc := 1) (pc' := 19) K.1 d11_1 (by decide) ((if0 _ _).trans (tlt hc1).1) ?_
    cases h; exact g_return K.1 d11_19 (capC K)
  refine g_ifF (pc := 1) K.1 d11_1 ((if0 _ _).trans (flt hc1).1) ?_
  refine g_iloadN (pc := 4) K.1 d11_4 rfl ?_
  refine g_bipush (pc := 5) (v := 8) K.1 d11_5 (by decide) ?_
  rcases ifs h with ⟨hc7, h⟩ | ⟨hc7, h⟩
  · refine g_icF (pc := 7) K.1 d11_7 ((tlt hc7).2.1) ?_
    refine g_iloadN (pc := 10) K.1 d11_10 rfl ?_
    rcases ifs h with ⟨hc11, h⟩ | ⟨hc11, h⟩
    · refine g_ifT (pc := 11) (pc' := 19) K.1 d11_11 (by decide) ((if0 _ _).trans (tlt hc11).1) ?_
      cases h; exact g_return K.1 d11_19 (capC K)
    refine g_ifF (pc := 11) K.1 d11_11 ((if0 _ _).trans (flt hc11).1) ?_
    refine g_iloadN (pc := 14) K.1 d11_14 rfl ?_
    refine g_iconst (pc := 15) (v := 4) K.1 d11_15 (by decide) ?_
    rcases ifs h with ⟨hc16, h⟩ | ⟨hc16, h⟩
    · refine g_icT (pc := 16) (pc' := 20) K.1 d11_16 (by decide) ((tlt hc16).1) ?_
      refine g_aloadN (pc := 20) K.1 d11_20 rfl ?_
      refine g_getA (pc := 21) K d11_21 (w52 hw) mf_cellQ rfl ?_
      refine g_iloadN (pc := 24) K.1 d11_24 rfl ?_
      refine g_iconst (pc := 25) (v := 4) K.1 d11_25 (by decide) ?_
      refine g_imul (pc := 26) K.1 d11_26 ?_
      refine g_iloadN (pc := 27) K.1 d11_27 rfl ?_
      refine g_iadd (pc := 28) K.1 d11_28 ?_
      refine g_iloadN (pc := 29) K.1 d11_29 rfl ?_
      obtain ⟨hc30, h⟩ := ifn h
      refine g_iastore (pc := 30) K d11_30 ma_cellQ rfl hc30 ?_
      cases h; exact g_return K.1 d11_31 (capC K)
    refine g_icF (pc := 16) K.1 d11_16 ((flt hc16).1) ?_
    cases h; exact g_return K.1 d11_19 (capC K)
  refine g_icT (pc := 7) (pc' := 19) K.1 d11_7 (by decide) ((flt hc7).2.1) ?_
  cases h; exact g_return K.1 d11_19 (capC K)
theorem con_M_writeQueueSlot (l : Launch) (Z : State) (a0 : Array Value) (hw : HW a0 Z) (n1 : Nat) (a : Addr) (ha : n1 ≤ a) {σ : St} {v1 : Int32} {v2 : Int32} {v3 : Int32} {r : St} (h : M_writeQueueSlot σ v1 v2 v3 = some r) : Con l Z cC cFS cFA 23 n1 a ⟨cC, "writeQueueSlot", "(III)V"⟩ c11 4 none ⟨0, 0, 0, 0⟩ [.ref 0, .int v1, .int v2, .int v3] σ none r :=
  con_of_go pnC rfl (layW hw) lgood ha (fun X h1 K => ok_M_writeQueueSlot K hw h)
abbrev KM_M_clearCellQueue (X : Cx (St × Nat)) (Z : State) (a0 : Array Value) (l : Launch) (n1 : Nat) (a : Addr) (h0 : Heap) : Prop := CtxC X Z a0 cC cFS cFA 23 27 l n1 a h0 ce0 ⟨1, 0, 0, 15⟩ "clearCellQueue" c10 3 none
def M_clearCellQueue_w2 (NF : Nat) (k2 : Int32 → Int32 → St → Option (St)) (i1 : Int32) (i2 : Int32) (σ : St) : Option (St) :=
  (if i2 < (4 : Int32) then ((M_writeQueueSlot σ i1 i2 (0 : Int32)).bind fun q11 => k2 i1 (i2 + (1 : Int32)) q11) else (some σ))
theorem ok_M_clearCellQueue_w2 {X : Cx (St × Nat)} {Z : State} {a0 : Array Value} {l : Launch} {n1 : Nat} {a : Addr} {h0 : Heap} {NF : Nat} (K : KM_M_clearCellQueue X Z a0 l n1 a h0) (hw : HW a0 Z) {k2 : Int32 → Int32 → St → Option (St)} {i1 : Int32} {i2 : Int32} {σ : St} {r : St} (hk2 : ∀ (i1 : Int32) (i2 : Int32) (σ : St) (h : k2 i1 i2 σ = some r), Go X (none, (r, 23)) 2 [some (.ref 0), some (.int i1), some (.int i2)] [] (σ, 23)) (h : M_clearCellQueue_w2 NF k2 i1 i2 σ = some r) : Go X (none, (r, 23)) 2 [some (.ref 0), some (.int i1), some (.int i2)] [] (σ, 23) := by
  unfold M_clearCellQueue_w2 at h
  refine g_iloadN (pc := 2) K.1 d10_2 rfl ?_
  refine g_iconst (pc := 3) (v := 4) K.1 d10_3 (by decide) ?_
  rcases ifs h with ⟨hc4, h⟩ | ⟨hc4, h⟩
  · refine g_icF (pc := 4) K.1 d10_4 ((tlt hc4).2.1) ?_
    refine g_aloadN (pc := 7) K.1 d10_7 rfl ?_
    refine g_iloadN (pc := 8) K.1 d10_8 rfl ?_
    refine g_iloadN (pc := 9) K.1 d10_9 rfl ?_
    refine g_iconst (pc := 10) (v := 0) K.1 d10_10 (by decide) ?_
    obtain ⟨q11, hq11, h⟩ := Option.bind_eq_some_iff.mp h
    refine g_callP (pc := 11) (vs := [.int i1, .int i2, .int (0 : Int32)]) K d10_11 (w96 hw) (w97 hw) (w98 hw) (w99 hw) hyC pd_0 rfl rfl (con_M_writeQueueSlot l Z a0 hw n1 a (ctx_le K) hq11) rfl (Nat.le_of_ble_eq_true rfl) (Nat.le_of_ble_eq_true rfl) rfl rfl ?_
    refine g_iinc (pc := 14) (w := 1) (L' := [some (.ref 0), some (.int i1), some (.int (i2 + (1 : Int32)))]) K.1 d10_14 rfl (by decide) rfl ?_
    refine g_goto (pc := 17) (pc' := 2) K.1 d10_17 (by decide) ?_
    exact hk2 _ _ _ h
  refine g_icT (pc := 4) (pc' := 20) K.1 d10_4 (by decide) ((flt hc4).2.1) ?_
  cases h; exact g_return K.1 d10_20 (capC K)
def M_clearCellQueue_l2 (NF : Nat)  : Nat → Int32 → Int32 → St → Option (St)
  | 0 => fun _ _ _ => none
  | n + 1 => fun i1 i2 σ => M_clearCellQueue_w2 NF  (M_clearCellQueue_l2 NF  n) i1 i2 σ
theorem ok_M_clearCellQueue_l2 {X : Cx (St × Nat)} {Z : State} {a0 : Array Value} {l : Launch} {n1 : Nat} {a : Addr} {h0 : Heap} {NF : Nat} (K : KM_M_clearCellQueue X Z a0 l n1 a h0) (hw : HW a0 Z) (n : Nat)  {r : St}  : ∀ (i1 : Int32) (i2 : Int32) (σ : St) (h : M_clearCellQueue_l2 NF  n i1 i2 σ = some r), Go X (none, (r, 23)) 2 [some (.ref 0), some (.int i1), some (.int i2)] [] (σ, 23) := by
  induction n with
  | zero => intro i1 i2 σ h; cases h
  | succ n ih => intro i1 i2 σ h; exact ok_M_clearCellQueue_w2 (NF := NF) K hw  ih h
def M_clearCellQueue (NF : Nat) (σ : St) (v1 : Int32) : Option (St) :=
  M_clearCellQueue_l2 NF NF v1 (0 : Int32) σ
theorem ok_M_clearCellQueue {X : Cx (St × Nat)} {Z : State} {a0 : Array Value} {l : Launch} {n1 : Nat} {a : Addr} {h0 : Heap} {NF : Nat} (K : KM_M_clearCellQueue X Z a0 l n1 a h0) (hw : HW a0 Z) {σ : St} {v1 : Int32} {r : St} (h : M_clearCellQueue NF σ v1 = some r) : Go X (none, (r, 23)) 0 [some (.ref 0), some (.int v1), none] [] (σ, 23) := by
  unfold M_clearCellQueue at h
  refine g_iconst (pc := 0) (v := 0) K.1 d10_0 (by decide) ?_
  refine g_istoreN (pc := 1) (L' := [some (.ref 0), some (.int v1), some (.int (0 : Int32))]) K.1 d10_1 (blt rfl) rfl ?_
  exact ok_M_clearCellQueue_l2 K hw NF  _ _ _ h
theorem con_M_clearCellQueue (l : Launch) (Z : State) (a0 : Array Value) (hw : HW a0 Z) (n1 : Nat) (a : Addr) (ha : n1 ≤ a) {NF : Nat} {σ : St} {v1 : Int32} {r : St} (h : M_clearCellQueue NF σ v1 = some r) : Con l Z cC cFS cFA 23 n1 a ⟨cC, "clearCellQueue", "(I)V"⟩ c10 3 none ⟨1, 0, 0, 15⟩ [.ref 0, .int v1] σ none r :=
  con_of_go pnC rfl (layW hw) lgood ha (fun X h1 K => ok_M_clearCellQueue K hw h)
abbrev KM_M_setCellLast (X : Cx (St × Nat)) (Z : State) (a0 : Array Value) (l : Launch) (n1 : Nat) (a : Addr) (h0 : Heap) : Prop := CtxC X Z a0 cC cFS cFA 23 27 l n1 a h0 ce0 ⟨0, 0, 0, 0⟩ "setCellLast" c13 4 none
def M_setCellLast (σ : St) (v1 : Int32) (v2 : Int32) (v3 : Int32) : Option (St) :=
  (if v1 < 0 then (some σ) else (if v1 < (8 : Int32) then (if v2 < 0 then (some σ) else (if v2 < (6 : Int32) then (if 0 ≤ (((v1 * (6 : Int32)) + v2)).toInt ∧ (((v1 * (6 : Int32)) + v2)).toInt < 48 then (some (sA σ 23 (((v1 * (6 : Int32)) + v2)).toInt v3)) else none) else (some σ))) else (some σ)))
theorem ok_M_setCellLast {X : Cx (St × Nat)} {Z : State} {a0 : Array Value} {l : Launch} {n1 : Nat} {a : Addr} {h0 : Heap} (K : KM_M_setCellLast X Z a0 l n1 a h0) (hw : HW a0 Z) {σ : St} {v1 : Int32} {v2 : Int32} {v3 : Int32} {r : St} (h : M_setCellLast σ v1 v2 v3 = some r) : Go X (none, (r, 23)) 0 [some (.ref 0), some (.int v1), some (.int v2), some (.int v3)] [] (σ, 23) := by
  unfold M_setCellLast at h
  refine g_iloadN (pc := 0) K.1 d13_0 rfl ?_
  rcases ifs h with ⟨hc1, h⟩ | ⟨hc1, h⟩
  · refine g_ifT (pc := 1) (pc' := 20) K.1 d13_1 (by decide) ((if0 _ _).trans (tlt hc1).1) ?_
    cases h; exact g_return K.1 d13_20 (capC K)
  refine g_ifF (pc := 1) K.1 d13_1 ((if0 _ _).trans (flt hc1).1) ?_
  refine g_iloadN (pc := 4) K.1 d13_4 rfl ?_
  refine g_bipush (pc := 5) (v := 8) K.1 d13_5 (by decide) ?_
  rcases ifs h with ⟨hc7, h⟩ | ⟨hc7, h⟩
  · refine g_icF (pc := 7) K.1 d13_7 ((tlt hc7).2.1) ?_
    refine g_iloadN (pc := 10) K.1 d13_10 rfl ?_
    rcases ifs h with ⟨hc11, h⟩ | ⟨hc11, h⟩
    · refine g_ifT (pc := 11) (pc' := 20) K.1 d13_11 (by decide) ((if0 _ _).trans (tlt hc11).1) ?_
      cases h; exact g_return K.1 d13_20 (capC K)
    refine g_ifF (pc := 11) K.1 d13_11 ((if0 _ _).trans (flt hc11).1) ?_
    refine g_iloadN (pc := 14) K.1 d13_14 rfl ?_
    refine g_bipush (pc := 15) (v := 6) K.1 d13_15 (by decide) ?_
    rcases ifs h with ⟨hc17, h⟩ | ⟨hc17, h⟩
    · refine g_icT (pc := 17) (pc' := 21) K.1 d13_17 (by decide) ((tlt hc17).1) ?_
      refine g_aloadN (pc := 21) K.1 d13_21 rfl ?_
      refine g_getA (pc := 22) K d13_22 (w54 hw) mf_cellLast rfl ?_
      refine g_iloadN (pc := 25) K.1 d13_25 rfl ?_
      refine g_bipush (pc := 26) (v := 6) K.1 d13_26 (by decide) ?_
      refine g_imul (pc := 28) K.1 d13_28 ?_
      refine g_iloadN (pc := 29) K.1 d13_29 rfl ?_
      refine g_iadd (pc := 30) K.1 d13_30 ?_
      refine g_iloadN (pc := 31) K.1 d13_31 rfl ?_
      obtain ⟨hc32, h⟩ := ifn h
      refine g_iastore (pc := 32) K d13_32 ma_cellLast rfl hc32 ?_
      cases h; exact g_return K.1 d13_33 (capC K)
    refine g_icF (pc := 17) K.1 d13_17 ((flt hc17).1) ?_
    cases h; exact g_return K.1 d13_20 (capC K)
  refine g_icT (pc := 7) (pc' := 20) K.1 d13_7 (by decide) ((flt hc7).2.1) ?_
  cases h; exact g_return K.1 d13_20 (capC K)
theorem con_M_setCellLast (l : Launch) (Z : State) (a0 : Array Value) (hw : HW a0 Z) (n1 : Nat) (a : Addr) (ha : n1 ≤ a) {σ : St} {v1 : Int32} {v2 : Int32} {v3 : Int32} {r : St} (h : M_setCellLast σ v1 v2 v3 = some r) : Con l Z cC cFS cFA 23 n1 a ⟨cC, "setCellLast", "(III)V"⟩ c13 4 none ⟨0, 0, 0, 0⟩ [.ref 0, .int v1, .int v2, .int v3] σ none r :=
  con_of_go pnC rfl (layW hw) lgood ha (fun X h1 K => ok_M_setCellLast K hw h)
abbrev KM_M_clearCellLast (X : Cx (St × Nat)) (Z : State) (a0 : Array Value) (l : Launch) (n1 : Nat) (a : Addr) (h0 : Heap) : Prop := CtxC X Z a0 cC cFS cFA 23 27 l n1 a h0 ce0 ⟨1, 0, 0, 15⟩ "clearCellLast" c12 3 none
def M_clearCellLast_w2 (NF : Nat) (k2 : Int32 → Int32 → St → Option (St)) (i1 : Int32) (i2 : Int32) (σ : St) : Option (St) :=
  (if i2 < (6 : Int32) then ((M_setCellLast σ i1 i2 (0 : Int32)).bind fun q12 => k2 i1 (i2 + (1 : Int32)) q12) else (some σ))
theorem ok_M_clearCellLast_w2 {X : Cx (St × Nat)} {Z : State} {a0 : Array Value} {l : Launch} {n1 : Nat} {a : Addr} {h0 : Heap} {NF : Nat} (K : KM_M_clearCellLast X Z a0 l n1 a h0) (hw : HW a0 Z) {k2 : Int32 → Int32 → St → Option (St)} {i1 : Int32} {i2 : Int32} {σ : St} {r : St} (hk2 : ∀ (i1 : Int32) (i2 : Int32) (σ : St) (h : k2 i1 i2 σ = some r), Go X (none, (r, 23)) 2 [some (.ref 0), some (.int i1), some (.int i2)] [] (σ, 23)) (h : M_clearCellLast_w2 NF k2 i1 i2 σ = some r) : Go X (none, (r, 23)) 2 [some (.ref 0), some (.int i1), some (.int i2)] [] (σ, 23) := by
  unfold M_clearCellLast_w2 at h
  refine g_iloadN (pc := 2) K.1 d12_2 rfl ?_
  refine g_bipush (pc := 3) (v := 6) K.1 d12_3 (by decide) ?_
  rcases ifs h with ⟨hc5, h⟩ | ⟨hc5, h⟩
  · refine g_icF (pc := 5) K.1 d12_5 ((tlt hc5).2.1) ?_
    refine g_aloadN (pc := 8) K.1 d12_8 rfl ?_
    refine g_iloadN (pc := 9) K.1 d12_9 rfl ?_
    refine g_iloadN (pc := 10) K.1 d12_10 rfl ?_
    refine g_iconst (pc := 11) (v := 0) K.1 d12_11 (by decide) ?_
    obtain ⟨q12, hq12, h⟩ := Option.bind_eq_some_iff.mp h
    refine g_callP (pc := 12) (vs := [.int i1, .int i2, .int (0 : Int32)]) K d12_12 (w104 hw) (w105 hw) (w106 hw) (w107 hw) hyC pd_0 rfl rfl (con_M_setCellLast l Z a0 hw n1 a (ctx_le K) hq12) rfl (Nat.le_of_ble_eq_true rfl) (Nat.le_of_ble_eq_true rfl) rfl rfl ?_
    refine g_iinc (pc := 15) (w := 1) (L' := [some (.ref 0), some (.int i1), some (.int (i2 + (1 : Int32)))]) K.1 d12_15 rfl (by decide) rfl ?_
    refine g_goto (pc := 18) (pc' := 2) K.1 d12_18 (by decide) ?_
    exact hk2 _ _ _ h
  refine g_icT (pc := 5) (pc' := 21) K.1 d12_5 (by decide) ((flt hc5).2.1) ?_
  cases h; exact g_return K.1 d12_21 (capC K)
def M_clearCellLast_l2 (NF : Nat)  : Nat → Int32 → Int32 → St → Option (St)
  | 0 => fun _ _ _ => none
  | n + 1 => fun i1 i2 σ => M_clearCellLast_w2 NF  (M_clearCellLast_l2 NF  n) i1 i2 σ
theorem ok_M_clearCellLast_l2 {X : Cx (St × Nat)} {Z : State} {a0 : Array Value} {l : Launch} {n1 : Nat} {a : Addr} {h0 : Heap} {NF : Nat} (K : KM_M_clearCellLast X Z a0 l n1 a h0) (hw : HW a0 Z) (n : Nat)  {r : St}  : ∀ (i1 : Int32) (i2 : Int32) (σ : St) (h : M_clearCellLast_l2 NF  n i1 i2 σ = some r), Go X (none, (r, 23)) 2 [some (.ref 0), some (.int i1), some (.int i2)] [] (σ, 23) := by
  induction n with
  | zero => intro i1 i2 σ h; cases h
  | succ n ih => intro i1 i2 σ h; exact ok_M_clearCellLast_w2 (NF := NF) K hw  ih h
def M_clearCellLast (NF : Nat) (σ : St) (v1 : Int32) : Option (St) :=
  M_clearCellLast_l2 NF NF v1 (0 : Int32) σ
theorem ok_M_clearCellLast {X : Cx (St × Nat)} {Z : State} {a0 : Array Value} {l : Launch} {n1 : Nat} {a : Addr} {h0 : Heap} {NF : Nat} (K : KM_M_clearCellLast X Z a0 l n1 a h0) (hw : HW a0 Z) {σ : St} {v1 : Int32} {r : St} (h : M_clearCellLast NF σ v1 = some r) : Go X (none, (r, 23)) 0 [some (.ref 0), some (.int v1), none] [] (σ, 23) := by
  unfold M_clearCellLast at h
  refine g_iconst (pc := 0) (v := 0) K.1 d12_0 (by decide) ?_
  refine g_istoreN (pc := 1) (L' := [some (.ref 0), some (.int v1), some (.int (0 : Int32))]) K.1 d12_1 (blt rfl) rfl ?_
  exact ok_M_clearCellLast_l2 K hw NF  _ _ _ h
theorem con_M_clearCellLast (l : Launch) (Z : State) (a0 : Array Value) (hw : HW a0 Z) (n1 : Nat) (a : Addr) (ha : n1 ≤ a) {NF : Nat} {σ : St} {v1 : Int32} {r : St} (h : M_clearCellLast NF σ v1 = some r) : Con l Z cC cFS cFA 23 n1 a ⟨cC, "clearCellLast", "(I)V"⟩ c12 3 none ⟨1, 0, 0, 15⟩ [.ref 0, .int v1] σ none r :=
  con_of_go pnC rfl (layW hw) lgood ha (fun X h1 K => ok_M_clearCellLast K hw h)
abbrev KM_M_resetCells (X : Cx (St × Nat)) (Z : State) (a0 : Array Value) (l : Launch) (n1 : Nat) (a : Addr) (h0 : Heap) : Prop := CtxC X Z a0 cC cFS cFA 23 27 l n1 a h0 ce0 ⟨2, 0, 0, 29⟩ "resetCells" c9 2 none
def M_resetCells_w2 (NF : Nat) (k2 : Int32 → St → Option (St)) (i1 : Int32) (σ : St) : Option (St) :=
  (if i1 < (8 : Int32) then (if 0 ≤ (i1).toInt ∧ (i1).toInt < 8 then (if 0 ≤ (i1).toInt ∧ (i1).toInt < 8 then (if 0 ≤ (i1).toInt ∧ (i1).toInt < 8 then (if 0 ≤ (i1).toInt ∧ (i1).toInt < 8 then (if 0 ≤ (i1).toInt ∧ (i1).toInt < 8 then ((M_clearCellQueue NF (sA (sA (sA (sA (sA σ 17 (i1).toInt (-1 : Int32)) 18 (i1).toInt (0 : Int32)) 19 (i1).toInt (0 : Int32)) 20 (i1).toInt (0 : Int32)) 21 (i1).toInt (0 : Int32)) i1).bind fun q45 => ((M_clearCellLast NF q45 i1).bind fun q50 => k2 (i1 + (1 : Int32)) q50)) else none) else none) else none) else none) else none) else (some (sA σ 17 ((0 : Int32)).toInt (0 : Int32))))
theorem ok_M_resetCells_w2 {X : Cx (St × Nat)} {Z : State} {a0 : Array Value} {l : Launch} {n1 : Nat} {a : Addr} {h0 : Heap} {NF : Nat} (K : KM_M_resetCells X Z a0 l n1 a h0) (hw : HW a0 Z) {k2 : Int32 → St → Option (St)} {i1 : Int32} {σ : St} {r : St} (hk2 : ∀ (i1 : Int32) (σ : St) (h : k2 i1 σ = some r), Go X (none, (r, 23)) 2 [some (.ref 0), some (.int i1)] [] (σ, 23)) (h : M_resetCells_w2 NF k2 i1 σ = some r) : Go X (none, (r, 23)) 2 [some (.ref 0), some (.int i1)] [] (σ, 23) := by
  unfold M_resetCells_w2 at h
  refine g_iloadN (pc := 2) K.1 d9_2 rfl ?_
  refine g_bipush (pc := 3) (v := 8) K.1 d9_3 (by decide) ?_
  rcases ifs h with ⟨hc5, h⟩ | ⟨hc5, h⟩
  · refine g_icF (pc := 5) K.1 d9_5 ((tlt hc5).2.1) ?_
    refine g_aloadN (pc := 8) K.1 d9_8 rfl ?_
    refine g_getA (pc := 9) K d9_9 (w42 hw) mf_cellPos rfl ?_
    refine g_iloadN (pc := 12) K.1 d9_12 rfl ?_
    refine g_iconst (pc := 13) (v := -1) K.1 d9_13 (by decide) ?_
    obtain ⟨hc14, h⟩ := ifn h
    refine g_iastore (pc := 14) K d9_14 ma_cellPos rfl hc14 ?_
    refine g_aloadN (pc := 15) K.1 d9_15 rfl ?_
    refine g_getA (pc := 16) K d9_16 (w44 hw) mf_cellId rfl ?_
    refine g_iloadN (pc := 19) K.1 d9_19 rfl ?_
    refine g_iconst (pc := 20) (v := 0) K.1 d9_20 (by decide) ?_
    obtain ⟨hc21, h⟩ := ifn h
    refine g_iastore (pc := 21) K d9_21 ma_cellId rfl hc21 ?_
    refine g_aloadN (pc := 22) K.1 d9_22 rfl ?_
    refine g_getA (pc := 23) K d9_23 (w46 hw) mf_cellResp rfl ?_
    refine g_iloadN (pc := 26) K.1 d9_26 rfl ?_
    refine g_iconst (pc := 27) (v := 0) K.1 d9_27 (by decide) ?_
    obtain ⟨hc28, h⟩ := ifn h
    refine g_iastore (pc := 28) K d9_28 ma_cellResp rfl hc28 ?_
    refine g_aloadN (pc := 29) K.1 d9_29 rfl ?_
    refine g_getA (pc := 30) K d9_30 (w48 hw) mf_cellCounter rfl ?_
    refine g_iloadN (pc := 33) K.1 d9_33 rfl ?_
    refine g_iconst (pc := 34) (v := 0) K.1 d9_34 (by decide) ?_
    obtain ⟨hc35, h⟩ := ifn h
    refine g_iastore (pc := 35) K d9_35 ma_cellCounter rfl hc35 ?_
    refine g_aloadN (pc := 36) K.1 d9_36 rfl ?_
    refine g_getA (pc := 37) K d9_37 (w50 hw) mf_cellQLen rfl ?_
    refine g_iloadN (pc := 40) K.1 d9_40 rfl ?_
    refine g_iconst (pc := 41) (v := 0) K.1 d9_41 (by decide) ?_
    obtain ⟨hc42, h⟩ := ifn h
    refine g_iastore (pc := 42) K d9_42 ma_cellQLen rfl hc42 ?_
    refine g_aloadN (pc := 43) K.1 d9_43 rfl ?_
    refine g_iloadN (pc := 44) K.1 d9_44 rfl ?_
    obtain ⟨q45, hq45, h⟩ := Option.bind_eq_some_iff.mp h
    refine g_callP (pc := 45) (vs := [.int i1]) K d9_45 (w92 hw) (w93 hw) (w94 hw) (w95 hw) hyC pd_1 rfl rfl (con_M_clearCellQueue l Z a0 hw n1 a (ctx_le K) hq45) rfl (Nat.le_of_ble_eq_true rfl) (Nat.le_of_ble_eq_true rfl) rfl rfl ?_
    refine g_aloadN (pc := 48) K.1 d9_48 rfl ?_
    refine g_iloadN (pc := 49) K.1 d9_49 rfl ?_
    obtain ⟨q50, hq50, h⟩ := Option.bind_eq_some_iff.mp h
    refine g_callP (pc := 50) (vs := [.int i1]) K d9_50 (w100 hw) (w101 hw) (w102 hw) (w103 hw) hyC pd_1 rfl rfl (con_M_clearCellLast l Z a0 hw n1 a (ctx_le K) hq50) rfl (Nat.le_of_ble_eq_true rfl) (Nat.le_of_ble_eq_true rfl) rfl rfl ?_
    refine g_iinc (pc := 53) (w := 1) (L' := [some (.ref 0), some (.int (i1 + (1 : Int32)))]) K.1 d9_53 rfl (by decide) rfl ?_
    refine g_goto (pc := 56) (pc' := 2) K.1 d9_56 (by decide) ?_
    exact hk2 _ _ h
  refine g_icT (pc := 5) (pc' := 59) K.1 d9_5 (by decide) ((flt hc5).2.1) ?_
  refine g_aloadN (pc := 59) K.1 d9_59 rfl ?_
  refine g_getA (pc := 60) K d9_60 (w42 hw) mf_cellPos rfl ?_
  refine g_iconst (pc := 63) (v := 0) K.1 d9_63 (by decide) ?_
  refine g_iconst (pc := 64) (v := 0) K.1 d9_64 (by decide) ?_
  refine g_iastore (pc := 65) K d9_65 ma_cellPos rfl (by decide) ?_
  cases h; exact g_return K.1 d9_66 (capC K)
def M_resetCells_l2 (NF : Nat)  : Nat → Int32 → St → Option (St)
  | 0 => fun _ _ => none
  | n + 1 => fun i1 σ => M_resetCells_w2 NF  (M_resetCells_l2 NF  n) i1 σ
theorem ok_M_resetCells_l2 {X : Cx (St × Nat)} {Z : State} {a0 : Array Value} {l : Launch} {n1 : Nat} {a : Addr} {h0 : Heap} {NF : Nat} (K : KM_M_resetCells X Z a0 l n1 a h0) (hw : HW a0 Z) (n : Nat)  {r : St}  : ∀ (i1 : Int32) (σ : St) (h : M_resetCells_l2 NF  n i1 σ = some r), Go X (none, (r, 23)) 2 [some (.ref 0), some (.int i1)] [] (σ, 23) := by
  induction n with
  | zero => intro i1 σ h; cases h
  | succ n ih => intro i1 σ h; exact ok_M_resetCells_w2 (NF := NF) K hw  ih h
def M_resetCells (NF : Nat) (σ : St) : Option (St) :=
  M_resetCells_l2 NF NF (0 : Int32) σ
theorem ok_M_resetCells {X : Cx (St × Nat)} {Z : State} {a0 : Array Value} {l : Launch} {n1 : Nat} {a : Addr} {h0 : Heap} {NF : Nat} (K : KM_M_resetCells X Z a0 l n1 a h0) (hw : HW a0 Z) {σ : St} {r : St} (h : M_resetCells NF σ = some r) : Go X (none, (r, 23)) 0 [some (.ref 0), none] [] (σ, 23) := by
  unfold M_resetCells at h
  refine g_iconst (pc := 0) (v := 0) K.1 d9_0 (by decide) ?_
  refine g_istoreN (pc := 1) (L' := [some (.ref 0), some (.int (0 : Int32))]) K.1 d9_1 (blt rfl) rfl ?_
  exact ok_M_resetCells_l2 K hw NF  _ _ h
theorem con_M_resetCells (l : Launch) (Z : State) (a0 : Array Value) (hw : HW a0 Z) (n1 : Nat) (a : Addr) (ha : n1 ≤ a) {NF : Nat} {σ : St} {r : St} (h : M_resetCells NF σ = some r) : Con l Z cC cFS cFA 23 n1 a ⟨cC, "resetCells", "()V"⟩ c9 2 none ⟨2, 0, 0, 29⟩ [.ref 0] σ none r :=
  con_of_go pnC rfl (layW hw) lgood ha (fun X h1 K => ok_M_resetCells K hw h)
abbrev KM_M_init (X : Cx (St × Nat)) (Z : State) (a0 : Array Value) (l : Launch) (n1 : Nat) (a : Addr) (h0 : Heap) : Prop := CtxC X Z a0 cC cFS cFA 23 27 l n1 a h0 (ceI cFA) ⟨3, 23, 1656, 42⟩ "<init>" c2 3 none
def M_init (NF : Nat) (v1 : Int32) (v2 : Int32) : Option (St) :=
  ((M_clamp z0 v1 (2 : Int32) (6 : Int32)).bind fun q200 => ((M_clamp (sI q200.2 137 q200.1) v2 (1 : Int32) (4 : Int32)).bind fun q211 => ((M_resetRecords NF (sI (sI (sI q211.2 138 q211.1) 139 (0 : Int32)) 153 (0 : Int32))).bind fun q228 => ((M_resetThreads NF q228).bind fun q232 => ((M_resetAnnounces NF q232).bind fun q236 => ((M_resetCells NF q236).bind fun q240 => (some q240)))))))
theorem ok_M_init {X : Cx (St × Nat)} {Z : State} {a0 : Array Value} {l : Launch} {n1 : Nat} {a : Addr} {h0 : Heap} {NF : Nat} (K : KM_M_init X Z a0 l n1 a h0) (hw : HW a0 Z) (hh : h0.size = a + 1) {v1 : Int32} {v2 : Int32} {r : St} (h : M_init NF v1 v2 = some r) : Go X (none, (r, 23)) 0 [some (.ref 0), some (.int v1), some (.int v2)] [] (z0, 0) := by
  unfold M_init at h
  refine g_aloadN (pc := 0) K.1 d2_0 rfl ?_
  refine g_objinit (pc := 1) K d2_1 (w6 hw) (w7 hw) (w8 hw) rfl (by decide) (by decide) ?_
  refine g_aloadN (pc := 4) K.1 d2_4 rfl ?_
  refine g_sipush (pc := 5) (v := 241) K.1 d2_5 (by decide) ?_
  refine g_newput (pc := 8) (j := 0) K d2_8 d2_10 (w9 hw) (w10 hw) mf_opKind (Or.inl (w11 hw)) pfd_AI (fun _ => rfl) (fun _ => rfl) (Or.inl rfl) ma_opKind rfl rfl (by decide) (by decide) (by decide) hh rfl (by decide) (by decide) (by decide) (fun _ => rfl) ?_
  refine g_aloadN (pc := 13) K.1 d2_13 rfl ?_
  refine g_sipush (pc := 14) (v := 241) K.1 d2_14 (by decide) ?_
  refine g_newput (pc := 17) (j := 1) K d2_17 d2_19 (w9 hw) (w12 hw) mf_opArg (Or.inl (w13 hw)) pfd_AI (fun _ => rfl) (fun _ => rfl) (Or.inl rfl) ma_opArg rfl rfl (by decide) (by decide) (by decide) hh rfl (by decide) (by decide) (by decide) (fun _ => rfl) ?_
  refine g_aloadN (pc := 22) K.1 d2_22 rfl ?_
  refine g_sipush (pc := 23) (v := 241) K.1 d2_23 (by decide) ?_
  refine g_newput (pc := 26) (j := 2) K d2_26 d2_28 (w9 hw) (w14 hw) mf_opThread (Or.inl (w15 hw)) pfd_AI (fun _ => rfl) (fun _ => rfl) (Or.inl rfl) ma_opThread rfl rfl (by decide) (by decide) (by decide) hh rfl (by decide) (by decide) (by decide) (fun _ => rfl) ?_
  refine g_aloadN (pc := 31) K.1 d2_31 rfl ?_
  refine g_sipush (pc := 32) (v := 241) K.1 d2_32 (by decide) ?_
  refine g_newput (pc := 35) (j := 3) K d2_35 d2_37 (w9 hw) (w16 hw) mf_opStatus (Or.inl (w17 hw)) pfd_AI (fun _ => rfl) (fun _ => rfl) (Or.inl rfl) ma_opStatus rfl rfl (by decide) (by decide) (by decide) hh rfl (by decide) (by decide) (by decide) (fun _ => rfl) ?_
  refine g_aloadN (pc := 40) K.1 d2_40 rfl ?_
  refine g_sipush (pc := 41) (v := 241) K.1 d2_41 (by decide) ?_
  refine g_newput (pc := 44) (j := 4) K d2_44 d2_46 (w9 hw) (w18 hw) mf_opResp (Or.inl (w19 hw)) pfd_AI (fun _ => rfl) (fun _ => rfl) (Or.inl rfl) ma_opResp rfl rfl (by decide) (by decide) (by decide) hh rfl (by decide) (by decide) (by decide) (fun _ => rfl) ?_
  refine g_aloadN (pc := 49) K.1 d2_49 rfl ?_
  refine g_sipush (pc := 50) (v := 241) K.1 d2_50 (by decide) ?_
  refine g_newput (pc := 53) (j := 5) K d2_53 d2_55 (w9 hw) (w20 hw) mf_opPos (Or.inl (w21 hw)) pfd_AI (fun _ => rfl) (fun _ => rfl) (Or.inl rfl) ma_opPos rfl rfl (by decide) (by decide) (by decide) hh rfl (by decide) (by decide) (by decide) (fun _ => rfl) ?_
  refine g_aloadN (pc := 58) K.1 d2_58 rfl ?_
  refine g_bipush (pc := 59) (v := 6) K.1 d2_59 (by decide) ?_
  refine g_newput (pc := 61) (j := 6) K d2_61 d2_63 (w9 hw) (w22 hw) mf_thPhase (Or.inl (w23 hw)) pfd_AI (fun _ => rfl) (fun _ => rfl) (Or.inl rfl) ma_thPhase rfl rfl (by decide) (by decide) (by decide) hh rfl (by decide) (by decide) (by decide) (fun _ => rfl) ?_
  refine g_aloadN (pc := 66) K.1 d2_66 rfl ?_
  refine g_bipush (pc := 67) (v := 6) K.1 d2_67 (by decide) ?_
  refine g_newput (pc := 69) (j := 7) K d2_69 d2_71 (w9 hw) (w24 hw) mf_thOwn (Or.inl (w25 hw)) pfd_AI (fun _ => rfl) (fun _ => rfl) (Or.inl rfl) ma_thOwn rfl rfl (by decide) (by decide) (by decide) hh rfl (by decide) (by decide) (by decide) (fun _ => rfl) ?_
  refine g_aloadN (pc := 74) K.1 d2_74 rfl ?_
  refine g_bipush (pc := 75) (v := 6) K.1 d2_75 (by decide) ?_
  refine g_newput (pc := 77) (j := 8) K d2_77 d2_79 (w9 hw) (w26 hw) mf_thP (Or.inl (w27 hw)) pfd_AI (fun _ => rfl) (fun _ => rfl) (Or.inl rfl) ma_thP rfl rfl (by decide) (by decide) (by decide) hh rfl (by decide) (by decide) (by decide) (fun _ => rfl) ?_
  refine g_aloadN (pc := 82) K.1 d2_82 rfl ?_
  refine g_bipush (pc := 83) (v := 6) K.1 d2_83 (by decide) ?_
  refine g_newput (pc := 85) (j := 9) K d2_85 d2_87 (w9 hw) (w28 hw) mf_thC (Or.inl (w29 hw)) pfd_AI (fun _ => rfl) (fun _ => rfl) (Or.inl rfl) ma_thC rfl rfl (by decide) (by decide) (by decide) hh rfl (by decide) (by decide) (by decide) (fun _ => rfl) ?_
  refine g_aloadN (pc := 90) K.1 d2_90 rfl ?_
  refine g_bipush (pc := 91) (v := 6) K.1 d2_91 (by decide) ?_
  refine g_newput (pc := 93) (j := 10) K d2_93 d2_95 (w9 hw) (w30 hw) mf_thSteps (Or.inl (w31 hw)) pfd_AI (fun _ => rfl) (fun _ => rfl) (Or.inl rfl) ma_thSteps rfl rfl (by decide) (by decide) (by decide) hh rfl (by decide) (by decide) (by decide) (fun _ => rfl) ?_
  refine g_aloadN (pc := 98) K.1 d2_98 rfl ?_
  refine g_bipush (pc := 99) (v := 6) K.1 d2_99 (by decide) ?_
  refine g_newput (pc := 101) (j := 11) K d2_101 d2_103 (w9 hw) (w32 hw) mf_thHelped (Or.inl (w33 hw)) pfd_AI (fun _ => rfl) (fun _ => rfl) (Or.inl rfl) ma_thHelped rfl rfl (by decide) (by decide) (by decide) hh rfl (by decide) (by decide) (by decide) (fun _ => rfl) ?_
  refine g_aloadN (pc := 106) K.1 d2_106 rfl ?_
  refine g_bipush (pc := 107) (v := 36) K.1 d2_107 (by decide) ?_
  refine g_newput (pc := 109) (j := 12) K d2_109 d2_111 (w9 hw) (w34 hw) mf_thLast (Or.inl (w35 hw)) pfd_AI (fun _ => rfl) (fun _ => rfl) (Or.inl rfl) ma_thLast rfl rfl (by decide) (by decide) (by decide) hh rfl (by decide) (by decide) (by decide) (fun _ => rfl) ?_
  refine g_aloadN (pc := 114) K.1 d2_114 rfl ?_
  refine g_bipush (pc := 115) (v := 6) K.1 d2_115 (by decide) ?_
  refine g_newput (pc := 117) (j := 13) K d2_117 d2_119 (w9 hw) (w36 hw) mf_annId (Or.inl (w37 hw)) pfd_AI (fun _ => rfl) (fun _ => rfl) (Or.inl rfl) ma_annId rfl rfl (by decide) (by decide) (by decide) hh rfl (by decide) (by decide) (by decide) (fun _ => rfl) ?_
  refine g_aloadN (pc := 122) K.1 d2_122 rfl ?_
  refine g_bipush (pc := 123) (v := 6) K.1 d2_123 (by decide) ?_
  refine g_newput (pc := 125) (j := 14) K d2_125 d2_127 (w9 hw) (w38 hw) mf_annKind (Or.inl (w39 hw)) pfd_AI (fun _ => rfl) (fun _ => rfl) (Or.inl rfl) ma_annKind rfl rfl (by decide) (by decide) (by decide) hh rfl (by decide) (by decide) (by decide) (fun _ => rfl) ?_
  refine g_aloadN (pc := 130) K.1 d2_130 rfl ?_
  refine g_bipush (pc := 131) (v := 6) K.1 d2_131 (by decide) ?_
  refine g_newput (pc := 133) (j := 15) K d2_133 d2_135 (w9 hw) (w40 hw) mf_annArg (Or.inl (w41 hw)) pfd_AI (fun _ => rfl) (fun _ => rfl) (Or.inl rfl) ma_annArg rfl rfl (by decide) (by decide) (by decide) hh rfl (by decide) (by decide) (by decide) (fun _ => rfl) ?_
  refine g_aloadN (pc := 138) K.1 d2_138 rfl ?_
  refine g_bipush (pc := 139) (v := 8) K.1 d2_139 (by decide) ?_
  refine g_newput (pc := 141) (j := 16) K d2_141 d2_143 (w9 hw) (w42 hw) mf_cellPos (Or.inl (w43 hw)) pfd_AI (fun _ => rfl) (fun _ => rfl) (Or.inl rfl) ma_cellPos rfl rfl (by decide) (by decide) (by decide) hh rfl (by decide) (by decide) (by decide) (fun _ => rfl) ?_
  refine g_aloadN (pc := 146) K.1 d2_146 rfl ?_
  refine g_bipush (pc := 147) (v := 8) K.1 d2_147 (by decide) ?_
  refine g_newput (pc := 149) (j := 17) K d2_149 d2_151 (w9 hw) (w44 hw) mf_cellId (Or.inl (w45 hw)) pfd_AI (fun _ => rfl) (fun _ => rfl) (Or.inl rfl) ma_cellId rfl rfl (by decide) (by decide) (by decide) hh rfl (by decide) (by decide) (by decide) (fun _ => rfl) ?_
  refine g_aloadN (pc := 154) K.1 d2_154 rfl ?_
  refine g_bipush (pc := 155) (v := 8) K.1 d2_155 (by decide) ?_
  refine g_newput (pc := 157) (j := 18) K d2_157 d2_159 (w9 hw) (w46 hw) mf_cellResp (Or.inl (w47 hw)) pfd_AI (fun _ => rfl) (fun _ => rfl) (Or.inl rfl) ma_cellResp rfl rfl (by decide) (by decide) (by decide) hh rfl (by decide) (by decide) (by decide) (fun _ => rfl) ?_
  refine g_aloadN (pc := 162) K.1 d2_162 rfl ?_
  refine g_bipush (pc := 163) (v := 8) K.1 d2_163 (by decide) ?_
  refine g_newput (pc := 165) (j := 19) K d2_165 d2_167 (w9 hw) (w48 hw) mf_cellCounter (Or.inl (w49 hw)) pfd_AI (fun _ => rfl) (fun _ => rfl) (Or.inl rfl) ma_cellCounter rfl rfl (by decide) (by decide) (by decide) hh rfl (by decide) (by decide) (by decide) (fun _ => rfl) ?_
  refine g_aloadN (pc := 170) K.1 d2_170 rfl ?_
  refine g_bipush (pc := 171) (v := 8) K.1 d2_171 (by decide) ?_
  refine g_newput (pc := 173) (j := 20) K d2_173 d2_175 (w9 hw) (w50 hw) mf_cellQLen (Or.inl (w51 hw)) pfd_AI (fun _ => rfl) (fun _ => rfl) (Or.inl rfl) ma_cellQLen rfl rfl (by decide) (by decide) (by decide) hh rfl (by decide) (by decide) (by decide) (fun _ => rfl) ?_
  refine g_aloadN (pc := 178) K.1 d2_178 rfl ?_
  refine g_bipush (pc := 179) (v := 32) K.1 d2_179 (by decide) ?_
  refine g_newput (pc := 181) (j := 21) K d2_181 d2_183 (w9 hw) (w52 hw) mf_cellQ (Or.inl (w53 hw)) pfd_AI (fun _ => rfl) (fun _ => rfl) (Or.inl rfl) ma_cellQ rfl rfl (by decide) (by decide) (by decide) hh rfl (by decide) (by decide) (by decide) (fun _ => rfl) ?_
  refine g_aloadN (pc := 186) K.1 d2_186 rfl ?_
  refine g_bipush (pc := 187) (v := 48) K.1 d2_187 (by decide) ?_
  refine g_newput (pc := 189) (j := 22) K d2_189 d2_191 (w9 hw) (w54 hw) mf_cellLast (Or.inl (w55 hw)) pfd_AI (fun _ => rfl) (fun _ => rfl) (Or.inl rfl) ma_cellLast rfl rfl (by decide) (by decide) (by decide) hh rfl (by decide) (by decide) (by decide) (fun _ => rfl) ?_
  refine g_aloadN (pc := 194) K.1 d2_194 rfl ?_
  refine g_aloadN (pc := 195) K.1 d2_195 rfl ?_
  refine g_iloadN (pc := 196) K.1 d2_196 rfl ?_
  refine g_iconst (pc := 197) (v := 2) K.1 d2_197 (by decide) ?_
  refine g_bipush (pc := 198) (v := 6) K.1 d2_198 (by decide) ?_
  obtain ⟨q200, hq200, h⟩ := Option.bind_eq_some_iff.mp h
  refine g_callP (pc := 200) (vs := [.int v1, .int (2 : Int32), .int (6 : Int32)]) K d2_200 (w56 hw) (w57 hw) (w58 hw) (w59 hw) hyC pd_3 rfl rfl (con_M_clamp l Z a0 hw n1 a (ctx_le K) hq200) rfl (Nat.le_of_ble_eq_true rfl) (Nat.le_of_ble_eq_true rfl) rfl rfl ?_
  refine g_putI (pc := 203) (t := .int) (v' := q200.1) K d2_203 (w60 hw) mf_n (Or.inl (w61 hw)) pfd_I rfl rfl ?_
  refine g_aloadN (pc := 206) K.1 d2_206 rfl ?_
  refine g_aloadN (pc := 207) K.1 d2_207 rfl ?_
  refine g_iloadN (pc := 208) K.1 d2_208 rfl ?_
  refine g_iconst (pc := 209) (v := 1) K.1 d2_209 (by decide) ?_
  refine g_iconst (pc := 210) (v := 4) K.1 d2_210 (by decide) ?_
  obtain ⟨q211, hq211, h⟩ := Option.bind_eq_some_iff.mp h
  refine g_callP (pc := 211) (vs := [.int v2, .int (1 : Int32), .int (4 : Int32)]) K d2_211 (w56 hw) (w57 hw) (w58 hw) (w59 hw) hyC pd_3 rfl rfl (con_M_clamp l Z a0 hw n1 a (ctx_le K) hq211) rfl (Nat.le_of_ble_eq_true rfl) (Nat.le_of_ble_eq_true rfl) rfl rfl ?_
  refine g_putI (pc := 214) (t := .int) (v' := q211.1) K d2_214 (w62 hw) mf_cap (Or.inl (w63 hw)) pfd_I rfl rfl ?_
  refine g_aloadN (pc := 217) K.1 d2_217 rfl ?_
  refine g_iconst (pc := 218) (v := 0) K.1 d2_218 (by decide) ?_
  refine g_putI (pc := 219) (t := .int) (v' := (0 : Int32)) K d2_219 (w64 hw) mf_opCount (Or.inl (w65 hw)) pfd_I rfl rfl ?_
  refine g_aloadN (pc := 222) K.1 d2_222 rfl ?_
  refine g_iconst (pc := 223) (v := 0) K.1 d2_223 (by decide) ?_
  refine g_putI (pc := 224) (t := .int) (v' := (0 : Int32)) K d2_224 (w66 hw) mf_tailValue (Or.inl (w67 hw)) pfd_I rfl rfl ?_
  refine g_aloadN (pc := 227) K.1 d2_227 rfl ?_
  obtain ⟨q228, hq228, h⟩ := Option.bind_eq_some_iff.mp h
  refine g_callP (pc := 228) (vs := []) K d2_228 (w68 hw) (w69 hw) (w70 hw) (w71 hw) hyC pd_2 rfl rfl (con_M_resetRecords l Z a0 hw n1 a (ctx_le K) hq228) rfl (Nat.le_of_ble_eq_true rfl) (Nat.le_of_ble_eq_true rfl) rfl rfl ?_
  refine g_aloadN (pc := 231) K.1 d2_231 rfl ?_
  obtain ⟨q232, hq232, h⟩ := Option.bind_eq_some_iff.mp h
  refine g_callP (pc := 232) (vs := []) K d2_232 (w72 hw) (w73 hw) (w74 hw) (w75 hw) hyC pd_2 rfl rfl (con_M_resetThreads l Z a0 hw n1 a (ctx_le K) hq232) rfl (Nat.le_of_ble_eq_true rfl) (Nat.le_of_ble_eq_true rfl) rfl rfl ?_
  refine g_aloadN (pc := 235) K.1 d2_235 rfl ?_
  obtain ⟨q236, hq236, h⟩ := Option.bind_eq_some_iff.mp h
  refine g_callP (pc := 236) (vs := []) K d2_236 (w84 hw) (w85 hw) (w86 hw) (w87 hw) hyC pd_2 rfl rfl (con_M_resetAnnounces l Z a0 hw n1 a (ctx_le K) hq236) rfl (Nat.le_of_ble_eq_true rfl) (Nat.le_of_ble_eq_true rfl) rfl rfl ?_
  refine g_aloadN (pc := 239) K.1 d2_239 rfl ?_
  obtain ⟨q240, hq240, h⟩ := Option.bind_eq_some_iff.mp h
  refine g_callP (pc := 240) (vs := []) K d2_240 (w88 hw) (w89 hw) (w90 hw) (w91 hw) hyC pd_2 rfl rfl (con_M_resetCells l Z a0 hw n1 a (ctx_le K) hq240) rfl (Nat.le_of_ble_eq_true rfl) (Nat.le_of_ble_eq_true rfl) rfl rfl ?_
  cases h; exact g_return K.1 d2_243 (capC K)
theorem con_M_init (l : Launch) (Z : State) (a0 : Array Value) (hw : HW a0 Z) (n1 : Nat) (a : Addr) (ha : n1 ≤ a) {NF : Nat} {v1 : Int32} {v2 : Int32} {r : St} (h : M_init NF v1 v2 = some r) : ConI l Z cC cFS cFA 23 n1 a ⟨cC, "<init>", "(II)V"⟩ c2 3 ⟨3, 23, 1656, 42⟩ [.ref 0, .int v1, .int v2] r :=
  coni_of_go pnC rfl (layW hw) lgood ha (by decide) (by decide) (fun X h1 hh K => ok_M_init K hw hh h)
abbrev KM_M_recordOperation (X : Cx (St × Nat)) (Z : State) (a0 : Array Value) (l : Launch) (n1 : Nat) (a : Addr) (h0 : Heap) : Prop := CtxC X Z a0 cC cFS cFA 23 27 l n1 a h0 ce0 ⟨0, 0, 0, 0⟩ "recordOperation" c16 5 none
def M_recordOperation_b36  (i1 : Int32) (i2 : Int32) (t1 : Int32) (t2 : Int32) (σ : St) : Option (St) :=
  (if 0 ≤ (t1).toInt ∧ (t1).toInt < 241 then (if 0 ≤ (i1).toInt ∧ (i1).toInt < 241 then (if 0 ≤ (i1).toInt ∧ (i1).toInt < 241 then (if 0 ≤ (i1).toInt ∧ (i1).toInt < 241 then (if 0 ≤ (i1).toInt ∧ (i1).toInt < 241 then (some (sA (sA (sA (sA (sA σ 2 (t1).toInt t2) 3 (i1).toInt i2) 4 (i1).toInt (1 : Int32)) 5 (i1).toInt (0 : Int32)) 6 (i1).toInt (0 : Int32))) else none) else none) else none) else none) else none)
theorem ok_M_recordOperation_b36 {X : Cx (St × Nat)} {Z : State} {a0 : Array Value} {l : Launch} {n1 : Nat} {a : Addr} {h0 : Heap} (K : KM_M_recordOperation X Z a0 l n1 a h0) (hw : HW a0 Z)  {i1 : Int32} {i2 : Int32} {t1 : Int32} {t2 : Int32} {σ : St} {r : St}  (h : M_recordOperation_b36  i1 i2 t1 t2 σ = some r) : Go X (none, (r, 23)) 36 [some (.ref 0), some (.int i1), some (.int i2), none, none] [.int t2, .int t1, .ref 2] (σ, 23) := by
  unfold M_recordOperation_b36 at h
  obtain ⟨hc36, h⟩ := ifn h
  refine g_iastore (pc := 36) K d16_36 ma_opArg rfl hc36 ?_
  refine g_aloadN (pc := 37) K.1 d16_37 rfl ?_
  refine g_getA (pc := 38) K d16_38 (w14 hw) mf_opThread rfl ?_
  refine g_iloadN (pc := 41) K.1 d16_41 rfl ?_
  refine g_iloadN (pc := 42) K.1 d16_42 rfl ?_
  obtain ⟨hc43, h⟩ := ifn h
  refine g_iastore (pc := 43) K d16_43 ma_opThread rfl hc43 ?_
  refine g_aloadN (pc := 44) K.1 d16_44 rfl ?_
  refine g_getA (pc := 45) K d16_45 (w16 hw) mf_opStatus rfl ?_
  refine g_iloadN (pc := 48) K.1 d16_48 rfl ?_
  refine g_iconst (pc := 49) (v := 1) K.1 d16_49 (by decide) ?_
  obtain ⟨hc50, h⟩ := ifn h
  refine g_iastore (pc := 50) K d16_50 ma_opStatus rfl hc50 ?_
  refine g_aloadN (pc := 51) K.1 d16_51 rfl ?_
  refine g_getA (pc := 52) K d16_52 (w18 hw) mf_opResp rfl ?_
  refine g_iloadN (pc := 55) K.1 d16_55 rfl ?_
  refine g_iconst (pc := 56) (v := 0) K.1 d16_56 (by decide) ?_
  obtain ⟨hc57, h⟩ := ifn h
  refine g_iastore (pc := 57) K d16_57 ma_opResp rfl hc57 ?_
  refine g_aloadN (pc := 58) K.1 d16_58 rfl ?_
  refine g_getA (pc := 59) K d16_59 (w20 hw) mf_opPos rfl ?_
  refine g_iloadN (pc := 62) K.1 d16_62 rfl ?_
  refine g_iconst (pc := 63) (v := 0) K.1 d16_63 (by decide) ?_
  obtain ⟨hc64, h⟩ := ifn h
  refine g_iastore (pc := 64) K d16_64 ma_opPos rfl hc64 ?_
  cases h; exact g_return K.1 d16_65 (capC K)
def M_recordOperation (σ : St) (v1 : Int32) (v2 : Int32) (v3 : Int32) (v4 : Int32) : Option (St) :=
  (if v1 < (1 : Int32) then (some σ) else (if (240 : Int32) < v1 then (some σ) else (if 0 ≤ (v1).toInt ∧ (v1).toInt < 241 then (if v3 = (3 : Int32) then M_recordOperation_b36 v1 v2 v1 (0 : Int32) (sA σ 1 (v1).toInt v3) else M_recordOperation_b36 v1 v2 v1 v4 (sA σ 1 (v1).toInt v3)) else none)))
theorem ok_M_recordOperation {X : Cx (St × Nat)} {Z : State} {a0 : Array Value} {l : Launch} {n1 : Nat} {a : Addr} {h0 : Heap} (K : KM_M_recordOperation X Z a0 l n1 a h0) (hw : HW a0 Z) {σ : St} {v1 : Int32} {v2 : Int32} {v3 : Int32} {v4 : Int32} {r : St} (h : M_recordOperation σ v1 v2 v3 v4 = some r) : Go X (none, (r, 23)) 0 [some (.ref 0), some (.int v1), some (.int v2), some (.int v3), some (.int v4)] [] (σ, 23) := by
  unfold M_recordOperation at h
  refine g_iloadN (pc := 0) K.1 d16_0 rfl ?_
  refine g_iconst (pc := 1) (v := 1) K.1 d16_1 (by decide) ?_
  rcases ifs h with ⟨hc2, h⟩ | ⟨hc2, h⟩
  · refine g_icT (pc := 2) (pc' := 12) K.1 d16_2 (by decide) ((tlt hc2).1) ?_
    cases h; exact g_return K.1 d16_12 (capC K)
  refine g_icF (pc := 2) K.1 d16_2 ((flt hc2).1) ?_
  refine g_iloadN (pc := 5) K.1 d16_5 rfl ?_
  refine g_sipush (pc := 6) (v := 240) K.1 d16_6 (by decide) ?_
  rcases ifs h with ⟨hc9, h⟩ | ⟨hc9, h⟩
  · refine g_icF (pc := 9) K.1 d16_9 ((tlt hc9).2.2.2) ?_
    cases h; exact g_return K.1 d16_12 (capC K)
  refine g_icT (pc := 9) (pc' := 13) K.1 d16_9 (by decide) ((flt hc9).2.2.2) ?_
  refine g_aloadN (pc := 13) K.1 d16_13 rfl ?_
  refine g_getA (pc := 14) K d16_14 (w10 hw) mf_opKind rfl ?_
  refine g_iloadN (pc := 17) K.1 d16_17 rfl ?_
  refine g_iloadN (pc := 18) K.1 d16_18 rfl ?_
  obtain ⟨hc19, h⟩ := ifn h
  refine g_iastore (pc := 19) K d16_19 ma_opKind rfl hc19 ?_
  refine g_aloadN (pc := 20) K.1 d16_20 rfl ?_
  refine g_getA (pc := 21) K d16_21 (w12 hw) mf_opArg rfl ?_
  refine g_iloadN (pc := 24) K.1 d16_24 rfl ?_
  refine g_iloadN (pc := 25) K.1 d16_25 rfl ?_
  refine g_iconst (pc := 26) (v := 3) K.1 d16_26 (by decide) ?_
  rcases ifs h with ⟨hc27, h⟩ | ⟨hc27, h⟩
  · refine g_icF (pc := 27) K.1 d16_27 ((teq hc27).2) ?_
    refine g_iconst (pc := 30) (v := 0) K.1 d16_30 (by decide) ?_
    refine g_goto (pc := 31) (pc' := 36) K.1 d16_31 (by decide) ?_
    exact g_less (ok_M_recordOperation_b36 K hw  h) (ls (ls (ls (ln (ln l0)))))
  refine g_icT (pc := 27) (pc' := 34) K.1 d16_27 (by decide) ((feq hc27).2) ?_
  refine g_iload (pc := 34) K.1 d16_34 rfl ?_
  exact g_less (ok_M_recordOperation_b36 K hw  h) (ls (ls (ls (ln (ln l0)))))
theorem con_M_recordOperation (l : Launch) (Z : State) (a0 : Array Value) (hw : HW a0 Z) (n1 : Nat) (a : Addr) (ha : n1 ≤ a) {σ : St} {v1 : Int32} {v2 : Int32} {v3 : Int32} {v4 : Int32} {r : St} (h : M_recordOperation σ v1 v2 v3 v4 = some r) : Con l Z cC cFS cFA 23 n1 a ⟨cC, "recordOperation", "(IIII)V"⟩ c16 5 none ⟨0, 0, 0, 0⟩ [.ref 0, .int v1, .int v2, .int v3, .int v4] σ none r :=
  con_of_go pnC rfl (layW hw) lgood ha (fun X h1 K => ok_M_recordOperation K hw h)
abbrev KM_M_acceptInvoke (X : Cx (St × Nat)) (Z : State) (a0 : Array Value) (l : Launch) (n1 : Nat) (a : Addr) (h0 : Heap) : Prop := CtxC X Z a0 cC cFS cFA 23 27 l n1 a h0 ce0 ⟨2, 0, 0, 29⟩ "acceptInvoke" c15 5 (some .int)
def M_acceptInvoke (NF : Nat) (σ : St) (v1 : Int32) (v2 : Int32) (v3 : Int32) : Option (Int32 × St) :=
  ((M_recordOperation (sI σ 139 ((gI σ 139) + (1 : Int32))) ((gI σ 139) + (1 : Int32)) v1 v2 v3).bind fun q20 => (if 0 ≤ (v1).toInt ∧ (v1).toInt < 6 then (if 0 ≤ (v1).toInt ∧ (v1).toInt < 6 then (if 0 ≤ (v1).toInt ∧ (v1).toInt < 6 then (if 0 ≤ (v1).toInt ∧ (v1).toInt < 6 then (if 0 ≤ (v1).toInt ∧ (v1).toInt < 6 then (if 0 ≤ (v1).toInt ∧ (v1).toInt < 6 then ((M_clearThreadLast NF (sA (sA (sA (sA (sA (sA q20 8 (v1).toInt ((gI σ 139) + (1 : Int32))) 7 (v1).toInt (1 : Int32)) 11 (v1).toInt (0 : Int32)) 9 (v1).toInt (0 : Int32)) 10 (v1).toInt (0 : Int32)) 12 (v1).toInt (0 : Int32)) v1).bind fun q68 => (some (((gI σ 139) + (1 : Int32)), q68))) else none) else none) else none) else none) else none) else none))
theorem ok_M_acceptInvoke {X : Cx (St × Nat)} {Z : State} {a0 : Array Value} {l : Launch} {n1 : Nat} {a : Addr} {h0 : Heap} {NF : Nat} (K : KM_M_acceptInvoke X Z a0 l n1 a h0) (hw : HW a0 Z) {σ : St} {v1 : Int32} {v2 : Int32} {v3 : Int32} {r : Int32 × St} (h : M_acceptInvoke NF σ v1 v2 v3 = some r) : Go X (some (.int r.1), (r.2, 23)) 0 [some (.ref 0), some (.int v1), some (.int v2), some (.int v3), none] [] (σ, 23) := by
  unfold M_acceptInvoke at h
  refine g_aloadN (pc := 0) K.1 d15_0 rfl ?_
  refine g_getI (pc := 1) K d15_1 (w64 hw) mf_opCount ?_
  refine g_iconst (pc := 4) (v := 1) K.1 d15_4 (by decide) ?_
  refine g_iadd (pc := 5) K.1 d15_5 ?_
  refine g_istore (pc := 6) (L' := [some (.ref 0), some (.int v1), some (.int v2), some (.int v3), some (.int ((gI σ 139) + (1 : Int32)))]) K.1 d15_6 (blt rfl) rfl ?_
  refine g_aloadN (pc := 8) K.1 d15_8 rfl ?_
  refine g_iload (pc := 9) K.1 d15_9 rfl ?_
  refine g_putI (pc := 11) (t := .int) (v' := ((gI σ 139) + (1 : Int32))) K d15_11 (w64 hw) mf_opCount (Or.inl (w65 hw)) pfd_I rfl rfl ?_
  refine g_aloadN (pc := 14) K.1 d15_14 rfl ?_
  refine g_iload (pc := 15) K.1 d15_15 rfl ?_
  refine g_iloadN (pc := 17) K.1 d15_17 rfl ?_
  refine g_iloadN (pc := 18) K.1 d15_18 rfl ?_
  refine g_iloadN (pc := 19) K.1 d15_19 rfl ?_
  obtain ⟨q20, hq20, h⟩ := Option.bind_eq_some_iff.mp h
  refine g_callP (pc := 20) (vs := [.int ((gI σ 139) + (1 : Int32)), .int v1, .int v2, .int v3]) K d15_20 (w125 hw) (w126 hw) (w127 hw) (w128 hw) hyC pd_4 rfl rfl (con_M_recordOperation l Z a0 hw n1 a (ctx_le K) hq20) rfl (Nat.le_of_ble_eq_true rfl) (Nat.le_of_ble_eq_true rfl) rfl rfl ?_
  refine g_aloadN (pc := 23) K.1 d15_23 rfl ?_
  refine g_getA (pc := 24) K d15_24 (w24 hw) mf_thOwn rfl ?_
  refine g_iloadN (pc := 27) K.1 d15_27 rfl ?_
  refine g_iload (pc := 28) K.1 d15_28 rfl ?_
  obtain ⟨hc30, h⟩ := ifn h
  refine g_iastore (pc := 30) K d15_30 ma_thOwn rfl hc30 ?_
  refine g_aloadN (pc := 31) K.1 d15_31 rfl ?_
  refine g_getA (pc := 32) K d15_32 (w22 hw) mf_thPhase rfl ?_
  refine g_iloadN (pc := 35) K.1 d15_35 rfl ?_
  refine g_iconst (pc := 36) (v := 1) K.1 d15_36 (by decide) ?_
  obtain ⟨hc37, h⟩ := ifn h
  refine g_iastore (pc := 37) K d15_37 ma_thPhase rfl hc37 ?_
  refine g_aloadN (pc := 38) K.1 d15_38 rfl ?_
  refine g_getA (pc := 39) K d15_39 (w30 hw) mf_thSteps rfl ?_
  refine g_iloadN (pc := 42) K.1 d15_42 rfl ?_
  refine g_iconst (pc := 43) (v := 0) K.1 d15_43 (by decide) ?_
  obtain ⟨hc44, h⟩ := ifn h
  refine g_iastore (pc := 44) K d15_44 ma_thSteps rfl hc44 ?_
  refine g_aloadN (pc := 45) K.1 d15_45 rfl ?_
  refine g_getA (pc := 46) K d15_46 (w26 hw) mf_thP rfl ?_
  refine g_iloadN (pc := 49) K.1 d15_49 rfl ?_
  refine g_iconst (pc := 50) (v := 0) K.1 d15_50 (by decide) ?_
  obtain ⟨hc51, h⟩ := ifn h
  refine g_iastore (pc := 51) K d15_51 ma_thP rfl hc51 ?_
  refine g_aloadN (pc := 52) K.1 d15_52 rfl ?_
  refine g_getA (pc := 53) K d15_53 (w28 hw) mf_thC rfl ?_
  refine g_iloadN (pc := 56) K.1 d15_56 rfl ?_
  refine g_iconst (pc := 57) (v := 0) K.1 d15_57 (by decide) ?_
  obtain ⟨hc58, h⟩ := ifn h
  refine g_iastore (pc := 58) K d15_58 ma_thC rfl hc58 ?_
  refine g_aloadN (pc := 59) K.1 d15_59 rfl ?_
  refine g_getA (pc := 60) K d15_60 (w32 hw) mf_thHelped rfl ?_
  refine g_iloadN (pc := 63) K.1 d15_63 rfl ?_
  refine g_iconst (pc := 64) (v := 0) K.1 d15_64 (by decide) ?_
  obtain ⟨hc65, h⟩ := ifn h
  refine g_iastore (pc := 65) K d15_65 ma_thHelped rfl hc65 ?_
  refine g_aloadN (pc := 66) K.1 d15_66 rfl ?_
  refine g_iloadN (pc := 67) K.1 d15_67 rfl ?_
  obtain ⟨q68, hq68, h⟩ := Option.bind_eq_some_iff.mp h
  refine g_callP (pc := 68) (vs := [.int v1]) K d15_68 (w76 hw) (w77 hw) (w78 hw) (w79 hw) hyC pd_1 rfl rfl (con_M_clearThreadLast l Z a0 hw n1 a (ctx_le K) hq68) rfl (Nat.le_of_ble_eq_true rfl) (Nat.le_of_ble_eq_true rfl) rfl rfl ?_
  refine g_iload (pc := 71) K.1 d15_71 rfl ?_
  cases h; exact g_ireturn K.1 d15_73 (capC K)
theorem con_M_acceptInvoke (l : Launch) (Z : State) (a0 : Array Value) (hw : HW a0 Z) (n1 : Nat) (a : Addr) (ha : n1 ≤ a) {NF : Nat} {σ : St} {v1 : Int32} {v2 : Int32} {v3 : Int32} {r : Int32 × St} (h : M_acceptInvoke NF σ v1 v2 v3 = some r) : Con l Z cC cFS cFA 23 n1 a ⟨cC, "acceptInvoke", "(III)I"⟩ c15 5 (some .int) ⟨2, 0, 0, 29⟩ [.ref 0, .int v1, .int v2, .int v3] σ (some (.int r.1)) r.2 :=
  con_of_go pnC rfl (layW hw) lgood ha (fun X h1 K => ok_M_acceptInvoke K hw h)
abbrev KM_M_validThread (X : Cx (St × Nat)) (Z : State) (a0 : Array Value) (l : Launch) (n1 : Nat) (a : Addr) (h0 : Heap) : Prop := CtxC X Z a0 cC cFS cFA 23 27 l n1 a h0 ce0 ⟨0, 0, 0, 0⟩ "validThread" c17 2 (some .boolean)
def M_validThread (σ : St) (v1 : Int32) : Option (Int32 × St) :=
  (if v1 < 0 then (some ((0 : Int32), σ)) else (if v1 < (gI σ 137) then (if v1 < (6 : Int32) then (some ((1 : Int32), σ)) else (some ((0 : Int32), σ))) else (some ((0 : Int32), σ))))
theorem ok_M_validThread {X : Cx (St × Nat)} {Z : State} {a0 : Array Value} {l : Launch} {n1 : Nat} {a : Addr} {h0 : Heap} (K : KM_M_validThread X Z a0 l n1 a h0) (hw : HW a0 Z) {σ : St} {v1 : Int32} {r : Int32 × St} (h : M_validThread σ v1 = some r) : Go X (some (.int r.1), (r.2, 23)) 0 [some (.ref 0), some (.int v1)] [] (σ, 23) := by
  unfold M_validThread at h
  refine g_iloadN (pc := 0) K.1 d17_0 rfl ?_
  rcases ifs h with ⟨hc1, h⟩ | ⟨hc1, h⟩
  · refine g_ifT (pc := 1) (pc' := 22) K.1 d17_1 (by decide) ((if0 _ _).trans (tlt hc1).1) ?_
    refine g_iconst (pc := 22) (v := 0) K.1 d17_22 (by decide) ?_
    cases h; exact g_ireturnN (t := .boolean) K.1 rfl (Or.inl rfl) d17_23 rfl (capC K)
  refine g_ifF (pc := 1) K.1 d17_1 ((if0 _ _).trans (flt hc1).1) ?_
  refine g_iloadN (pc := 4) K.1 d17_4 rfl ?_
  refine g_aloadN (pc := 5) K.1 d17_5 rfl ?_
  refine g_getI (pc := 6) K d17_6 (w60 hw) mf_n ?_
  rcases ifs h with ⟨hc9, h⟩ | ⟨hc9, h⟩
  · refine g_icF (pc := 9) K.1 d17_9 ((tlt hc9).2.1) ?_
    refine g_iloadN (pc := 12) K.1 d17_12 rfl ?_
    refine g_bipush (pc := 13) (v := 6) K.1 d17_13 (by decide) ?_
    rcases ifs h with ⟨hc15, h⟩ | ⟨hc15, h⟩
    · refine g_icF (pc := 15) K.1 d17_15 ((tlt hc15).2.1) ?_
      refine g_iconst (pc := 18) (v := 1) K.1 d17_18 (by decide) ?_
      refine g_goto (pc := 19) (pc' := 23) K.1 d17_19 (by decide) ?_
      cases h; exact g_ireturnN (t := .boolean) K.1 rfl (Or.inl rfl) d17_23 rfl (capC K)
    refine g_icT (pc := 15) (pc' := 22) K.1 d17_15 (by decide) ((flt hc15).2.1) ?_
    refine g_iconst (pc := 22) (v := 0) K.1 d17_22 (by decide) ?_
    cases h; exact g_ireturnN (t := .boolean) K.1 rfl (Or.inl rfl) d17_23 rfl (capC K)
  refine g_icT (pc := 9) (pc' := 22) K.1 d17_9 (by decide) ((flt hc9).2.1) ?_
  refine g_iconst (pc := 22) (v := 0) K.1 d17_22 (by decide) ?_
  cases h; exact g_ireturnN (t := .boolean) K.1 rfl (Or.inl rfl) d17_23 rfl (capC K)
theorem con_M_validThread (l : Launch) (Z : State) (a0 : Array Value) (hw : HW a0 Z) (n1 : Nat) (a : Addr) (ha : n1 ≤ a) {σ : St} {v1 : Int32} {r : Int32 × St} (h : M_validThread σ v1 = some r) : Con l Z cC cFS cFA 23 n1 a ⟨cC, "validThread", "(I)Z"⟩ c17 2 (some .boolean) ⟨0, 0, 0, 0⟩ [.ref 0, .int v1] σ (some (.int r.1)) r.2 :=
  con_of_go pnC rfl (layW hw) lgood ha (fun X h1 K => ok_M_validThread K hw h)
abbrev KM_M_validKind (X : Cx (St × Nat)) (Z : State) (a0 : Array Value) (l : Launch) (n1 : Nat) (a : Addr) (h0 : Heap) : Prop := CtxC X Z a0 cC cFS cFA 23 27 l n1 a h0 ce0 ⟨0, 0, 0, 0⟩ "validKind" c18 2 (some .boolean)
def M_validKind_b15  (σ : St) : Option (Int32 × St) :=
  (some ((1 : Int32), σ))
theorem ok_M_validKind_b15 {X : Cx (St × Nat)} {Z : State} {a0 : Array Value} {l : Launch} {n1 : Nat} {a : Addr} {h0 : Heap} (K : KM_M_validKind X Z a0 l n1 a h0) (hw : HW a0 Z)  {σ : St} {r : Int32 × St}  (h : M_validKind_b15  σ = some r) : Go X (some (.int r.1), (r.2, 23)) 15 [none, none] [] (σ, 23) := by
  unfold M_validKind_b15 at h
  refine g_iconst (pc := 15) (v := 1) K.1 d18_15 (by decide) ?_
  refine g_goto (pc := 16) (pc' := 20) K.1 d18_16 (by decide) ?_
  cases h; exact g_ireturnN (t := .boolean) K.1 rfl (Or.inl rfl) d18_20 rfl (capC K)
def M_validKind (σ : St) (v1 : Int32) : Option (Int32 × St) :=
  (if v1 = (1 : Int32) then M_validKind_b15 σ else (if v1 = (2 : Int32) then M_validKind_b15 σ else (if v1 = (3 : Int32) then M_validKind_b15 σ else (some ((0 : Int32), σ)))))
theorem ok_M_validKind {X : Cx (St × Nat)} {Z : State} {a0 : Array Value} {l : Launch} {n1 : Nat} {a : Addr} {h0 : Heap} (K : KM_M_validKind X Z a0 l n1 a h0) (hw : HW a0 Z) {σ : St} {v1 : Int32} {r : Int32 × St} (h : M_validKind σ v1 = some r) : Go X (some (.int r.1), (r.2, 23)) 0 [some (.ref 0), some (.int v1)] [] (σ, 23) := by
  unfold M_validKind at h
  refine g_iloadN (pc := 0) K.1 d18_0 rfl ?_
  refine g_iconst (pc := 1) (v := 1) K.1 d18_1 (by decide) ?_
  rcases ifs h with ⟨hc2, h⟩ | ⟨hc2, h⟩
  · refine g_icT (pc := 2) (pc' := 15) K.1 d18_2 (by decide) ((teq hc2).1) ?_
    exact g_less (ok_M_validKind_b15 K hw  h) (ln (ln l0))
  refine g_icF (pc := 2) K.1 d18_2 ((feq hc2).1) ?_
  refine g_iloadN (pc := 5) K.1 d18_5 rfl ?_
  refine g_iconst (pc := 6) (v := 2) K.1 d18_6 (by decide) ?_
  rcases ifs h with ⟨hc7, h⟩ | ⟨hc7, h⟩
  · refine g_icT (pc := 7) (pc' := 15) K.1 d18_7 (by decide) ((teq hc7).1) ?_
    exact g_less (ok_M_validKind_b15 K hw  h) (ln (ln l0))
  refine g_icF (pc := 7) K.1 d18_7 ((feq hc7).1) ?_
  refine g_iloadN (pc := 10) K.1 d18_10 rfl ?_
  refine g_iconst (pc := 11) (v := 3) K.1 d18_11 (by decide) ?_
  rcases ifs h with ⟨hc12, h⟩ | ⟨hc12, h⟩
  · refine g_icF (pc := 12) K.1 d18_12 ((teq hc12).2) ?_
    exact g_less (ok_M_validKind_b15 K hw  h) (ln (ln l0))
  refine g_icT (pc := 12) (pc' := 19) K.1 d18_12 (by decide) ((feq hc12).2) ?_
  refine g_iconst (pc := 19) (v := 0) K.1 d18_19 (by decide) ?_
  cases h; exact g_ireturnN (t := .boolean) K.1 rfl (Or.inl rfl) d18_20 rfl (capC K)
theorem con_M_validKind (l : Launch) (Z : State) (a0 : Array Value) (hw : HW a0 Z) (n1 : Nat) (a : Addr) (ha : n1 ≤ a) {σ : St} {v1 : Int32} {r : Int32 × St} (h : M_validKind σ v1 = some r) : Con l Z cC cFS cFA 23 n1 a ⟨cC, "validKind", "(I)Z"⟩ c18 2 (some .boolean) ⟨0, 0, 0, 0⟩ [.ref 0, .int v1] σ (some (.int r.1)) r.2 :=
  con_of_go pnC rfl (layW hw) lgood ha (fun X h1 K => ok_M_validKind K hw h)
abbrev KM_M_validEnqValue (X : Cx (St × Nat)) (Z : State) (a0 : Array Value) (l : Launch) (n1 : Nat) (a : Addr) (h0 : Heap) : Prop := CtxC X Z a0 cC cFS cFA 23 27 l n1 a h0 ce0 ⟨0, 0, 0, 0⟩ "validEnqValue" c19 2 (some .boolean)
def M_validEnqValue (σ : St) (v1 : Int32) : Option (Int32 × St) :=
  (if v1 < 0 then (some ((0 : Int32), σ)) else (if (32767 : Int32) < v1 then (some ((0 : Int32), σ)) else (some ((1 : Int32), σ))))
theorem ok_M_validEnqValue {X : Cx (St × Nat)} {Z : State} {a0 : Array Value} {l : Launch} {n1 : Nat} {a : Addr} {h0 : Heap} (K : KM_M_validEnqValue X Z a0 l n1 a h0) (hw : HW a0 Z) {σ : St} {v1 : Int32} {r : Int32 × St} (h : M_validEnqValue σ v1 = some r) : Go X (some (.int r.1), (r.2, 23)) 0 [some (.ref 0), some (.int v1)] [] (σ, 23) := by
  unfold M_validEnqValue at h
  refine g_iloadN (pc := 0) K.1 d19_0 rfl ?_
  rcases ifs h with ⟨hc1, h⟩ | ⟨hc1, h⟩
  · refine g_ifT (pc := 1) (pc' := 15) K.1 d19_1 (by decide) ((if0 _ _).trans (tlt hc1).1) ?_
    refine g_iconst (pc := 15) (v := 0) K.1 d19_15 (by decide) ?_
    cases h; exact g_ireturnN (t := .boolean) K.1 rfl (Or.inl rfl) d19_16 rfl (capC K)
  refine g_ifF (pc := 1) K.1 d19_1 ((if0 _ _).trans (flt hc1).1) ?_
  refine g_iloadN (pc := 4) K.1 d19_4 rfl ?_
  refine g_sipush (pc := 5) (v := 32767) K.1 d19_5 (by decide) ?_
  rcases ifs h with ⟨hc8, h⟩ | ⟨hc8, h⟩
  · refine g_icT (pc := 8) (pc' := 15) K.1 d19_8 (by decide) ((tlt hc8).2.2.1) ?_
    refine g_iconst (pc := 15) (v := 0) K.1 d19_15 (by decide) ?_
    cases h; exact g_ireturnN (t := .boolean) K.1 rfl (Or.inl rfl) d19_16 rfl (capC K)
  refine g_icF (pc := 8) K.1 d19_8 ((flt hc8).2.2.1) ?_
  refine g_iconst (pc := 11) (v := 1) K.1 d19_11 (by decide) ?_
  refine g_goto (pc := 12) (pc' := 16) K.1 d19_12 (by decide) ?_
  cases h; exact g_ireturnN (t := .boolean) K.1 rfl (Or.inl rfl) d19_16 rfl (capC K)
theorem con_M_validEnqValue (l : Launch) (Z : State) (a0 : Array Value) (hw : HW a0 Z) (n1 : Nat) (a : Addr) (ha : n1 ≤ a) {σ : St} {v1 : Int32} {r : Int32 × St} (h : M_validEnqValue σ v1 = some r) : Con l Z cC cFS cFA 23 n1 a ⟨cC, "validEnqValue", "(I)Z"⟩ c19 2 (some .boolean) ⟨0, 0, 0, 0⟩ [.ref 0, .int v1] σ (some (.int r.1)) r.2 :=
  con_of_go pnC rfl (layW hw) lgood ha (fun X h1 K => ok_M_validEnqValue K hw h)
abbrev KM_M_invoke (X : Cx (St × Nat)) (Z : State) (a0 : Array Value) (l : Launch) (n1 : Nat) (a : Addr) (h0 : Heap) : Prop := CtxC X Z a0 cC cFS cFA 23 27 l n1 a h0 ce0 ⟨3, 0, 0, 45⟩ "invoke" c14 4 (some .int)
def M_invoke_b49 (NF : Nat)  (i1 : Int32) (i2 : Int32) (i3 : Int32) (σ : St) : Option (Int32 × St) :=
  (if (gI σ 139) < (240 : Int32) then ((M_acceptInvoke NF σ i1 i2 i3).bind fun q66 => (some (q66.1, q66.2))) else (some ((-5 : Int32), σ)))
theorem ok_M_invoke_b49 {X : Cx (St × Nat)} {Z : State} {a0 : Array Value} {l : Launch} {n1 : Nat} {a : Addr} {h0 : Heap} {NF : Nat} (K : KM_M_invoke X Z a0 l n1 a h0) (hw : HW a0 Z)  {i1 : Int32} {i2 : Int32} {i3 : Int32} {σ : St} {r : Int32 × St}  (h : M_invoke_b49 NF  i1 i2 i3 σ = some r) : Go X (some (.int r.1), (r.2, 23)) 49 [some (.ref 0), some (.int i1), some (.int i2), some (.int i3)] [] (σ, 23) := by
  unfold M_invoke_b49 at h
  refine g_aloadN (pc := 49) K.1 d14_49 rfl ?_
  refine g_getI (pc := 50) K d14_50 (w64 hw) mf_opCount ?_
  refine g_sipush (pc := 53) (v := 240) K.1 d14_53 (by decide) ?_
  rcases ifs h with ⟨hc56, h⟩ | ⟨hc56, h⟩
  · refine g_icT (pc := 56) (pc' := 62) K.1 d14_56 (by decide) ((tlt hc56).1) ?_
    refine g_aloadN (pc := 62) K.1 d14_62 rfl ?_
    refine g_iloadN (pc := 63) K.1 d14_63 rfl ?_
    refine g_iloadN (pc := 64) K.1 d14_64 rfl ?_
    refine g_iloadN (pc := 65) K.1 d14_65 rfl ?_
    obtain ⟨q66, hq66, h⟩ := Option.bind_eq_some_iff.mp h
    refine g_callP (pc := 66) (vs := [.int i1, .int i2, .int i3]) K d14_66 (w121 hw) (w122 hw) (w123 hw) (w124 hw) hyC pd_3 rfl rfl (con_M_acceptInvoke l Z a0 hw n1 a (ctx_le K) hq66) rfl (Nat.le_of_ble_eq_true rfl) (Nat.le_of_ble_eq_true rfl) rfl rfl ?_
    cases h; exact g_ireturn K.1 d14_69 (capC K)
  refine g_icF (pc := 56) K.1 d14_56 ((flt hc56).1) ?_
  refine g_bipush (pc := 59) (v := -5) K.1 d14_59 (by decide) ?_
  cases h; exact g_ireturn K.1 d14_61 (capC K)
def M_invoke (NF : Nat) (σ : St) (v1 : Int32) (v2 : Int32) (v3 : Int32) : Option (Int32 × St) :=
  ((M_validThread σ v1).bind fun q2 => (if q2.1 = 0 then (some ((-1 : Int32), q2.2)) else (if 0 ≤ (v1).toInt ∧ (v1).toInt < 6 then (if (gA q2.2 7 (v1).toInt) = 0 then ((M_validKind q2.2 v2).bind fun q24 => (if q24.1 = 0 then (some ((-3 : Int32), q24.2)) else (if v2 = (2 : Int32) then ((M_validEnqValue q24.2 v3).bind fun q40 => (if q40.1 = 0 then (some ((-4 : Int32), q40.2)) else M_invoke_b49 NF v1 v2 v3 q40.2)) else M_invoke_b49 NF v1 v2 v3 q24.2))) else (some ((-2 : Int32), q2.2))) else none)))
theorem ok_M_invoke {X : Cx (St × Nat)} {Z : State} {a0 : Array Value} {l : Launch} {n1 : Nat} {a : Addr} {h0 : Heap} {NF : Nat} (K : KM_M_invoke X Z a0 l n1 a h0) (hw : HW a0 Z) {σ : St} {v1 : Int32} {v2 : Int32} {v3 : Int32} {r : Int32 × St} (h : M_invoke NF σ v1 v2 v3 = some r) : Go X (some (.int r.1), (r.2, 23)) 0 [some (.ref 0), some (.int v1), some (.int v2), some (.int v3)] [] (σ, 23) := by
  unfold M_invoke at h
  refine g_aloadN (pc := 0) K.1 d14_0 rfl ?_
  refine g_iloadN (pc := 1) K.1 d14_1 rfl ?_
  obtain ⟨q2, hq2, h⟩ := Option.bind_eq_some_iff.mp h
  refine g_callP (pc := 2) (vs := [.int v1]) K d14_2 (w113 hw) (w114 hw) (w115 hw) (w116 hw) hyC pd_5 rfl rfl (con_M_validThread l Z a0 hw n1 a (ctx_le K) hq2) rfl (Nat.le_of_ble_eq_true rfl) (Nat.le_of_ble_eq_true rfl) rfl rfl ?_
  rcases ifs h with ⟨hc5, h⟩ | ⟨hc5, h⟩
  · refine g_ifF (pc := 5) K.1 d14_5 ((if0 _ _).trans (teq hc5).2) ?_
    refine g_iconst (pc := 8) (v := -1) K.1 d14_8 (by decide) ?_
    cases h; exact g_ireturn K.1 d14_9 (capC K)
  refine g_ifT (pc := 5) (pc' := 10) K.1 d14_5 (by decide) ((if0 _ _).trans (feq hc5).2) ?_
  refine g_aloadN (pc := 10) K.1 d14_10 rfl ?_
  refine g_getA (pc := 11) K d14_11 (w22 hw) mf_thPhase rfl ?_
  refine g_iloadN (pc := 14) K.1 d14_14 rfl ?_
  obtain ⟨hc15, h⟩ := ifn h
  refine g_iaload (pc := 15) K d14_15 ma_thPhase rfl hc15 ?_
  rcases ifs h with ⟨hc16, h⟩ | ⟨hc16, h⟩
  · refine g_ifT (pc := 16) (pc' := 22) K.1 d14_16 (by decide) ((if0 _ _).trans (teq hc16).1) ?_
    refine g_aloadN (pc := 22) K.1 d14_22 rfl ?_
    refine g_iloadN (pc := 23) K.1 d14_23 rfl ?_
    obtain ⟨q24, hq24, h⟩ := Option.bind_eq_some_iff.mp h
    refine g_callP (pc := 24) (vs := [.int v2]) K d14_24 (w117 hw) (w118 hw) (w119 hw) (w120 hw) hyC pd_5 rfl rfl (con_M_validKind l Z a0 hw n1 a (ctx_le K) hq24) rfl (Nat.le_of_ble_eq_true rfl) (Nat.le_of_ble_eq_true rfl) rfl rfl ?_
    rcases ifs h with ⟨hc27, h⟩ | ⟨hc27, h⟩
    · refine g_ifF (pc := 27) K.1 d14_27 ((if0 _ _).trans (teq hc27).2) ?_
      refine g_bipush (pc := 30) (v := -3) K.1 d14_30 (by decide) ?_
      cases h; exact g_ireturn K.1 d14_32 (capC K)
    refine g_ifT (pc := 27) (pc' := 33) K.1 d14_27 (by decide) ((if0 _ _).trans (feq hc27).2) ?_
    refine g_iloadN (pc := 33) K.1 d14_33 rfl ?_
    refine g_iconst (pc := 34) (v := 2) K.1 d14_34 (by decide) ?_
    rcases ifs h with ⟨hc35, h⟩ | ⟨hc35, h⟩
    · refine g_icF (pc := 35) K.1 d14_35 ((teq hc35).2) ?_
      refine g_aloadN (pc := 38) K.1 d14_38 rfl ?_
      refine g_iloadN (pc := 39) K.1 d14_39 rfl ?_
      obtain ⟨q40, hq40, h⟩ := Option.bind_eq_some_iff.mp h
      refine g_callP (pc := 40) (vs := [.int v3]) K d14_40 (w129 hw) (w130 hw) (w131 hw) (w132 hw) hyC pd_5 rfl rfl (con_M_validEnqValue l Z a0 hw n1 a (ctx_le K) hq40) rfl (Nat.le_of_ble_eq_true rfl) (Nat.le_of_ble_eq_true rfl) rfl rfl ?_
      rcases ifs h with ⟨hc43, h⟩ | ⟨hc43, h⟩
      · refine g_ifF (pc := 43) K.1 d14_43 ((if0 _ _).trans (teq hc43).2) ?_
        refine g_bipush (pc := 46) (v := -4) K.1 d14_46 (by decide) ?_
        cases h; exact g_ireturn K.1 d14_48 (capC K)
      refine g_ifT (pc := 43) (pc' := 49) K.1 d14_43 (by decide) ((if0 _ _).trans (feq hc43).2) ?_
      exact ok_M_invoke_b49 K hw  h
    refine g_icT (pc := 35) (pc' := 49) K.1 d14_35 (by decide) ((feq hc35).2) ?_
    exact ok_M_invoke_b49 K hw  h
  refine g_ifF (pc := 16) K.1 d14_16 ((if0 _ _).trans (feq hc16).1) ?_
  refine g_bipush (pc := 19) (v := -2) K.1 d14_19 (by decide) ?_
  cases h; exact g_ireturn K.1 d14_21 (capC K)
theorem con_M_invoke (l : Launch) (Z : State) (a0 : Array Value) (hw : HW a0 Z) (n1 : Nat) (a : Addr) (ha : n1 ≤ a) {NF : Nat} {σ : St} {v1 : Int32} {v2 : Int32} {v3 : Int32} {r : Int32 × St} (h : M_invoke NF σ v1 v2 v3 = some r) : Con l Z cC cFS cFA 23 n1 a ⟨cC, "invoke", "(III)I"⟩ c14 4 (some .int) ⟨3, 0, 0, 45⟩ [.ref 0, .int v1, .int v2, .int v3] σ (some (.int r.1)) r.2 :=
  con_of_go pnC rfl (layW hw) lgood ha (fun X h1 K => ok_M_invoke K hw h)
abbrev KM_M_isId (X : Cx (St × Nat)) (Z : State) (a0 : Array Value) (l : Launch) (n1 : Nat) (a : Addr) (h0 : Heap) : Prop := CtxC X Z a0 cC cFS cFA 23 27 l n1 a h0 ce0 ⟨0, 0, 0, 0⟩ "isId" c24 2 (some .boolean)
def M_isId (σ : St) (v1 : Int32) : Option (Int32 × St) :=
  (if v1 < (1 : Int32) then (some ((0 : Int32), σ)) else (if (gI σ 139) < v1 then (some ((0 : Int32), σ)) else (if (240 : Int32) < v1 then (some ((0 : Int32), σ)) else (some ((1 : Int32), σ)))))
theorem ok_M_isId {X : Cx (St × Nat)} {Z : State} {a0 : Array Value} {l : Launch} {n1 : Nat} {a : Addr} {h0 : Heap} (K : KM_M_isId X Z a0 l n1 a h0) (hw : HW a0 Z) {σ : St} {v1 : Int32} {r : Int32 × St} (h : M_isId σ v1 = some r) : Go X (some (.int r.1), (r.2, 23)) 0 [some (.ref 0), some (.int v1)] [] (σ, 23) := by
  unfold M_isId at h
  refine g_iloadN (pc := 0) K.1 d24_0 rfl ?_
  refine g_iconst (pc := 1) (v := 1) K.1 d24_1 (by decide) ?_
  rcases ifs h with ⟨hc2, h⟩ | ⟨hc2, h⟩
  · refine g_icT (pc := 2) (pc' := 24) K.1 d24_2 (by decide) ((tlt hc2).1) ?_
    refine g_iconst (pc := 24) (v := 0) K.1 d24_24 (by decide) ?_
    cases h; exact g_ireturnN (t := .boolean) K.1 rfl (Or.inl rfl) d24_25 rfl (capC K)
  refine g_icF (pc := 2) K.1 d24_2 ((flt hc2).1) ?_
  refine g_iloadN (pc := 5) K.1 d24_5 rfl ?_
  refine g_aloadN (pc := 6) K.1 d24_6 rfl ?_
  refine g_getI (pc := 7) K d24_7 (w64 hw) mf_opCount ?_
  rcases ifs h with ⟨hc10, h⟩ | ⟨hc10, h⟩
  · refine g_icT (pc := 10) (pc' := 24) K.1 d24_10 (by decide) ((tlt hc10).2.2.1) ?_
    refine g_iconst (pc := 24) (v := 0) K.1 d24_24 (by decide) ?_
    cases h; exact g_ireturnN (t := .boolean) K.1 rfl (Or.inl rfl) d24_25 rfl (capC K)
  refine g_icF (pc := 10) K.1 d24_10 ((flt hc10).2.2.1) ?_
  refine g_iloadN (pc := 13) K.1 d24_13 rfl ?_
  refine g_sipush (pc := 14) (v := 240) K.1 d24_14 (by decide) ?_
  rcases ifs h with ⟨hc17, h⟩ | ⟨hc17, h⟩
  · refine g_icT (pc := 17) (pc' := 24) K.1 d24_17 (by decide) ((tlt hc17).2.2.1) ?_
    refine g_iconst (pc := 24) (v := 0) K.1 d24_24 (by decide) ?_
    cases h; exact g_ireturnN (t := .boolean) K.1 rfl (Or.inl rfl) d24_25 rfl (capC K)
  refine g_icF (pc := 17) K.1 d24_17 ((flt hc17).2.2.1) ?_
  refine g_iconst (pc := 20) (v := 1) K.1 d24_20 (by decide) ?_
  refine g_goto (pc := 21) (pc' := 25) K.1 d24_21 (by decide) ?_
  cases h; exact g_ireturnN (t := .boolean) K.1 rfl (Or.inl rfl) d24_25 rfl (capC K)
theorem con_M_isId (l : Launch) (Z : State) (a0 : Array Value) (hw : HW a0 Z) (n1 : Nat) (a : Addr) (ha : n1 ≤ a) {σ : St} {v1 : Int32} {r : Int32 × St} (h : M_isId σ v1 = some r) : Con l Z cC cFS cFA 23 n1 a ⟨cC, "isId", "(I)Z"⟩ c24 2 (some .boolean) ⟨0, 0, 0, 0⟩ [.ref 0, .int v1] σ (some (.int r.1)) r.2 :=
  con_of_go pnC rfl (layW hw) lgood ha (fun X h1 K => ok_M_isId K hw h)
abbrev KM_M_kindOf (X : Cx (St × Nat)) (Z : State) (a0 : Array Value) (l : Launch) (n1 : Nat) (a : Addr) (h0 : Heap) : Prop := CtxC X Z a0 cC cFS cFA 23 27 l n1 a h0 ce0 ⟨1, 0, 0, 13⟩ "kindOf" c23 2 (some .int)
def M_kindOf (σ : St) (v1 : Int32) : Option (Int32 × St) :=
  ((M_isId σ v1).bind fun q2 => (if q2.1 = 0 then (some ((0 : Int32), q2.2)) else (if 0 ≤ (v1).toInt ∧ (v1).toInt < 241 then (some ((gA q2.2 1 (v1).toInt), q2.2)) else none)))
theorem ok_M_kindOf {X : Cx (St × Nat)} {Z : State} {a0 : Array Value} {l : Launch} {n1 : Nat} {a : Addr} {h0 : Heap} (K : KM_M_kindOf X Z a0 l n1 a h0) (hw : HW a0 Z) {σ : St} {v1 : Int32} {r : Int32 × St} (h : M_kindOf σ v1 = some r) : Go X (some (.int r.1), (r.2, 23)) 0 [some (.ref 0), some (.int v1)] [] (σ, 23) := by
  unfold M_kindOf at h
  refine g_aloadN (pc := 0) K.1 d23_0 rfl ?_
  refine g_iloadN (pc := 1) K.1 d23_1 rfl ?_
  obtain ⟨q2, hq2, h⟩ := Option.bind_eq_some_iff.mp h
  refine g_callP (pc := 2) (vs := [.int v1]) K d23_2 (w150 hw) (w151 hw) (w152 hw) (w153 hw) hyC pd_5 rfl rfl (con_M_isId l Z a0 hw n1 a (ctx_le K) hq2) rfl (Nat.le_of_ble_eq_true rfl) (Nat.le_of_ble_eq_true rfl) rfl rfl ?_
  rcases ifs h with ⟨hc5, h⟩ | ⟨hc5, h⟩
  · refine g_ifF (pc := 5) K.1 d23_5 ((if0 _ _).trans (teq hc5).2) ?_
    refine g_iconst (pc := 8) (v := 0) K.1 d23_8 (by decide) ?_
    cases h; exact g_ireturn K.1 d23_9 (capC K)
  refine g_ifT (pc := 5) (pc' := 10) K.1 d23_5 (by decide) ((if0 _ _).trans (feq hc5).2) ?_
  refine g_aloadN (pc := 10) K.1 d23_10 rfl ?_
  refine g_getA (pc := 11) K d23_11 (w10 hw) mf_opKind rfl ?_
  refine g_iloadN (pc := 14) K.1 d23_14 rfl ?_
  obtain ⟨hc15, h⟩ := ifn h
  refine g_iaload (pc := 15) K d23_15 ma_opKind rfl hc15 ?_
  cases h; exact g_ireturn K.1 d23_16 (capC K)
theorem con_M_kindOf (l : Launch) (Z : State) (a0 : Array Value) (hw : HW a0 Z) (n1 : Nat) (a : Addr) (ha : n1 ≤ a) {σ : St} {v1 : Int32} {r : Int32 × St} (h : M_kindOf σ v1 = some r) : Con l Z cC cFS cFA 23 n1 a ⟨cC, "kindOf", "(I)I"⟩ c23 2 (some .int) ⟨1, 0, 0, 13⟩ [.ref 0, .int v1] σ (some (.int r.1)) r.2 :=
  con_of_go pnC rfl (layW hw) lgood ha (fun X h1 K => ok_M_kindOf K hw h)
abbrev KM_M_argOf (X : Cx (St × Nat)) (Z : State) (a0 : Array Value) (l : Launch) (n1 : Nat) (a : Addr) (h0 : Heap) : Prop := CtxC X Z a0 cC cFS cFA 23 27 l n1 a h0 ce0 ⟨1, 0, 0, 13⟩ "argOf" c25 2 (some .int)
def M_argOf (σ : St) (v1 : Int32) : Option (Int32 × St) :=
  ((M_isId σ v1).bind fun q2 => (if q2.1 = 0 then (some ((0 : Int32), q2.2)) else (if 0 ≤ (v1).toInt ∧ (v1).toInt < 241 then (some ((gA q2.2 2 (v1).toInt), q2.2)) else none)))
theorem ok_M_argOf {X : Cx (St × Nat)} {Z : State} {a0 : Array Value} {l : Launch} {n1 : Nat} {a : Addr} {h0 : Heap} (K : KM_M_argOf X Z a0 l n1 a h0) (hw : HW a0 Z) {σ : St} {v1 : Int32} {r : Int32 × St} (h : M_argOf σ v1 = some r) : Go X (some (.int r.1), (r.2, 23)) 0 [some (.ref 0), some (.int v1)] [] (σ, 23) := by
  unfold M_argOf at h
  refine g_aloadN (pc := 0) K.1 d25_0 rfl ?_
  refine g_iloadN (pc := 1) K.1 d25_1 rfl ?_
  obtain ⟨q2, hq2, h⟩ := Option.bind_eq_some_iff.mp h
  refine g_callP (pc := 2) (vs := [.int v1]) K d25_2 (w150 hw) (w151 hw) (w152 hw) (w153 hw) hyC pd_5 rfl rfl (con_M_isId l Z a0 hw n1 a (ctx_le K) hq2) rfl (Nat.le_of_ble_eq_true rfl) (Nat.le_of_ble_eq_true rfl) rfl rfl ?_
  rcases ifs h with ⟨hc5, h⟩ | ⟨hc5, h⟩
  · refine g_ifF (pc := 5) K.1 d25_5 ((if0 _ _).trans (teq hc5).2) ?_
    refine g_iconst (pc := 8) (v := 0) K.1 d25_8 (by decide) ?_
    cases h; exact g_ireturn K.1 d25_9 (capC K)
  refine g_ifT (pc := 5) (pc' := 10) K.1 d25_5 (by decide) ((if0 _ _).trans (feq hc5).2) ?_
  refine g_aloadN (pc := 10) K.1 d25_10 rfl ?_
  refine g_getA (pc := 11) K d25_11 (w12 hw) mf_opArg rfl ?_
  refine g_iloadN (pc := 14) K.1 d25_14 rfl ?_
  obtain ⟨hc15, h⟩ := ifn h
  refine g_iaload (pc := 15) K d25_15 ma_opArg rfl hc15 ?_
  cases h; exact g_ireturn K.1 d25_16 (capC K)
theorem con_M_argOf (l : Launch) (Z : State) (a0 : Array Value) (hw : HW a0 Z) (n1 : Nat) (a : Addr) (ha : n1 ≤ a) {σ : St} {v1 : Int32} {r : Int32 × St} (h : M_argOf σ v1 = some r) : Con l Z cC cFS cFA 23 n1 a ⟨cC, "argOf", "(I)I"⟩ c25 2 (some .int) ⟨1, 0, 0, 13⟩ [.ref 0, .int v1] σ (some (.int r.1)) r.2 :=
  con_of_go pnC rfl (layW hw) lgood ha (fun X h1 K => ok_M_argOf K hw h)
abbrev KM_M_stepAnnounce (X : Cx (St × Nat)) (Z : State) (a0 : Array Value) (l : Launch) (n1 : Nat) (a : Addr) (h0 : Heap) : Prop := CtxC X Z a0 cC cFS cFA 23 27 l n1 a h0 ce0 ⟨2, 0, 0, 28⟩ "stepAnnounce" c22 3 (some .int)
def M_stepAnnounce (σ : St) (v1 : Int32) : Option (Int32 × St) :=
  (if 0 ≤ (v1).toInt ∧ (v1).toInt < 6 then (if 0 ≤ (v1).toInt ∧ (v1).toInt < 6 then ((M_kindOf (sA σ 14 (v1).toInt (gA σ 8 (v1).toInt)) (gA σ 8 (v1).toInt)).bind fun q21 => (if 0 ≤ (v1).toInt ∧ (v1).toInt < 6 then ((M_argOf (sA q21.2 15 (v1).toInt q21.1) (gA σ 8 (v1).toInt)).bind fun q32 => (if 0 ≤ (v1).toInt ∧ (v1).toInt < 6 then (if 0 ≤ (v1).toInt ∧ (v1).toInt < 6 then (some ((1 : Int32), (sA (sA q32.2 16 (v1).toInt q32.1) 7 (v1).toInt (2 : Int32)))) else none) else none)) else none)) else none) else none)
theorem ok_M_stepAnnounce {X : Cx (St × Nat)} {Z : State} {a0 : Array Value} {l : Launch} {n1 : Nat} {a : Addr} {h0 : Heap} (K : KM_M_stepAnnounce X Z a0 l n1 a h0) (hw : HW a0 Z) {σ : St} {v1 : Int32} {r : Int32 × St} (h : M_stepAnnounce σ v1 = some r) : Go X (some (.int r.1), (r.2, 23)) 0 [some (.ref 0), some (.int v1), none] [] (σ, 23) := by
  unfold M_stepAnnounce at h
  refine g_aloadN (pc := 0) K.1 d22_0 rfl ?_
  refine g_getA (pc := 1) K d22_1 (w24 hw) mf_thOwn rfl ?_
  refine g_iloadN (pc := 4) K.1 d22_4 rfl ?_
  obtain ⟨hc5, h⟩ := ifn h
  refine g_iaload (pc := 5) K d22_5 ma_thOwn rfl hc5 ?_
  refine g_istoreN (pc := 6) (L' := [some (.ref 0), some (.int v1), some (.int (gA σ 8 (v1).toInt))]) K.1 d22_6 (blt rfl) rfl ?_
  refine g_aloadN (pc := 7) K.1 d22_7 rfl ?_
  refine g_getA (pc := 8) K d22_8 (w36 hw) mf_annId rfl ?_
  refine g_iloadN (pc := 11) K.1 d22_11 rfl ?_
  refine g_iloadN (pc := 12) K.1 d22_12 rfl ?_
  obtain ⟨hc13, h⟩ := ifn h
  refine g_iastore (pc := 13) K d22_13 ma_annId rfl hc13 ?_
  refine g_aloadN (pc := 14) K.1 d22_14 rfl ?_
  refine g_getA (pc := 15) K d22_15 (w38 hw) mf_annKind rfl ?_
  refine g_iloadN (pc := 18) K.1 d22_18 rfl ?_
  refine g_aloadN (pc := 19) K.1 d22_19 rfl ?_
  refine g_iloadN (pc := 20) K.1 d22_20 rfl ?_
  obtain ⟨q21, hq21, h⟩ := Option.bind_eq_some_iff.mp h
  refine g_callP (pc := 21) (vs := [.int (gA σ 8 (v1).toInt)]) K d22_21 (w146 hw) (w147 hw) (w148 hw) (w149 hw) hyC pd_6 rfl rfl (con_M_kindOf l Z a0 hw n1 a (ctx_le K) hq21) rfl (Nat.le_of_ble_eq_true rfl) (Nat.le_of_ble_eq_true rfl) rfl rfl ?_
  obtain ⟨hc24, h⟩ := ifn h
  refine g_iastore (pc := 24) K d22_24 ma_annKind rfl hc24 ?_
  refine g_aloadN (pc := 25) K.1 d22_25 rfl ?_
  refine g_getA (pc := 26) K d22_26 (w40 hw) mf_annArg rfl ?_
  refine g_iloadN (pc := 29) K.1 d22_29 rfl ?_
  refine g_aloadN (pc := 30) K.1 d22_30 rfl ?_
  refine g_iloadN (pc := 31) K.1 d22_31 rfl ?_
  obtain ⟨q32, hq32, h⟩ := Option.bind_eq_some_iff.mp h
  refine g_callP (pc := 32) (vs := [.int (gA σ 8 (v1).toInt)]) K d22_32 (w154 hw) (w155 hw) (w156 hw) (w157 hw) hyC pd_6 rfl rfl (con_M_argOf l Z a0 hw n1 a (ctx_le K) hq32) rfl (Nat.le_of_ble_eq_true rfl) (Nat.le_of_ble_eq_true rfl) rfl rfl ?_
  obtain ⟨hc35, h⟩ := ifn h
  refine g_iastore (pc := 35) K d22_35 ma_annArg rfl hc35 ?_
  refine g_aloadN (pc := 36) K.1 d22_36 rfl ?_
  refine g_getA (pc := 37) K d22_37 (w22 hw) mf_thPhase rfl ?_
  refine g_iloadN (pc := 40) K.1 d22_40 rfl ?_
  refine g_iconst (pc := 41) (v := 2) K.1 d22_41 (by decide) ?_
  obtain ⟨hc42, h⟩ := ifn h
  refine g_iastore (pc := 42) K d22_42 ma_thPhase rfl hc42 ?_
  refine g_iconst (pc := 43) (v := 1) K.1 d22_43 (by decide) ?_
  cases h; exact g_ireturn K.1 d22_44 (capC K)
theorem con_M_stepAnnounce (l : Launch) (Z : State) (a0 : Array Value) (hw : HW a0 Z) (n1 : Nat) (a : Addr) (ha : n1 ≤ a) {σ : St} {v1 : Int32} {r : Int32 × St} (h : M_stepAnnounce σ v1 = some r) : Con l Z cC cFS cFA 23 n1 a ⟨cC, "stepAnnounce", "(I)I"⟩ c22 3 (some .int) ⟨2, 0, 0, 28⟩ [.ref 0, .int v1] σ (some (.int r.1)) r.2 :=
  con_of_go pnC rfl (layW hw) lgood ha (fun X h1 K => ok_M_stepAnnounce K hw h)
abbrev KM_M_stepReadTail (X : Cx (St × Nat)) (Z : State) (a0 : Array Value) (l : Launch) (n1 : Nat) (a : Addr) (h0 : Heap) : Prop := CtxC X Z a0 cC cFS cFA 23 27 l n1 a h0 ce0 ⟨0, 0, 0, 0⟩ "stepReadTail" c26 2 (some .int)
def M_stepReadTail (σ : St) (v1 : Int32) : Option (Int32 × St) :=
  (if 0 ≤ (v1).toInt ∧ (v1).toInt < 6 then (if 0 ≤ (v1).toInt ∧ (v1).toInt < 6 then (some ((2 : Int32), (sA (sA σ 9 (v1).toInt (gI σ 153)) 7 (v1).toInt (3 : Int32)))) else none) else none)
theorem ok_M_stepReadTail {X : Cx (St × Nat)} {Z : State} {a0 : Array Value} {l : Launch} {n1 : Nat} {a : Addr} {h0 : Heap} (K : KM_M_stepReadTail X Z a0 l n1 a h0) (hw : HW a0 Z) {σ : St} {v1 : Int32} {r : Int32 × St} (h : M_stepReadTail σ v1 = some r) : Go X (some (.int r.1), (r.2, 23)) 0 [some (.ref 0), some (.int v1)] [] (σ, 23) := by
  unfold M_stepReadTail at h
  refine g_aloadN (pc := 0) K.1 d26_0 rfl ?_
  refine g_getA (pc := 1) K d26_1 (w26 hw) mf_thP rfl ?_
  refine g_iloadN (pc := 4) K.1 d26_4 rfl ?_
  refine g_aloadN (pc := 5) K.1 d26_5 rfl ?_
  refine g_getI (pc := 6) K d26_6 (w66 hw) mf_tailValue ?_
  obtain ⟨hc9, h⟩ := ifn h
  refine g_iastore (pc := 9) K d26_9 ma_thP rfl hc9 ?_
  refine g_aloadN (pc := 10) K.1 d26_10 rfl ?_
  refine g_getA (pc := 11) K d26_11 (w22 hw) mf_thPhase rfl ?_
  refine g_iloadN (pc := 14) K.1 d26_14 rfl ?_
  refine g_iconst (pc := 15) (v := 3) K.1 d26_15 (by decide) ?_
  obtain ⟨hc16, h⟩ := ifn h
  refine g_iastore (pc := 16) K d26_16 ma_thPhase rfl hc16 ?_
  refine g_iconst (pc := 17) (v := 2) K.1 d26_17 (by decide) ?_
  cases h; exact g_ireturn K.1 d26_18 (capC K)
theorem con_M_stepReadTail (l : Launch) (Z : State) (a0 : Array Value) (hw : HW a0 Z) (n1 : Nat) (a : Addr) (ha : n1 ≤ a) {σ : St} {v1 : Int32} {r : Int32 × St} (h : M_stepReadTail σ v1 = some r) : Con l Z cC cFS cFA 23 n1 a ⟨cC, "stepReadTail", "(I)I"⟩ c26 2 (some .int) ⟨0, 0, 0, 0⟩ [.ref 0, .int v1] σ (some (.int r.1)) r.2 :=
  con_of_go pnC rfl (layW hw) lgood ha (fun X h1 K => ok_M_stepReadTail K hw h)
abbrev KM_M_cellOf (X : Cx (St × Nat)) (Z : State) (a0 : Array Value) (l : Launch) (n1 : Nat) (a : Addr) (h0 : Heap) : Prop := CtxC X Z a0 cC cFS cFA 23 27 l n1 a h0 ce0 ⟨0, 0, 0, 0⟩ "cellOf" c30 2 (some .int)
def M_cellOf (σ : St) (v1 : Int32) : Option (Int32 × St) :=
  (some ((v1 &&& (7 : Int32)), σ))
theorem ok_M_cellOf {X : Cx (St × Nat)} {Z : State} {a0 : Array Value} {l : Launch} {n1 : Nat} {a : Addr} {h0 : Heap} (K : KM_M_cellOf X Z a0 l n1 a h0) (hw : HW a0 Z) {σ : St} {v1 : Int32} {r : Int32 × St} (h : M_cellOf σ v1 = some r) : Go X (some (.int r.1), (r.2, 23)) 0 [some (.ref 0), some (.int v1)] [] (σ, 23) := by
  unfold M_cellOf at h
  refine g_iloadN (pc := 0) K.1 d30_0 rfl ?_
  refine g_bipush (pc := 1) (v := 7) K.1 d30_1 (by decide) ?_
  refine g_iand (pc := 3) K.1 d30_3 ?_
  cases h; exact g_ireturn K.1 d30_4 (capC K)
theorem con_M_cellOf (l : Launch) (Z : State) (a0 : Array Value) (hw : HW a0 Z) (n1 : Nat) (a : Addr) (ha : n1 ≤ a) {σ : St} {v1 : Int32} {r : Int32 × St} (h : M_cellOf σ v1 = some r) : Con l Z cC cFS cFA 23 n1 a ⟨cC, "cellOf", "(I)I"⟩ c30 2 (some .int) ⟨0, 0, 0, 0⟩ [.ref 0, .int v1] σ (some (.int r.1)) r.2 :=
  con_of_go pnC rfl (layW hw) lgood ha (fun X h1 K => ok_M_cellOf K hw h)
abbrev KM_M_cellHolds (X : Cx (St × Nat)) (Z : State) (a0 : Array Value) (l : Launch) (n1 : Nat) (a : Addr) (h0 : Heap) : Prop := CtxC X Z a0 cC cFS cFA 23 27 l n1 a h0 ce0 ⟨1, 0, 0, 14⟩ "cellHolds" c29 2 (some .boolean)
def M_cellHolds (σ : St) (v1 : Int32) : Option (Int32 × St) :=
  (if v1 < 0 then (some ((0 : Int32), σ)) else (if (gI σ 153) < v1 then (some ((0 : Int32), σ)) else ((M_cellOf σ v1).bind fun q20 => (if 0 ≤ (q20.1).toInt ∧ (q20.1).toInt < 8 then (if (gA q20.2 17 (q20.1).toInt) = v1 then (some ((1 : Int32), q20.2)) else (some ((0 : Int32), q20.2))) else none))))
theorem ok_M_cellHolds {X : Cx (St × Nat)} {Z : State} {a0 : Array Value} {l : Launch} {n1 : Nat} {a : Addr} {h0 : Heap} (K : KM_M_cellHolds X Z a0 l n1 a h0) (hw : HW a0 Z) {σ : St} {v1 : Int32} {r : Int32 × St} (h : M_cellHolds σ v1 = some r) : Go X (some (.int r.1), (r.2, 23)) 0 [some (.ref 0), some (.int v1)] [] (σ, 23) := by
  unfold M_cellHolds at h
  refine g_iloadN (pc := 0) K.1 d29_0 rfl ?_
  rcases ifs h with ⟨hc1, h⟩ | ⟨hc1, h⟩
  · refine g_ifT (pc := 1) (pc' := 12) K.1 d29_1 (by decide) ((if0 _ _).trans (tlt hc1).1) ?_
    refine g_iconst (pc := 12) (v := 0) K.1 d29_12 (by decide) ?_
    cases h; exact g_ireturnN (t := .boolean) K.1 rfl (Or.inl rfl) d29_13 rfl (capC K)
  refine g_ifF (pc := 1) K.1 d29_1 ((if0 _ _).trans (flt hc1).1) ?_
  refine g_iloadN (pc := 4) K.1 d29_4 rfl ?_
  refine g_aloadN (pc := 5) K.1 d29_5 rfl ?_
  refine g_getI (pc := 6) K d29_6 (w66 hw) mf_tailValue ?_
  rcases ifs h with ⟨hc9, h⟩ | ⟨hc9, h⟩
  · refine g_icF (pc := 9) K.1 d29_9 ((tlt hc9).2.2.2) ?_
    refine g_iconst (pc := 12) (v := 0) K.1 d29_12 (by decide) ?_
    cases h; exact g_ireturnN (t := .boolean) K.1 rfl (Or.inl rfl) d29_13 rfl (capC K)
  refine g_icT (pc := 9) (pc' := 14) K.1 d29_9 (by decide) ((flt hc9).2.2.2) ?_
  refine g_aloadN (pc := 14) K.1 d29_14 rfl ?_
  refine g_getA (pc := 15) K d29_15 (w42 hw) mf_cellPos rfl ?_
  refine g_aloadN (pc := 18) K.1 d29_18 rfl ?_
  refine g_iloadN (pc := 19) K.1 d29_19 rfl ?_
  obtain ⟨q20, hq20, h⟩ := Option.bind_eq_some_iff.mp h
  refine g_callP (pc := 20) (vs := [.int v1]) K d29_20 (w174 hw) (w175 hw) (w176 hw) (w177 hw) hyC pd_6 rfl rfl (con_M_cellOf l Z a0 hw n1 a (ctx_le K) hq20) rfl (Nat.le_of_ble_eq_true rfl) (Nat.le_of_ble_eq_true rfl) rfl rfl ?_
  obtain ⟨hc23, h⟩ := ifn h
  refine g_iaload (pc := 23) K d29_23 ma_cellPos rfl hc23 ?_
  refine g_iloadN (pc := 24) K.1 d29_24 rfl ?_
  rcases ifs h with ⟨hc25, h⟩ | ⟨hc25, h⟩
  · refine g_icF (pc := 25) K.1 d29_25 ((teq hc25).2) ?_
    refine g_iconst (pc := 28) (v := 1) K.1 d29_28 (by decide) ?_
    refine g_goto (pc := 29) (pc' := 33) K.1 d29_29 (by decide) ?_
    cases h; exact g_ireturnN (t := .boolean) K.1 rfl (Or.inl rfl) d29_33 rfl (capC K)
  refine g_icT (pc := 25) (pc' := 32) K.1 d29_25 (by decide) ((feq hc25).2) ?_
  refine g_iconst (pc := 32) (v := 0) K.1 d29_32 (by decide) ?_
  cases h; exact g_ireturnN (t := .boolean) K.1 rfl (Or.inl rfl) d29_33 rfl (capC K)
theorem con_M_cellHolds (l : Launch) (Z : State) (a0 : Array Value) (hw : HW a0 Z) (n1 : Nat) (a : Addr) (ha : n1 ≤ a) {σ : St} {v1 : Int32} {r : Int32 × St} (h : M_cellHolds σ v1 = some r) : Con l Z cC cFS cFA 23 n1 a ⟨cC, "cellHolds", "(I)Z"⟩ c29 2 (some .boolean) ⟨1, 0, 0, 14⟩ [.ref 0, .int v1] σ (some (.int r.1)) r.2 :=
  con_of_go pnC rfl (layW hw) lgood ha (fun X h1 K => ok_M_cellHolds K hw h)
abbrev KM_M_cellLastOf (X : Cx (St × Nat)) (Z : State) (a0 : Array Value) (l : Launch) (n1 : Nat) (a : Addr) (h0 : Heap) : Prop := CtxC X Z a0 cC cFS cFA 23 27 l n1 a h0 ce0 ⟨0, 0, 0, 0⟩ "cellLastOf" c32 3 (some .int)
def M_cellLastOf (σ : St) (v1 : Int32) (v2 : Int32) : Option (Int32 × St) :=
  (if v1 < 0 then (some ((0 : Int32), σ)) else (if v1 < (8 : Int32) then (if v2 < 0 then (some ((0 : Int32), σ)) else (if v2 < (6 : Int32) then (if 0 ≤ (((v1 * (6 : Int32)) + v2)).toInt ∧ (((v1 * (6 : Int32)) + v2)).toInt < 48 then (some ((gA σ 23 (((v1 * (6 : Int32)) + v2)).toInt), σ)) else none) else (some ((0 : Int32), σ)))) else (some ((0 : Int32), σ))))
theorem ok_M_cellLastOf {X : Cx (St × Nat)} {Z : State} {a0 : Array Value} {l : Launch} {n1 : Nat} {a : Addr} {h0 : Heap} (K : KM_M_cellLastOf X Z a0 l n1 a h0) (hw : HW a0 Z) {σ : St} {v1 : Int32} {v2 : Int32} {r : Int32 × St} (h : M_cellLastOf σ v1 v2 = some r) : Go X (some (.int r.1), (r.2, 23)) 0 [some (.ref 0), some (.int v1), some (.int v2)] [] (σ, 23) := by
  unfold M_cellLastOf at h
  refine g_iloadN (pc := 0) K.1 d32_0 rfl ?_
  rcases ifs h with ⟨hc1, h⟩ | ⟨hc1, h⟩
  · refine g_ifT (pc := 1) (pc' := 20) K.1 d32_1 (by decide) ((if0 _ _).trans (tlt hc1).1) ?_
    refine g_iconst (pc := 20) (v := 0) K.1 d32_20 (by decide) ?_
    cases h; exact g_ireturn K.1 d32_21 (capC K)
  refine g_ifF (pc := 1) K.1 d32_1 ((if0 _ _).trans (flt hc1).1) ?_
  refine g_iloadN (pc := 4) K.1 d32_4 rfl ?_
  refine g_bipush (pc := 5) (v := 8) K.1 d32_5 (by decide) ?_
  rcases ifs h with ⟨hc7, h⟩ | ⟨hc7, h⟩
  · refine g_icF (pc := 7) K.1 d32_7 ((tlt hc7).2.1) ?_
    refine g_iloadN (pc := 10) K.1 d32_10 rfl ?_
    rcases ifs h with ⟨hc11, h⟩ | ⟨hc11, h⟩
    · refine g_ifT (pc := 11) (pc' := 20) K.1 d32_11 (by decide) ((if0 _ _).trans (tlt hc11).1) ?_
      refine g_iconst (pc := 20) (v := 0) K.1 d32_20 (by decide) ?_
      cases h; exact g_ireturn K.1 d32_21 (capC K)
    refine g_ifF (pc := 11) K.1 d32_11 ((if0 _ _).trans (flt hc11).1) ?_
    refine g_iloadN (pc := 14) K.1 d32_14 rfl ?_
    refine g_bipush (pc := 15) (v := 6) K.1 d32_15 (by decide) ?_
    rcases ifs h with ⟨hc17, h⟩ | ⟨hc17, h⟩
    · refine g_icT (pc := 17) (pc' := 22) K.1 d32_17 (by decide) ((tlt hc17).1) ?_
      refine g_aloadN (pc := 22) K.1 d32_22 rfl ?_
      refine g_getA (pc := 23) K d32_23 (w54 hw) mf_cellLast rfl ?_
      refine g_iloadN (pc := 26) K.1 d32_26 rfl ?_
      refine g_bipush (pc := 27) (v := 6) K.1 d32_27 (by decide) ?_
      refine g_imul (pc := 29) K.1 d32_29 ?_
      refine g_iloadN (pc := 30) K.1 d32_30 rfl ?_
      refine g_iadd (pc := 31) K.1 d32_31 ?_
      obtain ⟨hc32, h⟩ := ifn h
      refine g_iaload (pc := 32) K d32_32 ma_cellLast rfl hc32 ?_
      cases h; exact g_ireturn K.1 d32_33 (capC K)
    refine g_icF (pc := 17) K.1 d32_17 ((flt hc17).1) ?_
    refine g_iconst (pc := 20) (v := 0) K.1 d32_20 (by decide) ?_
    cases h; exact g_ireturn K.1 d32_21 (capC K)
  refine g_icT (pc := 7) (pc' := 20) K.1 d32_7 (by decide) ((flt hc7).2.1) ?_
  refine g_iconst (pc := 20) (v := 0) K.1 d32_20 (by decide) ?_
  cases h; exact g_ireturn K.1 d32_21 (capC K)
theorem con_M_cellLastOf (l : Launch) (Z : State) (a0 : Array Value) (hw : HW a0 Z) (n1 : Nat) (a : Addr) (ha : n1 ≤ a) {σ : St} {v1 : Int32} {v2 : Int32} {r : Int32 × St} (h : M_cellLastOf σ v1 v2 = some r) : Con l Z cC cFS cFA 23 n1 a ⟨cC, "cellLastOf", "(II)I"⟩ c32 3 (some .int) ⟨0, 0, 0, 0⟩ [.ref 0, .int v1, .int v2] σ (some (.int r.1)) r.2 :=
  con_of_go pnC rfl (layW hw) lgood ha (fun X h1 K => ok_M_cellLastOf K hw h)
abbrev KM_M_copyLastFromCell (X : Cx (St × Nat)) (Z : State) (a0 : Array Value) (l : Launch) (n1 : Nat) (a : Addr) (h0 : Heap) : Prop := CtxC X Z a0 cC cFS cFA 23 27 l n1 a h0 ce0 ⟨1, 0, 0, 15⟩ "copyLastFromCell" c31 5 none
def M_copyLastFromCell_w2 (NF : Nat) (k2 : Int32 → Int32 → Int32 → St → Option (St)) (i1 : Int32) (i2 : Int32) (i3 : Int32) (σ : St) : Option (St) :=
  (if i3 < (6 : Int32) then ((M_cellLastOf σ i2 i3).bind fun q11 => ((M_setThreadLast q11.2 i1 i3 q11.1).bind fun q21 => k2 i1 i2 (i3 + (1 : Int32)) q21)) else (some σ))
theorem ok_M_copyLastFromCell_w2 {X : Cx (St × Nat)} {Z : State} {a0 : Array Value} {l : Launch} {n1 : Nat} {a : Addr} {h0 : Heap} {NF : Nat} (K : KM_M_copyLastFromCell X Z a0 l n1 a h0) (hw : HW a0 Z) {k2 : Int32 → Int32 → Int32 → St → Option (St)} {i1 : Int32} {i2 : Int32} {i3 : Int32} {σ : St} {r : St} (hk2 : ∀ (i1 : Int32) (i2 : Int32) (i3 : Int32) (σ : St) (h : k2 i1 i2 i3 σ = some r), Go X (none, (r, 23)) 2 [some (.ref 0), some (.int i1), some (.int i2), some (.int i3), none] [] (σ, 23)) (h : M_copyLastFromCell_w2 NF k2 i1 i2 i3 σ = some r) : Go X (none, (r, 23)) 2 [some (.ref 0), some (.int i1), some (.int i2), some (.int i3), none] [] (σ, 23) := by
  unfold M_copyLastFromCell_w2 at h
  refine g_iloadN (pc := 2) K.1 d31_2 rfl ?_
  refine g_bipush (pc := 3) (v := 6) K.1 d31_3 (by decide) ?_
  rcases ifs h with ⟨hc5, h⟩ | ⟨hc5, h⟩
  · refine g_icF (pc := 5) K.1 d31_5 ((tlt hc5).2.1) ?_
    refine g_aloadN (pc := 8) K.1 d31_8 rfl ?_
    refine g_iloadN (pc := 9) K.1 d31_9 rfl ?_
    refine g_iloadN (pc := 10) K.1 d31_10 rfl ?_
    obtain ⟨q11, hq11, h⟩ := Option.bind_eq_some_iff.mp h
    refine g_callP (pc := 11) (vs := [.int i2, .int i3]) K d31_11 (w182 hw) (w183 hw) (w184 hw) (w185 hw) hyC pd_7 rfl rfl (con_M_cellLastOf l Z a0 hw n1 a (ctx_le K) hq11) rfl (Nat.le_of_ble_eq_true rfl) (Nat.le_of_ble_eq_true rfl) rfl rfl ?_
    refine g_istore (pc := 14) (L' := [some (.ref 0), some (.int i1), some (.int i2), some (.int i3), some (.int q11.1)]) K.1 d31_14 (blt rfl) rfl ?_
    refine g_aloadN (pc := 16) K.1 d31_16 rfl ?_
    refine g_iloadN (pc := 17) K.1 d31_17 rfl ?_
    refine g_iloadN (pc := 18) K.1 d31_18 rfl ?_
    refine g_iload (pc := 19) K.1 d31_19 rfl ?_
    obtain ⟨q21, hq21, h⟩ := Option.bind_eq_some_iff.mp h
    refine g_callP (pc := 21) (vs := [.int i1, .int i3, .int q11.1]) K d31_21 (w80 hw) (w81 hw) (w82 hw) (w83 hw) hyC pd_0 rfl rfl (con_M_setThreadLast l Z a0 hw n1 a (ctx_le K) hq21) rfl (Nat.le_of_ble_eq_true rfl) (Nat.le_of_ble_eq_true rfl) rfl rfl ?_
    refine g_iinc (pc := 24) (w := 1) (L' := [some (.ref 0), some (.int i1), some (.int i2), some (.int (i3 + (1 : Int32))), some (.int q11.1)]) K.1 d31_24 rfl (by decide) rfl ?_
    refine g_goto (pc := 27) (pc' := 2) K.1 d31_27 (by decide) ?_
    exact g_less (hk2 _ _ _ _ h) (ls (ls (ls (ls (ln l0)))))
  refine g_icT (pc := 5) (pc' := 30) K.1 d31_5 (by decide) ((flt hc5).2.1) ?_
  cases h; exact g_return K.1 d31_30 (capC K)
def M_copyLastFromCell_l2 (NF : Nat)  : Nat → Int32 → Int32 → Int32 → St → Option (St)
  | 0 => fun _ _ _ _ => none
  | n + 1 => fun i1 i2 i3 σ => M_copyLastFromCell_w2 NF  (M_copyLastFromCell_l2 NF  n) i1 i2 i3 σ
theorem ok_M_copyLastFromCell_l2 {X : Cx (St × Nat)} {Z : State} {a0 : Array Value} {l : Launch} {n1 : Nat} {a : Addr} {h0 : Heap} {NF : Nat} (K : KM_M_copyLastFromCell X Z a0 l n1 a h0) (hw : HW a0 Z) (n : Nat)  {r : St}  : ∀ (i1 : Int32) (i2 : Int32) (i3 : Int32) (σ : St) (h : M_copyLastFromCell_l2 NF  n i1 i2 i3 σ = some r), Go X (none, (r, 23)) 2 [some (.ref 0), some (.int i1), some (.int i2), some (.int i3), none] [] (σ, 23) := by
  induction n with
  | zero => intro i1 i2 i3 σ h; cases h
  | succ n ih => intro i1 i2 i3 σ h; exact ok_M_copyLastFromCell_w2 (NF := NF) K hw  ih h
def M_copyLastFromCell (NF : Nat) (σ : St) (v1 : Int32) (v2 : Int32) : Option (St) :=
  M_copyLastFromCell_l2 NF NF v1 v2 (0 : Int32) σ
theorem ok_M_copyLastFromCell {X : Cx (St × Nat)} {Z : State} {a0 : Array Value} {l : Launch} {n1 : Nat} {a : Addr} {h0 : Heap} {NF : Nat} (K : KM_M_copyLastFromCell X Z a0 l n1 a h0) (hw : HW a0 Z) {σ : St} {v1 : Int32} {v2 : Int32} {r : St} (h : M_copyLastFromCell NF σ v1 v2 = some r) : Go X (none, (r, 23)) 0 [some (.ref 0), some (.int v1), some (.int v2), none, none] [] (σ, 23) := by
  unfold M_copyLastFromCell at h
  refine g_iconst (pc := 0) (v := 0) K.1 d31_0 (by decide) ?_
  refine g_istoreN (pc := 1) (L' := [some (.ref 0), some (.int v1), some (.int v2), some (.int (0 : Int32)), none]) K.1 d31_1 (blt rfl) rfl ?_
  exact ok_M_copyLastFromCell_l2 K hw NF  _ _ _ _ h
theorem con_M_copyLastFromCell (l : Launch) (Z : State) (a0 : Array Value) (hw : HW a0 Z) (n1 : Nat) (a : Addr) (ha : n1 ≤ a) {NF : Nat} {σ : St} {v1 : Int32} {v2 : Int32} {r : St} (h : M_copyLastFromCell NF σ v1 v2 = some r) : Con l Z cC cFS cFA 23 n1 a ⟨cC, "copyLastFromCell", "(II)V"⟩ c31 5 none ⟨1, 0, 0, 15⟩ [.ref 0, .int v1, .int v2] σ none r :=
  con_of_go pnC rfl (layW hw) lgood ha (fun X h1 K => ok_M_copyLastFromCell K hw h)
abbrev KM_M_snapshotLast (X : Cx (St × Nat)) (Z : State) (a0 : Array Value) (l : Launch) (n1 : Nat) (a : Addr) (h0 : Heap) : Prop := CtxC X Z a0 cC cFS cFA 23 27 l n1 a h0 ce0 ⟨2, 0, 0, 31⟩ "snapshotLast" c28 3 none
def M_snapshotLast (NF : Nat) (σ : St) (v1 : Int32) (v2 : Int32) : Option (St) :=
  ((M_cellHolds σ v2).bind fun q2 => (if q2.1 = 0 then none else ((M_cellOf q2.2 v2).bind fun q12 => ((M_copyLastFromCell NF q12.2 v1 q12.1).bind fun q15 => (some q15)))))
theorem ok_M_snapshotLast {X : Cx (St × Nat)} {Z : State} {a0 : Array Value} {l : Launch} {n1 : Nat} {a : Addr} {h0 : Heap} {NF : Nat} (K : KM_M_snapshotLast X Z a0 l n1 a h0) (hw : HW a0 Z) {σ : St} {v1 : Int32} {v2 : Int32} {r : St} (h : M_snapshotLast NF σ v1 v2 = some r) : Go X (none, (r, 23)) 0 [some (.ref 0), some (.int v1), some (.int v2)] [] (σ, 23) := by
  unfold M_snapshotLast at h
  refine g_aloadN (pc := 0) K.1 d28_0 rfl ?_
  refine g_iloadN (pc := 1) K.1 d28_1 rfl ?_
  obtain ⟨q2, hq2, h⟩ := Option.bind_eq_some_iff.mp h
  refine g_callP (pc := 2) (vs := [.int v2]) K d28_2 (w170 hw) (w171 hw) (w172 hw) (w173 hw) hyC pd_5 rfl rfl (con_M_cellHolds l Z a0 hw n1 a (ctx_le K) hq2) rfl (Nat.le_of_ble_eq_true rfl) (Nat.le_of_ble_eq_true rfl) rfl rfl ?_
  rcases ifs h with ⟨hc5, h⟩ | ⟨hc5, h⟩
  · refine g_ifT (pc := 5) (pc' := 21) K.1 d28_5 (by decide) ((if0 _ _).trans (teq hc5).1) ?_
    refine g_aloadN (pc := 21) K.1 d28_21 rfl ?_
    refine g_iloadN (pc := 22) K.1 d28_22 rfl ?_
    refine g_iloadN (pc := 23) K.1 d28_23 rfl ?_
    cases h
  refine g_ifF (pc := 5) K.1 d28_5 ((if0 _ _).trans (feq hc5).1) ?_
  refine g_aloadN (pc := 8) K.1 d28_8 rfl ?_
  refine g_iloadN (pc := 9) K.1 d28_9 rfl ?_
  refine g_aloadN (pc := 10) K.1 d28_10 rfl ?_
  refine g_iloadN (pc := 11) K.1 d28_11 rfl ?_
  obtain ⟨q12, hq12, h⟩ := Option.bind_eq_some_iff.mp h
  refine g_callP (pc := 12) (vs := [.int v2]) K d28_12 (w174 hw) (w175 hw) (w176 hw) (w177 hw) hyC pd_6 rfl rfl (con_M_cellOf l Z a0 hw n1 a (ctx_le K) hq12) rfl (Nat.le_of_ble_eq_true rfl) (Nat.le_of_ble_eq_true rfl) rfl rfl ?_
  obtain ⟨q15, hq15, h⟩ := Option.bind_eq_some_iff.mp h
  refine g_callP (pc := 15) (vs := [.int v1, .int q12.1]) K d28_15 (w178 hw) (w179 hw) (w180 hw) (w181 hw) hyC pd_8 rfl rfl (con_M_copyLastFromCell l Z a0 hw n1 a (ctx_le K) hq15) rfl (Nat.le_of_ble_eq_true rfl) (Nat.le_of_ble_eq_true rfl) rfl rfl ?_
  refine g_goto (pc := 18) (pc' := 27) K.1 d28_18 (by decide) ?_
  cases h; exact g_return K.1 d28_27 (capC K)
theorem con_M_snapshotLast (l : Launch) (Z : State) (a0 : Array Value) (hw : HW a0 Z) (n1 : Nat) (a : Addr) (ha : n1 ≤ a) {NF : Nat} {σ : St} {v1 : Int32} {v2 : Int32} {r : St} (h : M_snapshotLast NF σ v1 v2 = some r) : Con l Z cC cFS cFA 23 n1 a ⟨cC, "snapshotLast", "(II)V"⟩ c28 3 none ⟨2, 0, 0, 31⟩ [.ref 0, .int v1, .int v2] σ none r :=
  con_of_go pnC rfl (layW hw) lgood ha (fun X h1 K => ok_M_snapshotLast K hw h)
abbrev KM_M_threadLast (X : Cx (St × Nat)) (Z : State) (a0 : Array Value) (l : Launch) (n1 : Nat) (a : Addr) (h0 : Heap) : Prop := CtxC X Z a0 cC cFS cFA 23 27 l n1 a h0 ce0 ⟨0, 0, 0, 0⟩ "threadLast" c34 3 (some .int)
def M_threadLast (σ : St) (v1 : Int32) (v2 : Int32) : Option (Int32 × St) :=
  (if v1 < 0 then (some ((0 : Int32), σ)) else (if v1 < (6 : Int32) then (if v2 < 0 then (some ((0 : Int32), σ)) else (if v2 < (6 : Int32) then (if 0 ≤ (((v1 * (6 : Int32)) + v2)).toInt ∧ (((v1 * (6 : Int32)) + v2)).toInt < 36 then (some ((gA σ 13 (((v1 * (6 : Int32)) + v2)).toInt), σ)) else none) else (some ((0 : Int32), σ)))) else (some ((0 : Int32), σ))))
theorem ok_M_threadLast {X : Cx (St × Nat)} {Z : State} {a0 : Array Value} {l : Launch} {n1 : Nat} {a : Addr} {h0 : Heap} (K : KM_M_threadLast X Z a0 l n1 a h0) (hw : HW a0 Z) {σ : St} {v1 : Int32} {v2 : Int32} {r : Int32 × St} (h : M_threadLast σ v1 v2 = some r) : Go X (some (.int r.1), (r.2, 23)) 0 [some (.ref 0), some (.int v1), some (.int v2)] [] (σ, 23) := by
  unfold M_threadLast at h
  refine g_iloadN (pc := 0) K.1 d34_0 rfl ?_
  rcases ifs h with ⟨hc1, h⟩ | ⟨hc1, h⟩
  · refine g_ifT (pc := 1) (pc' := 20) K.1 d34_1 (by decide) ((if0 _ _).trans (tlt hc1).1) ?_
    refine g_iconst (pc := 20) (v := 0) K.1 d34_20 (by decide) ?_
    cases h; exact g_ireturn K.1 d34_21 (capC K)
  refine g_ifF (pc := 1) K.1 d34_1 ((if0 _ _).trans (flt hc1).1) ?_
  refine g_iloadN (pc := 4) K.1 d34_4 rfl ?_
  refine g_bipush (pc := 5) (v := 6) K.1 d34_5 (by decide) ?_
  rcases ifs h with ⟨hc7, h⟩ | ⟨hc7, h⟩
  · refine g_icF (pc := 7) K.1 d34_7 ((tlt hc7).2.1) ?_
    refine g_iloadN (pc := 10) K.1 d34_10 rfl ?_
    rcases ifs h with ⟨hc11, h⟩ | ⟨hc11, h⟩
    · refine g_ifT (pc := 11) (pc' := 20) K.1 d34_11 (by decide) ((if0 _ _).trans (tlt hc11).1) ?_
      refine g_iconst (pc := 20) (v := 0) K.1 d34_20 (by decide) ?_
      cases h; exact g_ireturn K.1 d34_21 (capC K)
    refine g_ifF (pc := 11) K.1 d34_11 ((if0 _ _).trans (flt hc11).1) ?_
    refine g_iloadN (pc := 14) K.1 d34_14 rfl ?_
    refine g_bipush (pc := 15) (v := 6) K.1 d34_15 (by decide) ?_
    rcases ifs h with ⟨hc17, h⟩ | ⟨hc17, h⟩
    · refine g_icT (pc := 17) (pc' := 22) K.1 d34_17 (by decide) ((tlt hc17).1) ?_
      refine g_aloadN (pc := 22) K.1 d34_22 rfl ?_
      refine g_getA (pc := 23) K d34_23 (w34 hw) mf_thLast rfl ?_
      refine g_iloadN (pc := 26) K.1 d34_26 rfl ?_
      refine g_bipush (pc := 27) (v := 6) K.1 d34_27 (by decide) ?_
      refine g_imul (pc := 29) K.1 d34_29 ?_
      refine g_iloadN (pc := 30) K.1 d34_30 rfl ?_
      refine g_iadd (pc := 31) K.1 d34_31 ?_
      obtain ⟨hc32, h⟩ := ifn h
      refine g_iaload (pc := 32) K d34_32 ma_thLast rfl hc32 ?_
      cases h; exact g_ireturn K.1 d34_33 (capC K)
    refine g_icF (pc := 17) K.1 d34_17 ((flt hc17).1) ?_
    refine g_iconst (pc := 20) (v := 0) K.1 d34_20 (by decide) ?_
    cases h; exact g_ireturn K.1 d34_21 (capC K)
  refine g_icT (pc := 7) (pc' := 20) K.1 d34_7 (by decide) ((flt hc7).2.1) ?_
  refine g_iconst (pc := 20) (v := 0) K.1 d34_20 (by decide) ?_
  cases h; exact g_ireturn K.1 d34_21 (capC K)
theorem con_M_threadLast (l : Launch) (Z : State) (a0 : Array Value) (hw : HW a0 Z) (n1 : Nat) (a : Addr) (ha : n1 ≤ a) {σ : St} {v1 : Int32} {v2 : Int32} {r : Int32 × St} (h : M_threadLast σ v1 v2 = some r) : Con l Z cC cFS cFA 23 n1 a ⟨cC, "threadLast", "(II)I"⟩ c34 3 (some .int) ⟨0, 0, 0, 0⟩ [.ref 0, .int v1, .int v2] σ (some (.int r.1)) r.2 :=
  con_of_go pnC rfl (layW hw) lgood ha (fun X h1 K => ok_M_threadLast K hw h)
abbrev KM_M_ownHeldInSnapshot (X : Cx (St × Nat)) (Z : State) (a0 : Array Value) (l : Launch) (n1 : Nat) (a : Addr) (h0 : Heap) : Prop := CtxC X Z a0 cC cFS cFA 23 27 l n1 a h0 ce0 ⟨1, 0, 0, 14⟩ "ownHeldInSnapshot" c33 3 (some .boolean)
def M_ownHeldInSnapshot (σ : St) (v1 : Int32) : Option (Int32 × St) :=
  (if 0 ≤ (v1).toInt ∧ (v1).toInt < 6 then (if 0 < (gA σ 8 (v1).toInt) then ((M_threadLast σ v1 v1).bind fun q16 => (if q16.1 = (gA σ 8 (v1).toInt) then (some ((1 : Int32), q16.2)) else (some ((0 : Int32), q16.2)))) else (some ((0 : Int32), σ))) else none)
theorem ok_M_ownHeldInSnapshot {X : Cx (St × Nat)} {Z : State} {a0 : Array Value} {l : Launch} {n1 : Nat} {a : Addr} {h0 : Heap} (K : KM_M_ownHeldInSnapshot X Z a0 l n1 a h0) (hw : HW a0 Z) {σ : St} {v1 : Int32} {r : Int32 × St} (h : M_ownHeldInSnapshot σ v1 = some r) : Go X (some (.int r.1), (r.2, 23)) 0 [some (.ref 0), some (.int v1), none] [] (σ, 23) := by
  unfold M_ownHeldInSnapshot at h
  refine g_aloadN (pc := 0) K.1 d33_0 rfl ?_
  refine g_getA (pc := 1) K d33_1 (w24 hw) mf_thOwn rfl ?_
  refine g_iloadN (pc := 4) K.1 d33_4 rfl ?_
  obtain ⟨hc5, h⟩ := ifn h
  refine g_iaload (pc := 5) K d33_5 ma_thOwn rfl hc5 ?_
  refine g_istoreN (pc := 6) (L' := [some (.ref 0), some (.int v1), some (.int (gA σ 8 (v1).toInt))]) K.1 d33_6 (blt rfl) rfl ?_
  refine g_iloadN (pc := 7) K.1 d33_7 rfl ?_
  rcases ifs h with ⟨hc8, h⟩ | ⟨hc8, h⟩
  · refine g_ifT (pc := 8) (pc' := 13) K.1 d33_8 (by decide) ((if0 _ _).trans (tlt hc8).2.2.1) ?_
    refine g_aloadN (pc := 13) K.1 d33_13 rfl ?_
    refine g_iloadN (pc := 14) K.1 d33_14 rfl ?_
    refine g_iloadN (pc := 15) K.1 d33_15 rfl ?_
    obtain ⟨q16, hq16, h⟩ := Option.bind_eq_some_iff.mp h
    refine g_callP (pc := 16) (vs := [.int v1, .int v1]) K d33_16 (w190 hw) (w191 hw) (w192 hw) (w193 hw) hyC pd_7 rfl rfl (con_M_threadLast l Z a0 hw n1 a (ctx_le K) hq16) rfl (Nat.le_of_ble_eq_true rfl) (Nat.le_of_ble_eq_true rfl) rfl rfl ?_
    refine g_iloadN (pc := 19) K.1 d33_19 rfl ?_
    rcases ifs h with ⟨hc20, h⟩ | ⟨hc20, h⟩
    · refine g_icF (pc := 20) K.1 d33_20 ((teq hc20).2) ?_
      refine g_iconst (pc := 23) (v := 1) K.1 d33_23 (by decide) ?_
      refine g_goto (pc := 24) (pc' := 28) K.1 d33_24 (by decide) ?_
      cases h; exact g_ireturnN (t := .boolean) K.1 rfl (Or.inl rfl) d33_28 rfl (capC K)
    refine g_icT (pc := 20) (pc' := 27) K.1 d33_20 (by decide) ((feq hc20).2) ?_
    refine g_iconst (pc := 27) (v := 0) K.1 d33_27 (by decide) ?_
    cases h; exact g_ireturnN (t := .boolean) K.1 rfl (Or.inl rfl) d33_28 rfl (capC K)
  refine g_ifF (pc := 8) K.1 d33_8 ((if0 _ _).trans (flt hc8).2.2.1) ?_
  refine g_iconst (pc := 11) (v := 0) K.1 d33_11 (by decide) ?_
  cases h; exact g_ireturnN (t := .boolean) K.1 rfl (Or.inl rfl) d33_12 rfl (capC K)
theorem con_M_ownHeldInSnapshot (l : Launch) (Z : State) (a0 : Array Value) (hw : HW a0 Z) (n1 : Nat) (a : Addr) (ha : n1 ≤ a) {σ : St} {v1 : Int32} {r : Int32 × St} (h : M_ownHeldInSnapshot σ v1 = some r) : Con l Z cC cFS cFA 23 n1 a ⟨cC, "ownHeldInSnapshot", "(I)Z"⟩ c33 3 (some .boolean) ⟨1, 0, 0, 14⟩ [.ref 0, .int v1] σ (some (.int r.1)) r.2 :=
  con_of_go pnC rfl (layW hw) lgood ha (fun X h1 K => ok_M_ownHeldInSnapshot K hw h)
abbrev KM_M_completeOwn (X : Cx (St × Nat)) (Z : State) (a0 : Array Value) (l : Launch) (n1 : Nat) (a : Addr) (h0 : Heap) : Prop := CtxC X Z a0 cC cFS cFA 23 27 l n1 a h0 ce0 ⟨1, 0, 0, 13⟩ "completeOwn" c35 3 none
def M_completeOwn_b22  (i1 : Int32) (σ : St) : Option (St) :=
  (if 0 ≤ (i1).toInt ∧ (i1).toInt < 6 then (some (sA σ 7 (i1).toInt (0 : Int32))) else none)
theorem ok_M_completeOwn_b22 {X : Cx (St × Nat)} {Z : State} {a0 : Array Value} {l : Launch} {n1 : Nat} {a : Addr} {h0 : Heap} (K : KM_M_completeOwn X Z a0 l n1 a h0) (hw : HW a0 Z)  {i1 : Int32} {σ : St} {r : St}  (h : M_completeOwn_b22  i1 σ = some r) : Go X (none, (r, 23)) 22 [some (.ref 0), some (.int i1), none] [] (σ, 23) := by
  unfold M_completeOwn_b22 at h
  refine g_aloadN (pc := 22) K.1 d35_22 rfl ?_
  refine g_getA (pc := 23) K d35_23 (w22 hw) mf_thPhase rfl ?_
  refine g_iloadN (pc := 26) K.1 d35_26 rfl ?_
  refine g_iconst (pc := 27) (v := 0) K.1 d35_27 (by decide) ?_
  obtain ⟨hc28, h⟩ := ifn h
  refine g_iastore (pc := 28) K d35_28 ma_thPhase rfl hc28 ?_
  cases h; exact g_return K.1 d35_29 (capC K)
def M_completeOwn (σ : St) (v1 : Int32) : Option (St) :=
  (if 0 ≤ (v1).toInt ∧ (v1).toInt < 6 then ((M_isId σ (gA σ 8 (v1).toInt)).bind fun q9 => (if q9.1 = 0 then M_completeOwn_b22 v1 q9.2 else (if 0 ≤ ((gA σ 8 (v1).toInt)).toInt ∧ ((gA σ 8 (v1).toInt)).toInt < 241 then M_completeOwn_b22 v1 (sA q9.2 4 ((gA σ 8 (v1).toInt)).toInt (3 : Int32)) else none))) else none)
theorem ok_M_completeOwn {X : Cx (St × Nat)} {Z : State} {a0 : Array Value} {l : Launch} {n1 : Nat} {a : Addr} {h0 : Heap} (K : KM_M_completeOwn X Z a0 l n1 a h0) (hw : HW a0 Z) {σ : St} {v1 : Int32} {r : St} (h : M_completeOwn σ v1 = some r) : Go X (none, (r, 23)) 0 [some (.ref 0), some (.int v1), none] [] (σ, 23) := by
  unfold M_completeOwn at h
  refine g_aloadN (pc := 0) K.1 d35_0 rfl ?_
  refine g_getA (pc := 1) K d35_1 (w24 hw) mf_thOwn rfl ?_
  refine g_iloadN (pc := 4) K.1 d35_4 rfl ?_
  obtain ⟨hc5, h⟩ := ifn h
  refine g_iaload (pc := 5) K d35_5 ma_thOwn rfl hc5 ?_
  refine g_istoreN (pc := 6) (L' := [some (.ref 0), some (.int v1), some (.int (gA σ 8 (v1).toInt))]) K.1 d35_6 (blt rfl) rfl ?_
  refine g_aloadN (pc := 7) K.1 d35_7 rfl ?_
  refine g_iloadN (pc := 8) K.1 d35_8 rfl ?_
  obtain ⟨q9, hq9, h⟩ := Option.bind_eq_some_iff.mp h
  refine g_callP (pc := 9) (vs := [.int (gA σ 8 (v1).toInt)]) K d35_9 (w150 hw) (w151 hw) (w152 hw) (w153 hw) hyC pd_5 rfl rfl (con_M_isId l Z a0 hw n1 a (ctx_le K) hq9) rfl (Nat.le_of_ble_eq_true rfl) (Nat.le_of_ble_eq_true rfl) rfl rfl ?_
  rcases ifs h with ⟨hc12, h⟩ | ⟨hc12, h⟩
  · refine g_ifT (pc := 12) (pc' := 22) K.1 d35_12 (by decide) ((if0 _ _).trans (teq hc12).1) ?_
    exact g_less (ok_M_completeOwn_b22 K hw  h) (ls (ls (ln l0)))
  refine g_ifF (pc := 12) K.1 d35_12 ((if0 _ _).trans (feq hc12).1) ?_
  refine g_aloadN (pc := 15) K.1 d35_15 rfl ?_
  refine g_getA (pc := 16) K d35_16 (w16 hw) mf_opStatus rfl ?_
  refine g_iloadN (pc := 19) K.1 d35_19 rfl ?_
  refine g_iconst (pc := 20) (v := 3) K.1 d35_20 (by decide) ?_
  obtain ⟨hc21, h⟩ := ifn h
  refine g_iastore (pc := 21) K d35_21 ma_opStatus rfl hc21 ?_
  exact g_less (ok_M_completeOwn_b22 K hw  h) (ls (ls (ln l0)))
theorem con_M_completeOwn (l : Launch) (Z : State) (a0 : Array Value) (hw : HW a0 Z) (n1 : Nat) (a : Addr) (ha : n1 ≤ a) {σ : St} {v1 : Int32} {r : St} (h : M_completeOwn σ v1 = some r) : Con l Z cC cFS cFA 23 n1 a ⟨cC, "completeOwn", "(I)V"⟩ c35 3 none ⟨1, 0, 0, 13⟩ [.ref 0, .int v1] σ none r :=
  con_of_go pnC rfl (layW hw) lgood ha (fun X h1 K => ok_M_completeOwn K hw h)
abbrev KM_M_stepReadCell (X : Cx (St × Nat)) (Z : State) (a0 : Array Value) (l : Launch) (n1 : Nat) (a : Addr) (h0 : Heap) : Prop := CtxC X Z a0 cC cFS cFA 23 27 l n1 a h0 ce0 ⟨3, 0, 0, 45⟩ "stepReadCell" c27 3 (some .int)
def M_stepReadCell (NF : Nat) (σ : St) (v1 : Int32) : Option (Int32 × St) :=
  (if 0 ≤ (v1).toInt ∧ (v1).toInt < 6 then ((M_snapshotLast NF σ v1 (gA σ 9 (v1).toInt)).bind fun q10 => ((M_ownHeldInSnapshot q10 v1).bind fun q15 => (if q15.1 = 0 then (if 0 ≤ (v1).toInt ∧ (v1).toInt < 6 then (some ((3 : Int32), (sA q15.2 7 (v1).toInt (4 : Int32)))) else none) else ((M_completeOwn q15.2 v1).bind fun q23 => (some ((4 : Int32), q23)))))) else none)
theorem ok_M_stepReadCell {X : Cx (St × Nat)} {Z : State} {a0 : Array Value} {l : Launch} {n1 : Nat} {a : Addr} {h0 : Heap} {NF : Nat} (K : KM_M_stepReadCell X Z a0 l n1 a h0) (hw : HW a0 Z) {σ : St} {v1 : Int32} {r : Int32 × St} (h : M_stepReadCell NF σ v1 = some r) : Go X (some (.int r.1), (r.2, 23)) 0 [some (.ref 0), some (.int v1), none] [] (σ, 23) := by
  unfold M_stepReadCell at h
  refine g_aloadN (pc := 0) K.1 d27_0 rfl ?_
  refine g_getA (pc := 1) K d27_1 (w26 hw) mf_thP rfl ?_
  refine g_iloadN (pc := 4) K.1 d27_4 rfl ?_
  obtain ⟨hc5, h⟩ := ifn h
  refine g_iaload (pc := 5) K d27_5 ma_thP rfl hc5 ?_
  refine g_istoreN (pc := 6) (L' := [some (.ref 0), some (.int v1), some (.int (gA σ 9 (v1).toInt))]) K.1 d27_6 (blt rfl) rfl ?_
  refine g_aloadN (pc := 7) K.1 d27_7 rfl ?_
  refine g_iloadN (pc := 8) K.1 d27_8 rfl ?_
  refine g_iloadN (pc := 9) K.1 d27_9 rfl ?_
  obtain ⟨q10, hq10, h⟩ := Option.bind_eq_some_iff.mp h
  refine g_callP (pc := 10) (vs := [.int v1, .int (gA σ 9 (v1).toInt)]) K d27_10 (w166 hw) (w167 hw) (w168 hw) (w169 hw) hyC pd_8 rfl rfl (con_M_snapshotLast l Z a0 hw n1 a (ctx_le K) hq10) rfl (Nat.le_of_ble_eq_true rfl) (Nat.le_of_ble_eq_true rfl) rfl rfl ?_
  refine g_aloadN (pc := 13) K.1 d27_13 rfl ?_
  refine g_iloadN (pc := 14) K.1 d27_14 rfl ?_
  obtain ⟨q15, hq15, h⟩ := Option.bind_eq_some_iff.mp h
  refine g_callP (pc := 15) (vs := [.int v1]) K d27_15 (w186 hw) (w187 hw) (w188 hw) (w189 hw) hyC pd_5 rfl rfl (con_M_ownHeldInSnapshot l Z a0 hw n1 a (ctx_le K) hq15) rfl (Nat.le_of_ble_eq_true rfl) (Nat.le_of_ble_eq_true rfl) rfl rfl ?_
  rcases ifs h with ⟨hc18, h⟩ | ⟨hc18, h⟩
  · refine g_ifT (pc := 18) (pc' := 28) K.1 d27_18 (by decide) ((if0 _ _).trans (teq hc18).1) ?_
    refine g_aloadN (pc := 28) K.1 d27_28 rfl ?_
    refine g_getA (pc := 29) K d27_29 (w22 hw) mf_thPhase rfl ?_
    refine g_iloadN (pc := 32) K.1 d27_32 rfl ?_
    refine g_iconst (pc := 33) (v := 4) K.1 d27_33 (by decide) ?_
    obtain ⟨hc34, h⟩ := ifn h
    refine g_iastore (pc := 34) K d27_34 ma_thPhase rfl hc34 ?_
    refine g_iconst (pc := 35) (v := 3) K.1 d27_35 (by decide) ?_
    cases h; exact g_ireturn K.1 d27_36 (capC K)
  refine g_ifF (pc := 18) K.1 d27_18 ((if0 _ _).trans (feq hc18).1) ?_
  refine g_aloadN (pc := 21) K.1 d27_21 rfl ?_
  refine g_iloadN (pc := 22) K.1 d27_22 rfl ?_
  obtain ⟨q23, hq23, h⟩ := Option.bind_eq_some_iff.mp h
  refine g_callP (pc := 23) (vs := [.int v1]) K d27_23 (w275 hw) (w276 hw) (w277 hw) (w278 hw) hyC pd_1 rfl rfl (con_M_completeOwn l Z a0 hw n1 a (ctx_le K) hq23) rfl (Nat.le_of_ble_eq_true rfl) (Nat.le_of_ble_eq_true rfl) rfl rfl ?_
  refine g_iconst (pc := 26) (v := 4) K.1 d27_26 (by decide) ?_
  cases h; exact g_ireturn K.1 d27_27 (capC K)
theorem con_M_stepReadCell (l : Launch) (Z : State) (a0 : Array Value) (hw : HW a0 Z) (n1 : Nat) (a : Addr) (ha : n1 ≤ a) {NF : Nat} {σ : St} {v1 : Int32} {r : Int32 × St} (h : M_stepReadCell NF σ v1 = some r) : Con l Z cC cFS cFA 23 n1 a ⟨cC, "stepReadCell", "(I)I"⟩ c27 3 (some .int) ⟨3, 0, 0, 45⟩ [.ref 0, .int v1] σ (some (.int r.1)) r.2 :=
  con_of_go pnC rfl (layW hw) lgood ha (fun X h1 K => ok_M_stepReadCell K hw h)
abbrev KM_M_helpTarget (X : Cx (St × Nat)) (Z : State) (a0 : Array Value) (l : Launch) (n1 : Nat) (a : Addr) (h0 : Heap) : Prop := CtxC X Z a0 cC cFS cFA 23 27 l n1 a h0 ce0 ⟨0, 0, 0, 0⟩ "helpTarget" c37 3 (some .int)
def M_helpTarget_b37  (i2 : Int32) (σ : St) : Option (Int32 × St) :=
  (if i2 < 0 then (some ((0 : Int32), σ)) else (if i2 < (6 : Int32) then (some (i2, σ)) else (some ((0 : Int32), σ))))
theorem ok_M_helpTarget_b37 {X : Cx (St × Nat)} {Z : State} {a0 : Array Value} {l : Launch} {n1 : Nat} {a : Addr} {h0 : Heap} (K : KM_M_helpTarget X Z a0 l n1 a h0) (hw : HW a0 Z)  {i2 : Int32} {σ : St} {r : Int32 × St}  (h : M_helpTarget_b37  i2 σ = some r) : Go X (some (.int r.1), (r.2, 23)) 37 [none, none, some (.int i2)] [] (σ, 23) := by
  unfold M_helpTarget_b37 at h
  refine g_iloadN (pc := 37) K.1 d37_37 rfl ?_
  rcases ifs h with ⟨hc38, h⟩ | ⟨hc38, h⟩
  · refine g_ifT (pc := 38) (pc' := 47) K.1 d37_38 (by decide) ((if0 _ _).trans (tlt hc38).1) ?_
    refine g_iconst (pc := 47) (v := 0) K.1 d37_47 (by decide) ?_
    cases h; exact g_ireturn K.1 d37_48 (capC K)
  refine g_ifF (pc := 38) K.1 d37_38 ((if0 _ _).trans (flt hc38).1) ?_
  refine g_iloadN (pc := 41) K.1 d37_41 rfl ?_
  refine g_bipush (pc := 42) (v := 6) K.1 d37_42 (by decide) ?_
  rcases ifs h with ⟨hc44, h⟩ | ⟨hc44, h⟩
  · refine g_icT (pc := 44) (pc' := 49) K.1 d37_44 (by decide) ((tlt hc44).1) ?_
    refine g_iloadN (pc := 49) K.1 d37_49 rfl ?_
    cases h; exact g_ireturn K.1 d37_50 (capC K)
  refine g_icF (pc := 44) K.1 d37_44 ((flt hc44).1) ?_
  refine g_iconst (pc := 47) (v := 0) K.1 d37_47 (by decide) ?_
  cases h; exact g_ireturn K.1 d37_48 (capC K)
def M_helpTarget_b18  (i2 : Int32) (σ : St) : Option (Int32 × St) :=
  (if (i2 + (1 : Int32)) < (gI σ 137) then M_helpTarget_b37 (i2 + (1 : Int32)) σ else M_helpTarget_b37 ((i2 + (1 : Int32)) - (gI σ 137)) σ)
theorem ok_M_helpTarget_b18 {X : Cx (St × Nat)} {Z : State} {a0 : Array Value} {l : Launch} {n1 : Nat} {a : Addr} {h0 : Heap} (K : KM_M_helpTarget X Z a0 l n1 a h0) (hw : HW a0 Z)  {i2 : Int32} {σ : St} {r : Int32 × St}  (h : M_helpTarget_b18  i2 σ = some r) : Go X (some (.int r.1), (r.2, 23)) 18 [some (.ref 0), none, some (.int i2)] [] (σ, 23) := by
  unfold M_helpTarget_b18 at h
  refine g_iloadN (pc := 18) K.1 d37_18 rfl ?_
  refine g_iconst (pc := 19) (v := 1) K.1 d37_19 (by decide) ?_
  refine g_iadd (pc := 20) K.1 d37_20 ?_
  refine g_istoreN (pc := 21) (L' := [some (.ref 0), none, some (.int (i2 + (1 : Int32)))]) K.1 d37_21 (blt rfl) rfl ?_
  refine g_iloadN (pc := 22) K.1 d37_22 rfl ?_
  refine g_aloadN (pc := 23) K.1 d37_23 rfl ?_
  refine g_getI (pc := 24) K d37_24 (w60 hw) mf_n ?_
  rcases ifs h with ⟨hc27, h⟩ | ⟨hc27, h⟩
  · refine g_icT (pc := 27) (pc' := 37) K.1 d37_27 (by decide) ((tlt hc27).1) ?_
    exact g_less (ok_M_helpTarget_b37 K hw  h) (ln (ls (ls l0)))
  refine g_icF (pc := 27) K.1 d37_27 ((flt hc27).1) ?_
  refine g_iloadN (pc := 30) K.1 d37_30 rfl ?_
  refine g_aloadN (pc := 31) K.1 d37_31 rfl ?_
  refine g_getI (pc := 32) K d37_32 (w60 hw) mf_n ?_
  refine g_isub (pc := 35) K.1 d37_35 ?_
  refine g_istoreN (pc := 36) (L' := [some (.ref 0), none, some (.int ((i2 + (1 : Int32)) - (gI σ 137)))]) K.1 d37_36 (blt rfl) rfl ?_
  exact g_less (ok_M_helpTarget_b37 K hw  h) (ln (ls (ls l0)))
def M_helpTarget (σ : St) (v1 : Int32) : Option (Int32 × St) :=
  (if (gI σ 137) = 0 then none else (if (v1 % (gI σ 137)) < 0 then M_helpTarget_b18 ((v1 % (gI σ 137)) + (gI σ 137)) σ else M_helpTarget_b18 (v1 % (gI σ 137)) σ))
theorem ok_M_helpTarget {X : Cx (St × Nat)} {Z : State} {a0 : Array Value} {l : Launch} {n1 : Nat} {a : Addr} {h0 : Heap} (K : KM_M_helpTarget X Z a0 l n1 a h0) (hw : HW a0 Z) {σ : St} {v1 : Int32} {r : Int32 × St} (h : M_helpTarget σ v1 = some r) : Go X (some (.int r.1), (r.2, 23)) 0 [some (.ref 0), some (.int v1), none] [] (σ, 23) := by
  unfold M_helpTarget at h
  refine g_iloadN (pc := 0) K.1 d37_0 rfl ?_
  refine g_aloadN (pc := 1) K.1 d37_1 rfl ?_
  refine g_getI (pc := 2) K d37_2 (w60 hw) mf_n ?_
  obtain ⟨hc5, h⟩ := ifz h
  refine g_irem (pc := 5) K.1 d37_5 hc5 ?_
  refine g_istoreN (pc := 6) (L' := [some (.ref 0), some (.int v1), some (.int (v1 % (gI σ 137)))]) K.1 d37_6 (blt rfl) rfl ?_
  refine g_iloadN (pc := 7) K.1 d37_7 rfl ?_
  rcases ifs h with ⟨hc8, h⟩ | ⟨hc8, h⟩
  · refine g_ifF (pc := 8) K.1 d37_8 ((if0 _ _).trans (tlt hc8).2.1) ?_
    refine g_iloadN (pc := 11) K.1 d37_11 rfl ?_
    refine g_aloadN (pc := 12) K.1 d37_12 rfl ?_
    refine g_getI (pc := 13) K d37_13 (w60 hw) mf_n ?_
    refine g_iadd (pc := 16) K.1 d37_16 ?_
    refine g_istoreN (pc := 17) (L' := [some (.ref 0), some (.int v1), some (.int ((v1 % (gI σ 137)) + (gI σ 137)))]) K.1 d37_17 (blt rfl) rfl ?_
    exact g_less (ok_M_helpTarget_b18 K hw  h) (ls (ln (ls l0)))
  refine g_ifT (pc := 8) (pc' := 18) K.1 d37_8 (by decide) ((if0 _ _).trans (flt hc8).2.1) ?_
  exact g_less (ok_M_helpTarget_b18 K hw  h) (ls (ln (ls l0)))
theorem con_M_helpTarget (l : Launch) (Z : State) (a0 : Array Value) (hw : HW a0 Z) (n1 : Nat) (a : Addr) (ha : n1 ≤ a) {σ : St} {v1 : Int32} {r : Int32 × St} (h : M_helpTarget σ v1 = some r) : Con l Z cC cFS cFA 23 n1 a ⟨cC, "helpTarget", "(I)I"⟩ c37 3 (some .int) ⟨0, 0, 0, 0⟩ [.ref 0, .int v1] σ (some (.int r.1)) r.2 :=
  con_of_go pnC rfl (layW hw) lgood ha (fun X h1 K => ok_M_helpTarget K hw h)
abbrev KM_M_stepReadAnn (X : Cx (St × Nat)) (Z : State) (a0 : Array Value) (l : Launch) (n1 : Nat) (a : Addr) (h0 : Heap) : Prop := CtxC X Z a0 cC cFS cFA 23 27 l n1 a h0 ce0 ⟨1, 0, 0, 14⟩ "stepReadAnn" c36 6 (some .int)
def M_stepReadAnn_b66  (i1 : Int32) (σ : St) : Option (Int32 × St) :=
  (if 0 ≤ (i1).toInt ∧ (i1).toInt < 6 then (some ((5 : Int32), (sA σ 7 (i1).toInt (5 : Int32)))) else none)
theorem ok_M_stepReadAnn_b66 {X : Cx (St × Nat)} {Z : State} {a0 : Array Value} {l : Launch} {n1 : Nat} {a : Addr} {h0 : Heap} (K : KM_M_stepReadAnn X Z a0 l n1 a h0) (hw : HW a0 Z)  {i1 : Int32} {σ : St} {r : Int32 × St}  (h : M_stepReadAnn_b66  i1 σ = some r) : Go X (some (.int r.1), (r.2, 23)) 66 [some (.ref 0), some (.int i1), none, none, none, none] [] (σ, 23) := by
  unfold M_stepReadAnn_b66 at h
  refine g_aloadN (pc := 66) K.1 d36_66 rfl ?_
  refine g_getA (pc := 67) K d36_67 (w22 hw) mf_thPhase rfl ?_
  refine g_iloadN (pc := 70) K.1 d36_70 rfl ?_
  refine g_iconst (pc := 71) (v := 5) K.1 d36_71 (by decide) ?_
  obtain ⟨hc72, h⟩ := ifn h
  refine g_iastore (pc := 72) K d36_72 ma_thPhase rfl hc72 ?_
  refine g_iconst (pc := 73) (v := 5) K.1 d36_73 (by decide) ?_
  cases h; exact g_ireturn K.1 d36_74 (capC K)
def M_stepReadAnn (σ : St) (v1 : Int32) : Option (Int32 × St) :=
  (if 0 ≤ (v1).toInt ∧ (v1).toInt < 6 then ((M_helpTarget σ (gA σ 9 (v1).toInt)).bind fun q9 => (if 0 ≤ (v1).toInt ∧ (v1).toInt < 6 then (if 0 ≤ (q9.1).toInt ∧ (q9.1).toInt < 6 then ((M_threadLast (sA q9.2 12 (v1).toInt q9.1) v1 q9.1).bind fun q31 => (if q31.1 < (gA (sA q9.2 12 (v1).toInt q9.1) 14 (q9.1).toInt) then (if 0 ≤ (v1).toInt ∧ (v1).toInt < 6 then M_stepReadAnn_b66 v1 (sA q31.2 10 (v1).toInt (gA (sA q9.2 12 (v1).toInt q9.1) 14 (q9.1).toInt)) else none) else (if 0 ≤ (v1).toInt ∧ (v1).toInt < 6 then (if 0 ≤ (v1).toInt ∧ (v1).toInt < 6 then M_stepReadAnn_b66 v1 (sA q31.2 10 (v1).toInt (gA q31.2 8 (v1).toInt)) else none) else none))) else none) else none)) else none)
theorem ok_M_stepReadAnn {X : Cx (St × Nat)} {Z : State} {a0 : Array Value} {l : Launch} {n1 : Nat} {a : Addr} {h0 : Heap} (K : KM_M_stepReadAnn X Z a0 l n1 a h0) (hw : HW a0 Z) {σ : St} {v1 : Int32} {r : Int32 × St} (h : M_stepReadAnn σ v1 = some r) : Go X (some (.int r.1), (r.2, 23)) 0 [some (.ref 0), some (.int v1), none, none, none, none] [] (σ, 23) := by
  unfold M_stepReadAnn at h
  refine g_aloadN (pc := 0) K.1 d36_0 rfl ?_
  refine g_getA (pc := 1) K d36_1 (w26 hw) mf_thP rfl ?_
  refine g_iloadN (pc := 4) K.1 d36_4 rfl ?_
  obtain ⟨hc5, h⟩ := ifn h
  refine g_iaload (pc := 5) K d36_5 ma_thP rfl hc5 ?_
  refine g_istoreN (pc := 6) (L' := [some (.ref 0), some (.int v1), some (.int (gA σ 9 (v1).toInt)), none, none, none]) K.1 d36_6 (blt rfl) rfl ?_
  refine g_aloadN (pc := 7) K.1 d36_7 rfl ?_
  refine g_iloadN (pc := 8) K.1 d36_8 rfl ?_
  obtain ⟨q9, hq9, h⟩ := Option.bind_eq_some_iff.mp h
  refine g_callP (pc := 9) (vs := [.int (gA σ 9 (v1).toInt)]) K d36_9 (w198 hw) (w199 hw) (w200 hw) (w201 hw) hyC pd_6 rfl rfl (con_M_helpTarget l Z a0 hw n1 a (ctx_le K) hq9) rfl (Nat.le_of_ble_eq_true rfl) (Nat.le_of_ble_eq_true rfl) rfl rfl ?_
  refine g_istoreN (pc := 12) (L' := [some (.ref 0), some (.int v1), some (.int (gA σ 9 (v1).toInt)), some (.int q9.1), none, none]) K.1 d36_12 (blt rfl) rfl ?_
  refine g_aloadN (pc := 13) K.1 d36_13 rfl ?_
  refine g_getA (pc := 14) K d36_14 (w32 hw) mf_thHelped rfl ?_
  refine g_iloadN (pc := 17) K.1 d36_17 rfl ?_
  refine g_iloadN (pc := 18) K.1 d36_18 rfl ?_
  obtain ⟨hc19, h⟩ := ifn h
  refine g_iastore (pc := 19) K d36_19 ma_thHelped rfl hc19 ?_
  refine g_aloadN (pc := 20) K.1 d36_20 rfl ?_
  refine g_getA (pc := 21) K d36_21 (w36 hw) mf_annId rfl ?_
  refine g_iloadN (pc := 24) K.1 d36_24 rfl ?_
  obtain ⟨hc25, h⟩ := ifn h
  refine g_iaload (pc := 25) K d36_25 ma_annId rfl hc25 ?_
  refine g_istore (pc := 26) (L' := [some (.ref 0), some (.int v1), some (.int (gA σ 9 (v1).toInt)), some (.int q9.1), some (.int (gA (sA q9.2 12 (v1).toInt q9.1) 14 (q9.1).toInt)), none]) K.1 d36_26 (blt rfl) rfl ?_
  refine g_aloadN (pc := 28) K.1 d36_28 rfl ?_
  refine g_iloadN (pc := 29) K.1 d36_29 rfl ?_
  refine g_iloadN (pc := 30) K.1 d36_30 rfl ?_
  obtain ⟨q31, hq31, h⟩ := Option.bind_eq_some_iff.mp h
  refine g_callP (pc := 31) (vs := [.int v1, .int q9.1]) K d36_31 (w190 hw) (w191 hw) (w192 hw) (w193 hw) hyC pd_7 rfl rfl (con_M_threadLast l Z a0 hw n1 a (ctx_le K) hq31) rfl (Nat.le_of_ble_eq_true rfl) (Nat.le_of_ble_eq_true rfl) rfl rfl ?_
  refine g_istore (pc := 34) (L' := [some (.ref 0), some (.int v1), some (.int (gA σ 9 (v1).toInt)), some (.int q9.1), some (.int (gA (sA q9.2 12 (v1).toInt q9.1) 14 (q9.1).toInt)), some (.int q31.1)]) K.1 d36_34 (blt rfl) rfl ?_
  refine g_iload (pc := 36) K.1 d36_36 rfl ?_
  refine g_iload (pc := 38) K.1 d36_38 rfl ?_
  rcases ifs h with ⟨hc40, h⟩ | ⟨hc40, h⟩
  · refine g_icF (pc := 40) K.1 d36_40 ((tlt hc40).2.2.2) ?_
    refine g_aloadN (pc := 43) K.1 d36_43 rfl ?_
    refine g_getA (pc := 44) K d36_44 (w28 hw) mf_thC rfl ?_
    refine g_iloadN (pc := 47) K.1 d36_47 rfl ?_
    refine g_iload (pc := 48) K.1 d36_48 rfl ?_
    obtain ⟨hc50, h⟩ := ifn h
    refine g_iastore (pc := 50) K d36_50 ma_thC rfl hc50 ?_
    refine g_goto (pc := 51) (pc' := 66) K.1 d36_51 (by decide) ?_
    exact g_less (ok_M_stepReadAnn_b66 K hw  h) (ls (ls (ln (ln (ln (ln l0))))))
  refine g_icT (pc := 40) (pc' := 54) K.1 d36_40 (by decide) ((flt hc40).2.2.2) ?_
  refine g_aloadN (pc := 54) K.1 d36_54 rfl ?_
  refine g_getA (pc := 55) K d36_55 (w28 hw) mf_thC rfl ?_
  refine g_iloadN (pc := 58) K.1 d36_58 rfl ?_
  refine g_aloadN (pc := 59) K.1 d36_59 rfl ?_
  refine g_getA (pc := 60) K d36_60 (w24 hw) mf_thOwn rfl ?_
  refine g_iloadN (pc := 63) K.1 d36_63 rfl ?_
  obtain ⟨hc64, h⟩ := ifn h
  refine g_iaload (pc := 64) K d36_64 ma_thOwn rfl hc64 ?_
  obtain ⟨hc65, h⟩ := ifn h
  refine g_iastore (pc := 65) K d36_65 ma_thC rfl hc65 ?_
  exact g_less (ok_M_stepReadAnn_b66 K hw  h) (ls (ls (ln (ln (ln (ln l0))))))
theorem con_M_stepReadAnn (l : Launch) (Z : State) (a0 : Array Value) (hw : HW a0 Z) (n1 : Nat) (a : Addr) (ha : n1 ≤ a) {σ : St} {v1 : Int32} {r : Int32 × St} (h : M_stepReadAnn σ v1 = some r) : Con l Z cC cFS cFA 23 n1 a ⟨cC, "stepReadAnn", "(I)I"⟩ c36 6 (some .int) ⟨1, 0, 0, 14⟩ [.ref 0, .int v1] σ (some (.int r.1)) r.2 :=
  con_of_go pnC rfl (layW hw) lgood ha (fun X h1 K => ok_M_stepReadAnn K hw h)
abbrev KM_M_canAppend (X : Cx (St × Nat)) (Z : State) (a0 : Array Value) (l : Launch) (n1 : Nat) (a : Addr) (h0 : Heap) : Prop := CtxC X Z a0 cC cFS cFA 23 27 l n1 a h0 ce0 ⟨1, 0, 0, 13⟩ "canAppend" c39 2 (some .boolean)
def M_canAppend (σ : St) (v1 : Int32) : Option (Int32 × St) :=
  ((M_isId σ v1).bind fun q2 => (if q2.1 = 0 then (some ((0 : Int32), q2.2)) else (if 0 ≤ (v1).toInt ∧ (v1).toInt < 241 then (if (gA q2.2 4 (v1).toInt) = (1 : Int32) then (if (gI q2.2 153) < (240 : Int32) then (some ((1 : Int32), q2.2)) else (some ((0 : Int32), q2.2))) else (some ((0 : Int32), q2.2))) else none)))
theorem ok_M_canAppend {X : Cx (St × Nat)} {Z : State} {a0 : Array Value} {l : Launch} {n1 : Nat} {a : Addr} {h0 : Heap} (K : KM_M_canAppend X Z a0 l n1 a h0) (hw : HW a0 Z) {σ : St} {v1 : Int32} {r : Int32 × St} (h : M_canAppend σ v1 = some r) : Go X (some (.int r.1), (r.2, 23)) 0 [some (.ref 0), some (.int v1)] [] (σ, 23) := by
  unfold M_canAppend at h
  refine g_aloadN (pc := 0) K.1 d39_0 rfl ?_
  refine g_iloadN (pc := 1) K.1 d39_1 rfl ?_
  obtain ⟨q2, hq2, h⟩ := Option.bind_eq_some_iff.mp h
  refine g_callP (pc := 2) (vs := [.int v1]) K d39_2 (w150 hw) (w151 hw) (w152 hw) (w153 hw) hyC pd_5 rfl rfl (con_M_isId l Z a0 hw n1 a (ctx_le K) hq2) rfl (Nat.le_of_ble_eq_true rfl) (Nat.le_of_ble_eq_true rfl) rfl rfl ?_
  rcases ifs h with ⟨hc5, h⟩ | ⟨hc5, h⟩
  · refine g_ifF (pc := 5) K.1 d39_5 ((if0 _ _).trans (teq hc5).2) ?_
    refine g_iconst (pc := 8) (v := 0) K.1 d39_8 (by decide) ?_
    cases h; exact g_ireturnN (t := .boolean) K.1 rfl (Or.inl rfl) d39_9 rfl (capC K)
  refine g_ifT (pc := 5) (pc' := 10) K.1 d39_5 (by decide) ((if0 _ _).trans (feq hc5).2) ?_
  refine g_aloadN (pc := 10) K.1 d39_10 rfl ?_
  refine g_getA (pc := 11) K d39_11 (w16 hw) mf_opStatus rfl ?_
  refine g_iloadN (pc := 14) K.1 d39_14 rfl ?_
  obtain ⟨hc15, h⟩ := ifn h
  refine g_iaload (pc := 15) K d39_15 ma_opStatus rfl hc15 ?_
  refine g_iconst (pc := 16) (v := 1) K.1 d39_16 (by decide) ?_
  rcases ifs h with ⟨hc17, h⟩ | ⟨hc17, h⟩
  · refine g_icF (pc := 17) K.1 d39_17 ((teq hc17).2) ?_
    refine g_aloadN (pc := 20) K.1 d39_20 rfl ?_
    refine g_getI (pc := 21) K d39_21 (w66 hw) mf_tailValue ?_
    refine g_sipush (pc := 24) (v := 240) K.1 d39_24 (by decide) ?_
    rcases ifs h with ⟨hc27, h⟩ | ⟨hc27, h⟩
    · refine g_icF (pc := 27) K.1 d39_27 ((tlt hc27).2.1) ?_
      refine g_iconst (pc := 30) (v := 1) K.1 d39_30 (by decide) ?_
      refine g_goto (pc := 31) (pc' := 35) K.1 d39_31 (by decide) ?_
      cases h; exact g_ireturnN (t := .boolean) K.1 rfl (Or.inl rfl) d39_35 rfl (capC K)
    refine g_icT (pc := 27) (pc' := 34) K.1 d39_27 (by decide) ((flt hc27).2.1) ?_
    refine g_iconst (pc := 34) (v := 0) K.1 d39_34 (by decide) ?_
    cases h; exact g_ireturnN (t := .boolean) K.1 rfl (Or.inl rfl) d39_35 rfl (capC K)
  refine g_icT (pc := 17) (pc' := 34) K.1 d39_17 (by decide) ((feq hc17).2) ?_
  refine g_iconst (pc := 34) (v := 0) K.1 d39_34 (by decide) ?_
  cases h; exact g_ireturnN (t := .boolean) K.1 rfl (Or.inl rfl) d39_35 rfl (capC K)
theorem con_M_canAppend (l : Launch) (Z : State) (a0 : Array Value) (hw : HW a0 Z) (n1 : Nat) (a : Addr) (ha : n1 ≤ a) {σ : St} {v1 : Int32} {r : Int32 × St} (h : M_canAppend σ v1 = some r) : Con l Z cC cFS cFA 23 n1 a ⟨cC, "canAppend", "(I)Z"⟩ c39 2 (some .boolean) ⟨1, 0, 0, 13⟩ [.ref 0, .int v1] σ (some (.int r.1)) r.2 :=
  con_of_go pnC rfl (layW hw) lgood ha (fun X h1 K => ok_M_canAppend K hw h)
abbrev KM_M_readQueueSlot (X : Cx (St × Nat)) (Z : State) (a0 : Array Value) (l : Launch) (n1 : Nat) (a : Addr) (h0 : Heap) : Prop := CtxC X Z a0 cC cFS cFA 23 27 l n1 a h0 ce0 ⟨0, 0, 0, 0⟩ "readQueueSlot" c43 3 (some .int)
def M_readQueueSlot (σ : St) (v1 : Int32) (v2 : Int32) : Option (Int32 × St) :=
  (if v1 < 0 then (some ((0 : Int32), σ)) else (if v1 < (8 : Int32) then (if v2 < 0 then (some ((0 : Int32), σ)) else (if v2 < (4 : Int32) then (if 0 ≤ (((v1 * (4 : Int32)) + v2)).toInt ∧ (((v1 * (4 : Int32)) + v2)).toInt < 32 then (some ((gA σ 22 (((v1 * (4 : Int32)) + v2)).toInt), σ)) else none) else (some ((0 : Int32), σ)))) else (some ((0 : Int32), σ))))
theorem ok_M_readQueueSlot {X : Cx (St × Nat)} {Z : State} {a0 : Array Value} {l : Launch} {n1 : Nat} {a : Addr} {h0 : Heap} (K : KM_M_readQueueSlot X Z a0 l n1 a h0) (hw : HW a0 Z) {σ : St} {v1 : Int32} {v2 : Int32} {r : Int32 × St} (h : M_readQueueSlot σ v1 v2 = some r) : Go X (some (.int r.1), (r.2, 23)) 0 [some (.ref 0), some (.int v1), some (.int v2)] [] (σ, 23) := by
  unfold M_readQueueSlot at h
  refine g_iloadN (pc := 0) K.1 d43_0 rfl ?_
  rcases ifs h with ⟨hc1, h⟩ | ⟨hc1, h⟩
  · refine g_ifT (pc := 1) (pc' := 19) K.1 d43_1 (by decide) ((if0 _ _).trans (tlt hc1).1) ?_
    refine g_iconst (pc := 19) (v := 0) K.1 d43_19 (by decide) ?_
    cases h; exact g_ireturn K.1 d43_20 (capC K)
  refine g_ifF (pc := 1) K.1 d43_1 ((if0 _ _).trans (flt hc1).1) ?_
  refine g_iloadN (pc := 4) K.1 d43_4 rfl ?_
  refine g_bipush (pc := 5) (v := 8) K.1 d43_5 (by decide) ?_
  rcases ifs h with ⟨hc7, h⟩ | ⟨hc7, h⟩
  · refine g_icF (pc := 7) K.1 d43_7 ((tlt hc7).2.1) ?_
    refine g_iloadN (pc := 10) K.1 d43_10 rfl ?_
    rcases ifs h with ⟨hc11, h⟩ | ⟨hc11, h⟩
    · refine g_ifT (pc := 11) (pc' := 19) K.1 d43_11 (by decide) ((if0 _ _).trans (tlt hc11).1) ?_
      refine g_iconst (pc := 19) (v := 0) K.1 d43_19 (by decide) ?_
      cases h; exact g_ireturn K.1 d43_20 (capC K)
    refine g_ifF (pc := 11) K.1 d43_11 ((if0 _ _).trans (flt hc11).1) ?_
    refine g_iloadN (pc := 14) K.1 d43_14 rfl ?_
    refine g_iconst (pc := 15) (v := 4) K.1 d43_15 (by decide) ?_
    rcases ifs h with ⟨hc16, h⟩ | ⟨hc16, h⟩
    · refine g_icT (pc := 16) (pc' := 21) K.1 d43_16 (by decide) ((tlt hc16).1) ?_
      refine g_aloadN (pc := 21) K.1 d43_21 rfl ?_
      refine g_getA (pc := 22) K d43_22 (w52 hw) mf_cellQ rfl ?_
      refine g_iloadN (pc := 25) K.1 d43_25 rfl ?_
      refine g_iconst (pc := 26) (v := 4) K.1 d43_26 (by decide) ?_
      refine g_imul (pc := 27) K.1 d43_27 ?_
      refine g_iloadN (pc := 28) K.1 d43_28 rfl ?_
      refine g_iadd (pc := 29) K.1 d43_29 ?_
      obtain ⟨hc30, h⟩ := ifn h
      refine g_iaload (pc := 30) K d43_30 ma_cellQ rfl hc30 ?_
      cases h; exact g_ireturn K.1 d43_31 (capC K)
    refine g_icF (pc := 16) K.1 d43_16 ((flt hc16).1) ?_
    refine g_iconst (pc := 19) (v := 0) K.1 d43_19 (by decide) ?_
    cases h; exact g_ireturn K.1 d43_20 (capC K)
  refine g_icT (pc := 7) (pc' := 19) K.1 d43_7 (by decide) ((flt hc7).2.1) ?_
  refine g_iconst (pc := 19) (v := 0) K.1 d43_19 (by decide) ?_
  cases h; exact g_ireturn K.1 d43_20 (capC K)
theorem con_M_readQueueSlot (l : Launch) (Z : State) (a0 : Array Value) (hw : HW a0 Z) (n1 : Nat) (a : Addr) (ha : n1 ≤ a) {σ : St} {v1 : Int32} {v2 : Int32} {r : Int32 × St} (h : M_readQueueSlot σ v1 v2 = some r) : Con l Z cC cFS cFA 23 n1 a ⟨cC, "readQueueSlot", "(II)I"⟩ c43 3 (some .int) ⟨0, 0, 0, 0⟩ [.ref 0, .int v1, .int v2] σ (some (.int r.1)) r.2 :=
  con_of_go pnC rfl (layW hw) lgood ha (fun X h1 K => ok_M_readQueueSlot K hw h)
abbrev KM_M_copyCellQueue (X : Cx (St × Nat)) (Z : State) (a0 : Array Value) (l : Launch) (n1 : Nat) (a : Addr) (h0 : Heap) : Prop := CtxC X Z a0 cC cFS cFA 23 27 l n1 a h0 ce0 ⟨1, 0, 0, 15⟩ "copyCellQueue" c42 5 none
def M_copyCellQueue_w2 (NF : Nat) (k2 : Int32 → Int32 → Int32 → St → Option (St)) (i1 : Int32) (i2 : Int32) (i3 : Int32) (σ : St) : Option (St) :=
  (if i3 < (4 : Int32) then ((M_readQueueSlot σ i1 i3).bind fun q10 => ((M_writeQueueSlot q10.2 i2 i3 q10.1).bind fun q20 => k2 i1 i2 (i3 + (1 : Int32)) q20)) else (some σ))
theorem ok_M_copyCellQueue_w2 {X : Cx (St × Nat)} {Z : State} {a0 : Array Value} {l : Launch} {n1 : Nat} {a : Addr} {h0 : Heap} {NF : Nat} (K : KM_M_copyCellQueue X Z a0 l n1 a h0) (hw : HW a0 Z) {k2 : Int32 → Int32 → Int32 → St → Option (St)} {i1 : Int32} {i2 : Int32} {i3 : Int32} {σ : St} {r : St} (hk2 : ∀ (i1 : Int32) (i2 : Int32) (i3 : Int32) (σ : St) (h : k2 i1 i2 i3 σ = some r), Go X (none, (r, 23)) 2 [some (.ref 0), some (.int i1), some (.int i2), some (.int i3), none] [] (σ, 23)) (h : M_copyCellQueue_w2 NF k2 i1 i2 i3 σ = some r) : Go X (none, (r, 23)) 2 [some (.ref 0), some (.int i1), some (.int i2), some (.int i3), none] [] (σ, 23) := by
  unfold M_copyCellQueue_w2 at h
  refine g_iloadN (pc := 2) K.1 d42_2 rfl ?_
  refine g_iconst (pc := 3) (v := 4) K.1 d42_3 (by decide) ?_
  rcases ifs h with ⟨hc4, h⟩ | ⟨hc4, h⟩
  · refine g_icF (pc := 4) K.1 d42_4 ((tlt hc4).2.1) ?_
    refine g_aloadN (pc := 7) K.1 d42_7 rfl ?_
    refine g_iloadN (pc := 8) K.1 d42_8 rfl ?_
    refine g_iloadN (pc := 9) K.1 d42_9 rfl ?_
    obtain ⟨q10, hq10, h⟩ := Option.bind_eq_some_iff.mp h
    refine g_callP (pc := 10) (vs := [.int i1, .int i3]) K d42_10 (w227 hw) (w228 hw) (w229 hw) (w230 hw) hyC pd_7 rfl rfl (con_M_readQueueSlot l Z a0 hw n1 a (ctx_le K) hq10) rfl (Nat.le_of_ble_eq_true rfl) (Nat.le_of_ble_eq_true rfl) rfl rfl ?_
    refine g_istore (pc := 13) (L' := [some (.ref 0), some (.int i1), some (.int i2), some (.int i3), some (.int q10.1)]) K.1 d42_13 (blt rfl) rfl ?_
    refine g_aloadN (pc := 15) K.1 d42_15 rfl ?_
    refine g_iloadN (pc := 16) K.1 d42_16 rfl ?_
    refine g_iloadN (pc := 17) K.1 d42_17 rfl ?_
    refine g_iload (pc := 18) K.1 d42_18 rfl ?_
    obtain ⟨q20, hq20, h⟩ := Option.bind_eq_some_iff.mp h
    refine g_callP (pc := 20) (vs := [.int i2, .int i3, .int q10.1]) K d42_20 (w96 hw) (w97 hw) (w98 hw) (w99 hw) hyC pd_0 rfl rfl (con_M_writeQueueSlot l Z a0 hw n1 a (ctx_le K) hq20) rfl (Nat.le_of_ble_eq_true rfl) (Nat.le_of_ble_eq_true rfl) rfl rfl ?_
    refine g_iinc (pc := 23) (w := 1) (L' := [some (.ref 0), some (.int i1), some (.int i2), some (.int (i3 + (1 : Int32))), some (.int q10.1)]) K.1 d42_23 rfl (by decide) rfl ?_
    refine g_goto (pc := 26) (pc' := 2) K.1 d42_26 (by decide) ?_
    exact g_less (hk2 _ _ _ _ h) (ls (ls (ls (ls (ln l0)))))
  refine g_icT (pc := 4) (pc' := 29) K.1 d42_4 (by decide) ((flt hc4).2.1) ?_
  cases h; exact g_return K.1 d42_29 (capC K)
def M_copyCellQueue_l2 (NF : Nat)  : Nat → Int32 → Int32 → Int32 → St → Option (St)
  | 0 => fun _ _ _ _ => none
  | n + 1 => fun i1 i2 i3 σ => M_copyCellQueue_w2 NF  (M_copyCellQueue_l2 NF  n) i1 i2 i3 σ
theorem ok_M_copyCellQueue_l2 {X : Cx (St × Nat)} {Z : State} {a0 : Array Value} {l : Launch} {n1 : Nat} {a : Addr} {h0 : Heap} {NF : Nat} (K : KM_M_copyCellQueue X Z a0 l n1 a h0) (hw : HW a0 Z) (n : Nat)  {r : St}  : ∀ (i1 : Int32) (i2 : Int32) (i3 : Int32) (σ : St) (h : M_copyCellQueue_l2 NF  n i1 i2 i3 σ = some r), Go X (none, (r, 23)) 2 [some (.ref 0), some (.int i1), some (.int i2), some (.int i3), none] [] (σ, 23) := by
  induction n with
  | zero => intro i1 i2 i3 σ h; cases h
  | succ n ih => intro i1 i2 i3 σ h; exact ok_M_copyCellQueue_w2 (NF := NF) K hw  ih h
def M_copyCellQueue (NF : Nat) (σ : St) (v1 : Int32) (v2 : Int32) : Option (St) :=
  M_copyCellQueue_l2 NF NF v1 v2 (0 : Int32) σ
theorem ok_M_copyCellQueue {X : Cx (St × Nat)} {Z : State} {a0 : Array Value} {l : Launch} {n1 : Nat} {a : Addr} {h0 : Heap} {NF : Nat} (K : KM_M_copyCellQueue X Z a0 l n1 a h0) (hw : HW a0 Z) {σ : St} {v1 : Int32} {v2 : Int32} {r : St} (h : M_copyCellQueue NF σ v1 v2 = some r) : Go X (none, (r, 23)) 0 [some (.ref 0), some (.int v1), some (.int v2), none, none] [] (σ, 23) := by
  unfold M_copyCellQueue at h
  refine g_iconst (pc := 0) (v := 0) K.1 d42_0 (by decide) ?_
  refine g_istoreN (pc := 1) (L' := [some (.ref 0), some (.int v1), some (.int v2), some (.int (0 : Int32)), none]) K.1 d42_1 (blt rfl) rfl ?_
  exact ok_M_copyCellQueue_l2 K hw NF  _ _ _ _ h
theorem con_M_copyCellQueue (l : Launch) (Z : State) (a0 : Array Value) (hw : HW a0 Z) (n1 : Nat) (a : Addr) (ha : n1 ≤ a) {NF : Nat} {σ : St} {v1 : Int32} {v2 : Int32} {r : St} (h : M_copyCellQueue NF σ v1 v2 = some r) : Con l Z cC cFS cFA 23 n1 a ⟨cC, "copyCellQueue", "(II)V"⟩ c42 5 none ⟨1, 0, 0, 15⟩ [.ref 0, .int v1, .int v2] σ none r :=
  con_of_go pnC rfl (layW hw) lgood ha (fun X h1 K => ok_M_copyCellQueue K hw h)
abbrev KM_M_copyCellLast (X : Cx (St × Nat)) (Z : State) (a0 : Array Value) (l : Launch) (n1 : Nat) (a : Addr) (h0 : Heap) : Prop := CtxC X Z a0 cC cFS cFA 23 27 l n1 a h0 ce0 ⟨1, 0, 0, 15⟩ "copyCellLast" c44 5 none
def M_copyCellLast_w2 (NF : Nat) (k2 : Int32 → Int32 → Int32 → St → Option (St)) (i1 : Int32) (i2 : Int32) (i3 : Int32) (σ : St) : Option (St) :=
  (if i3 < (6 : Int32) then ((M_cellLastOf σ i1 i3).bind fun q11 => ((M_setCellLast q11.2 i2 i3 q11.1).bind fun q21 => k2 i1 i2 (i3 + (1 : Int32)) q21)) else (some σ))
theorem ok_M_copyCellLast_w2 {X : Cx (St × Nat)} {Z : State} {a0 : Array Value} {l : Launch} {n1 : Nat} {a : Addr} {h0 : Heap} {NF : Nat} (K : KM_M_copyCellLast X Z a0 l n1 a h0) (hw : HW a0 Z) {k2 : Int32 → Int32 → Int32 → St → Option (St)} {i1 : Int32} {i2 : Int32} {i3 : Int32} {σ : St} {r : St} (hk2 : ∀ (i1 : Int32) (i2 : Int32) (i3 : Int32) (σ : St) (h : k2 i1 i2 i3 σ = some r), Go X (none, (r, 23)) 2 [some (.ref 0), some (.int i1), some (.int i2), some (.int i3), none] [] (σ, 23)) (h : M_copyCellLast_w2 NF k2 i1 i2 i3 σ = some r) : Go X (none, (r, 23)) 2 [some (.ref 0), some (.int i1), some (.int i2), some (.int i3), none] [] (σ, 23) := by
  unfold M_copyCellLast_w2 at h
  refine g_iloadN (pc := 2) K.1 d44_2 rfl ?_
  refine g_bipush (pc := 3) (v := 6) K.1 d44_3 (by decide) ?_
  rcases ifs h with ⟨hc5, h⟩ | ⟨hc5, h⟩
  · refine g_icF (pc := 5) K.1 d44_5 ((tlt hc5).2.1) ?_
    refine g_aloadN (pc := 8) K.1 d44_8 rfl ?_
    refine g_iloadN (pc := 9) K.1 d44_9 rfl ?_
    refine g_iloadN (pc := 10) K.1 d44_10 rfl ?_
    obtain ⟨q11, hq11, h⟩ := Option.bind_eq_some_iff.mp h
    refine g_callP (pc := 11) (vs := [.int i1, .int i3]) K d44_11 (w182 hw) (w183 hw) (w184 hw) (w185 hw) hyC pd_7 rfl rfl (con_M_cellLastOf l Z a0 hw n1 a (ctx_le K) hq11) rfl (Nat.le_of_ble_eq_true rfl) (Nat.le_of_ble_eq_true rfl) rfl rfl ?_
    refine g_istore (pc := 14) (L' := [some (.ref 0), some (.int i1), some (.int i2), some (.int i3), some (.int q11.1)]) K.1 d44_14 (blt rfl) rfl ?_
    refine g_aloadN (pc := 16) K.1 d44_16 rfl ?_
    refine g_iloadN (pc := 17) K.1 d44_17 rfl ?_
    refine g_iloadN (pc := 18) K.1 d44_18 rfl ?_
    refine g_iload (pc := 19) K.1 d44_19 rfl ?_
    obtain ⟨q21, hq21, h⟩ := Option.bind_eq_some_iff.mp h
    refine g_callP (pc := 21) (vs := [.int i2, .int i3, .int q11.1]) K d44_21 (w104 hw) (w105 hw) (w106 hw) (w107 hw) hyC pd_0 rfl rfl (con_M_setCellLast l Z a0 hw n1 a (ctx_le K) hq21) rfl (Nat.le_of_ble_eq_true rfl) (Nat.le_of_ble_eq_true rfl) rfl rfl ?_
    refine g_iinc (pc := 24) (w := 1) (L' := [some (.ref 0), some (.int i1), some (.int i2), some (.int (i3 + (1 : Int32))), some (.int q11.1)]) K.1 d44_24 rfl (by decide) rfl ?_
    refine g_goto (pc := 27) (pc' := 2) K.1 d44_27 (by decide) ?_
    exact g_less (hk2 _ _ _ _ h) (ls (ls (ls (ls (ln l0)))))
  refine g_icT (pc := 5) (pc' := 30) K.1 d44_5 (by decide) ((flt hc5).2.1) ?_
  cases h; exact g_return K.1 d44_30 (capC K)
def M_copyCellLast_l2 (NF : Nat)  : Nat → Int32 → Int32 → Int32 → St → Option (St)
  | 0 => fun _ _ _ _ => none
  | n + 1 => fun i1 i2 i3 σ => M_copyCellLast_w2 NF  (M_copyCellLast_l2 NF  n) i1 i2 i3 σ
theorem ok_M_copyCellLast_l2 {X : Cx (St × Nat)} {Z : State} {a0 : Array Value} {l : Launch} {n1 : Nat} {a : Addr} {h0 : Heap} {NF : Nat} (K : KM_M_copyCellLast X Z a0 l n1 a h0) (hw : HW a0 Z) (n : Nat)  {r : St}  : ∀ (i1 : Int32) (i2 : Int32) (i3 : Int32) (σ : St) (h : M_copyCellLast_l2 NF  n i1 i2 i3 σ = some r), Go X (none, (r, 23)) 2 [some (.ref 0), some (.int i1), some (.int i2), some (.int i3), none] [] (σ, 23) := by
  induction n with
  | zero => intro i1 i2 i3 σ h; cases h
  | succ n ih => intro i1 i2 i3 σ h; exact ok_M_copyCellLast_w2 (NF := NF) K hw  ih h
def M_copyCellLast (NF : Nat) (σ : St) (v1 : Int32) (v2 : Int32) : Option (St) :=
  M_copyCellLast_l2 NF NF v1 v2 (0 : Int32) σ
theorem ok_M_copyCellLast {X : Cx (St × Nat)} {Z : State} {a0 : Array Value} {l : Launch} {n1 : Nat} {a : Addr} {h0 : Heap} {NF : Nat} (K : KM_M_copyCellLast X Z a0 l n1 a h0) (hw : HW a0 Z) {σ : St} {v1 : Int32} {v2 : Int32} {r : St} (h : M_copyCellLast NF σ v1 v2 = some r) : Go X (none, (r, 23)) 0 [some (.ref 0), some (.int v1), some (.int v2), none, none] [] (σ, 23) := by
  unfold M_copyCellLast at h
  refine g_iconst (pc := 0) (v := 0) K.1 d44_0 (by decide) ?_
  refine g_istoreN (pc := 1) (L' := [some (.ref 0), some (.int v1), some (.int v2), some (.int (0 : Int32)), none]) K.1 d44_1 (blt rfl) rfl ?_
  exact ok_M_copyCellLast_l2 K hw NF  _ _ _ _ h
theorem con_M_copyCellLast (l : Launch) (Z : State) (a0 : Array Value) (hw : HW a0 Z) (n1 : Nat) (a : Addr) (ha : n1 ≤ a) {NF : Nat} {σ : St} {v1 : Int32} {v2 : Int32} {r : St} (h : M_copyCellLast NF σ v1 v2 = some r) : Con l Z cC cFS cFA 23 n1 a ⟨cC, "copyCellLast", "(II)V"⟩ c44 5 none ⟨1, 0, 0, 15⟩ [.ref 0, .int v1, .int v2] σ none r :=
  con_of_go pnC rfl (layW hw) lgood ha (fun X h1 K => ok_M_copyCellLast K hw h)
abbrev KM_M_copyCell (X : Cx (St × Nat)) (Z : State) (a0 : Array Value) (l : Launch) (n1 : Nat) (a : Addr) (h0 : Heap) : Prop := CtxC X Z a0 cC cFS cFA 23 27 l n1 a h0 ce0 ⟨2, 0, 0, 31⟩ "copyCell" c41 3 none
def M_copyCell (NF : Nat) (σ : St) (v1 : Int32) (v2 : Int32) : Option (St) :=
  (if 0 ≤ (v1).toInt ∧ (v1).toInt < 8 then (if 0 ≤ (v2).toInt ∧ (v2).toInt < 8 then (if 0 ≤ (v1).toInt ∧ (v1).toInt < 8 then (if 0 ≤ (v2).toInt ∧ (v2).toInt < 8 then ((M_copyCellQueue NF (sA (sA σ 20 (v2).toInt (gA σ 20 (v1).toInt)) 21 (v2).toInt (gA (sA σ 20 (v2).toInt (gA σ 20 (v1).toInt)) 21 (v1).toInt)) v1 v2).bind fun q27 => ((M_copyCellLast NF q27 v1 v2).bind fun q33 => (some q33))) else none) else none) else none) else none)
theorem ok_M_copyCell {X : Cx (St × Nat)} {Z : State} {a0 : Array Value} {l : Launch} {n1 : Nat} {a : Addr} {h0 : Heap} {NF : Nat} (K : KM_M_copyCell X Z a0 l n1 a h0) (hw : HW a0 Z) {σ : St} {v1 : Int32} {v2 : Int32} {r : St} (h : M_copyCell NF σ v1 v2 = some r) : Go X (none, (r, 23)) 0 [some (.ref 0), some (.int v1), some (.int v2)] [] (σ, 23) := by
  unfold M_copyCell at h
  refine g_aloadN (pc := 0) K.1 d41_0 rfl ?_
  refine g_getA (pc := 1) K d41_1 (w48 hw) mf_cellCounter rfl ?_
  refine g_iloadN (pc := 4) K.1 d41_4 rfl ?_
  refine g_aloadN (pc := 5) K.1 d41_5 rfl ?_
  refine g_getA (pc := 6) K d41_6 (w48 hw) mf_cellCounter rfl ?_
  refine g_iloadN (pc := 9) K.1 d41_9 rfl ?_
  obtain ⟨hc10, h⟩ := ifn h
  refine g_iaload (pc := 10) K d41_10 ma_cellCounter rfl hc10 ?_
  obtain ⟨hc11, h⟩ := ifn h
  refine g_iastore (pc := 11) K d41_11 ma_cellCounter rfl hc11 ?_
  refine g_aloadN (pc := 12) K.1 d41_12 rfl ?_
  refine g_getA (pc := 13) K d41_13 (w50 hw) mf_cellQLen rfl ?_
  refine g_iloadN (pc := 16) K.1 d41_16 rfl ?_
  refine g_aloadN (pc := 17) K.1 d41_17 rfl ?_
  refine g_getA (pc := 18) K d41_18 (w50 hw) mf_cellQLen rfl ?_
  refine g_iloadN (pc := 21) K.1 d41_21 rfl ?_
  obtain ⟨hc22, h⟩ := ifn h
  refine g_iaload (pc := 22) K d41_22 ma_cellQLen rfl hc22 ?_
  obtain ⟨hc23, h⟩ := ifn h
  refine g_iastore (pc := 23) K d41_23 ma_cellQLen rfl hc23 ?_
  refine g_aloadN (pc := 24) K.1 d41_24 rfl ?_
  refine g_iloadN (pc := 25) K.1 d41_25 rfl ?_
  refine g_iloadN (pc := 26) K.1 d41_26 rfl ?_
  obtain ⟨q27, hq27, h⟩ := Option.bind_eq_some_iff.mp h
  refine g_callP (pc := 27) (vs := [.int v1, .int v2]) K d41_27 (w223 hw) (w224 hw) (w225 hw) (w226 hw) hyC pd_8 rfl rfl (con_M_copyCellQueue l Z a0 hw n1 a (ctx_le K) hq27) rfl (Nat.le_of_ble_eq_true rfl) (Nat.le_of_ble_eq_true rfl) rfl rfl ?_
  refine g_aloadN (pc := 30) K.1 d41_30 rfl ?_
  refine g_iloadN (pc := 31) K.1 d41_31 rfl ?_
  refine g_iloadN (pc := 32) K.1 d41_32 rfl ?_
  obtain ⟨q33, hq33, h⟩ := Option.bind_eq_some_iff.mp h
  refine g_callP (pc := 33) (vs := [.int v1, .int v2]) K d41_33 (w231 hw) (w232 hw) (w233 hw) (w234 hw) hyC pd_8 rfl rfl (con_M_copyCellLast l Z a0 hw n1 a (ctx_le K) hq33) rfl (Nat.le_of_ble_eq_true rfl) (Nat.le_of_ble_eq_true rfl) rfl rfl ?_
  cases h; exact g_return K.1 d41_36 (capC K)
theorem con_M_copyCell (l : Launch) (Z : State) (a0 : Array Value) (hw : HW a0 Z) (n1 : Nat) (a : Addr) (ha : n1 ≤ a) {NF : Nat} {σ : St} {v1 : Int32} {v2 : Int32} {r : St} (h : M_copyCell NF σ v1 v2 = some r) : Con l Z cC cFS cFA 23 n1 a ⟨cC, "copyCell", "(II)V"⟩ c41 3 none ⟨2, 0, 0, 31⟩ [.ref 0, .int v1, .int v2] σ none r :=
  con_of_go pnC rfl (layW hw) lgood ha (fun X h1 K => ok_M_copyCell K hw h)
abbrev KM_M_cellEnqueue (X : Cx (St × Nat)) (Z : State) (a0 : Array Value) (l : Launch) (n1 : Nat) (a : Addr) (h0 : Heap) : Prop := CtxC X Z a0 cC cFS cFA 23 27 l n1 a h0 ce0 ⟨1, 0, 0, 15⟩ "cellEnqueue" c46 4 (some .int)
def M_cellEnqueue (σ : St) (v1 : Int32) (v2 : Int32) : Option (Int32 × St) :=
  (if 0 ≤ (v1).toInt ∧ (v1).toInt < 8 then (if (gA σ 21 (v1).toInt) < (gI σ 138) then (if (gA σ 21 (v1).toInt) < (4 : Int32) then (if (gA σ 21 (v1).toInt) < 0 then (some ((-2 : Int32), σ)) else ((M_writeQueueSlot σ v1 (gA σ 21 (v1).toInt) v2).bind fun q31 => (if 0 ≤ (v1).toInt ∧ (v1).toInt < 8 then (some (((gA σ 21 (v1).toInt) + (1 : Int32)), (sA q31 21 (v1).toInt ((gA σ 21 (v1).toInt) + (1 : Int32))))) else none))) else (some ((-2 : Int32), σ))) else (some ((-2 : Int32), σ))) else none)
theorem ok_M_cellEnqueue {X : Cx (St × Nat)} {Z : State} {a0 : Array Value} {l : Launch} {n1 : Nat} {a : Addr} {h0 : Heap} (K : KM_M_cellEnqueue X Z a0 l n1 a h0) (hw : HW a0 Z) {σ : St} {v1 : Int32} {v2 : Int32} {r : Int32 × St} (h : M_cellEnqueue σ v1 v2 = some r) : Go X (some (.int r.1), (r.2, 23)) 0 [some (.ref 0), some (.int v1), some (.int v2), none] [] (σ, 23) := by
  unfold M_cellEnqueue at h
  refine g_aloadN (pc := 0) K.1 d46_0 rfl ?_
  refine g_getA (pc := 1) K d46_1 (w50 hw) mf_cellQLen rfl ?_
  refine g_iloadN (pc := 4) K.1 d46_4 rfl ?_
  obtain ⟨hc5, h⟩ := ifn h
  refine g_iaload (pc := 5) K d46_5 ma_cellQLen rfl hc5 ?_
  refine g_istoreN (pc := 6) (L' := [some (.ref 0), some (.int v1), some (.int v2), some (.int (gA σ 21 (v1).toInt))]) K.1 d46_6 (blt rfl) rfl ?_
  refine g_iloadN (pc := 7) K.1 d46_7 rfl ?_
  refine g_aloadN (pc := 8) K.1 d46_8 rfl ?_
  refine g_getI (pc := 9) K d46_9 (w62 hw) mf_cap ?_
  rcases ifs h with ⟨hc12, h⟩ | ⟨hc12, h⟩
  · refine g_icF (pc := 12) K.1 d46_12 ((tlt hc12).2.1) ?_
    refine g_iloadN (pc := 15) K.1 d46_15 rfl ?_
    refine g_iconst (pc := 16) (v := 4) K.1 d46_16 (by decide) ?_
    rcases ifs h with ⟨hc17, h⟩ | ⟨hc17, h⟩
    · refine g_icF (pc := 17) K.1 d46_17 ((tlt hc17).2.1) ?_
      refine g_iloadN (pc := 20) K.1 d46_20 rfl ?_
      rcases ifs h with ⟨hc21, h⟩ | ⟨hc21, h⟩
      · refine g_ifF (pc := 21) K.1 d46_21 ((if0 _ _).trans (tlt hc21).2.1) ?_
        refine g_bipush (pc := 24) (v := -2) K.1 d46_24 (by decide) ?_
        cases h; exact g_ireturn K.1 d46_26 (capC K)
      refine g_ifT (pc := 21) (pc' := 27) K.1 d46_21 (by decide) ((if0 _ _).trans (flt hc21).2.1) ?_
      refine g_aloadN (pc := 27) K.1 d46_27 rfl ?_
      refine g_iloadN (pc := 28) K.1 d46_28 rfl ?_
      refine g_iloadN (pc := 29) K.1 d46_29 rfl ?_
      refine g_iloadN (pc := 30) K.1 d46_30 rfl ?_
      obtain ⟨q31, hq31, h⟩ := Option.bind_eq_some_iff.mp h
      refine g_callP (pc := 31) (vs := [.int v1, .int (gA σ 21 (v1).toInt), .int v2]) K d46_31 (w96 hw) (w97 hw) (w98 hw) (w99 hw) hyC pd_0 rfl rfl (con_M_writeQueueSlot l Z a0 hw n1 a (ctx_le K) hq31) rfl (Nat.le_of_ble_eq_true rfl) (Nat.le_of_ble_eq_true rfl) rfl rfl ?_
      refine g_aloadN (pc := 34) K.1 d46_34 rfl ?_
      refine g_getA (pc := 35) K d46_35 (w50 hw) mf_cellQLen rfl ?_
      refine g_iloadN (pc := 38) K.1 d46_38 rfl ?_
      refine g_iloadN (pc := 39) K.1 d46_39 rfl ?_
      refine g_iconst (pc := 40) (v := 1) K.1 d46_40 (by decide) ?_
      refine g_iadd (pc := 41) K.1 d46_41 ?_
      obtain ⟨hc42, h⟩ := ifn h
      refine g_iastore (pc := 42) K d46_42 ma_cellQLen rfl hc42 ?_
      refine g_iloadN (pc := 43) K.1 d46_43 rfl ?_
      refine g_iconst (pc := 44) (v := 1) K.1 d46_44 (by decide) ?_
      refine g_iadd (pc := 45) K.1 d46_45 ?_
      cases h; exact g_ireturn K.1 d46_46 (capC K)
    refine g_icT (pc := 17) (pc' := 24) K.1 d46_17 (by decide) ((flt hc17).2.1) ?_
    refine g_bipush (pc := 24) (v := -2) K.1 d46_24 (by decide) ?_
    cases h; exact g_ireturn K.1 d46_26 (capC K)
  refine g_icT (pc := 12) (pc' := 24) K.1 d46_12 (by decide) ((flt hc12).2.1) ?_
  refine g_bipush (pc := 24) (v := -2) K.1 d46_24 (by decide) ?_
  cases h; exact g_ireturn K.1 d46_26 (capC K)
theorem con_M_cellEnqueue (l : Launch) (Z : State) (a0 : Array Value) (hw : HW a0 Z) (n1 : Nat) (a : Addr) (ha : n1 ≤ a) {σ : St} {v1 : Int32} {v2 : Int32} {r : Int32 × St} (h : M_cellEnqueue σ v1 v2 = some r) : Con l Z cC cFS cFA 23 n1 a ⟨cC, "cellEnqueue", "(II)I"⟩ c46 4 (some .int) ⟨1, 0, 0, 15⟩ [.ref 0, .int v1, .int v2] σ (some (.int r.1)) r.2 :=
  con_of_go pnC rfl (layW hw) lgood ha (fun X h1 K => ok_M_cellEnqueue K hw h)
abbrev KM_M_cellDequeue (X : Cx (St × Nat)) (Z : State) (a0 : Array Value) (l : Launch) (n1 : Nat) (a : Addr) (h0 : Heap) : Prop := CtxC X Z a0 cC cFS cFA 23 27 l n1 a h0 ce0 ⟨1, 0, 0, 15⟩ "cellDequeue" c47 6 (some .int)
def M_cellDequeue_b63 (NF : Nat)  (i1 : Int32) (i2 : Int32) (i3 : Int32) (σ : St) : Option (Int32 × St) :=
  ((M_writeQueueSlot σ i1 (i2 - (1 : Int32)) (0 : Int32)).bind fun q69 => (if 0 ≤ (i1).toInt ∧ (i1).toInt < 8 then (some (i3, (sA q69 21 (i1).toInt (i2 - (1 : Int32))))) else none))
theorem ok_M_cellDequeue_b63 {X : Cx (St × Nat)} {Z : State} {a0 : Array Value} {l : Launch} {n1 : Nat} {a : Addr} {h0 : Heap} {NF : Nat} (K : KM_M_cellDequeue X Z a0 l n1 a h0) (hw : HW a0 Z)  {i1 : Int32} {i2 : Int32} {i3 : Int32} {σ : St} {r : Int32 × St}  (h : M_cellDequeue_b63 NF  i1 i2 i3 σ = some r) : Go X (some (.int r.1), (r.2, 23)) 63 [some (.ref 0), some (.int i1), some (.int i2), some (.int i3), none, none] [] (σ, 23) := by
  unfold M_cellDequeue_b63 at h
  refine g_aloadN (pc := 63) K.1 d47_63 rfl ?_
  refine g_iloadN (pc := 64) K.1 d47_64 rfl ?_
  refine g_iloadN (pc := 65) K.1 d47_65 rfl ?_
  refine g_iconst (pc := 66) (v := 1) K.1 d47_66 (by decide) ?_
  refine g_isub (pc := 67) K.1 d47_67 ?_
  refine g_iconst (pc := 68) (v := 0) K.1 d47_68 (by decide) ?_
  obtain ⟨q69, hq69, h⟩ := Option.bind_eq_some_iff.mp h
  refine g_callP (pc := 69) (vs := [.int i1, .int (i2 - (1 : Int32)), .int (0 : Int32)]) K d47_69 (w96 hw) (w97 hw) (w98 hw) (w99 hw) hyC pd_0 rfl rfl (con_M_writeQueueSlot l Z a0 hw n1 a (ctx_le K) hq69) rfl (Nat.le_of_ble_eq_true rfl) (Nat.le_of_ble_eq_true rfl) rfl rfl ?_
  refine g_aloadN (pc := 72) K.1 d47_72 rfl ?_
  refine g_getA (pc := 73) K d47_73 (w50 hw) mf_cellQLen rfl ?_
  refine g_iloadN (pc := 76) K.1 d47_76 rfl ?_
  refine g_iloadN (pc := 77) K.1 d47_77 rfl ?_
  refine g_iconst (pc := 78) (v := 1) K.1 d47_78 (by decide) ?_
  refine g_isub (pc := 79) K.1 d47_79 ?_
  obtain ⟨hc80, h⟩ := ifn h
  refine g_iastore (pc := 80) K d47_80 ma_cellQLen rfl hc80 ?_
  refine g_iloadN (pc := 81) K.1 d47_81 rfl ?_
  cases h; exact g_ireturn K.1 d47_82 (capC K)
def M_cellDequeue_w23 (NF : Nat) (k23 : Int32 → Int32 → Int32 → Int32 → St → Option (Int32 × St)) (i1 : Int32) (i2 : Int32) (i3 : Int32) (i4 : Int32) (σ : St) : Option (Int32 × St) :=
  (if (i4 + (1 : Int32)) < i2 then (if i4 < (3 : Int32) then ((M_readQueueSlot σ i1 (i4 + (1 : Int32))).bind fun q43 => ((M_writeQueueSlot q43.2 i1 i4 q43.1).bind fun q54 => k23 i1 i2 i3 (i4 + (1 : Int32)) q54)) else M_cellDequeue_b63 NF i1 i2 i3 σ) else M_cellDequeue_b63 NF i1 i2 i3 σ)
theorem ok_M_cellDequeue_w23 {X : Cx (St × Nat)} {Z : State} {a0 : Array Value} {l : Launch} {n1 : Nat} {a : Addr} {h0 : Heap} {NF : Nat} (K : KM_M_cellDequeue X Z a0 l n1 a h0) (hw : HW a0 Z) {k23 : Int32 → Int32 → Int32 → Int32 → St → Option (Int32 × St)} {i1 : Int32} {i2 : Int32} {i3 : Int32} {i4 : Int32} {σ : St} {r : Int32 × St} (hk23 : ∀ (i1 : Int32) (i2 : Int32) (i3 : Int32) (i4 : Int32) (σ : St) (h : k23 i1 i2 i3 i4 σ = some r), Go X (some (.int r.1), (r.2, 23)) 23 [some (.ref 0), some (.int i1), some (.int i2), some (.int i3), some (.int i4), none] [] (σ, 23)) (h : M_cellDequeue_w23 NF k23 i1 i2 i3 i4 σ = some r) : Go X (some (.int r.1), (r.2, 23)) 23 [some (.ref 0), some (.int i1), some (.int i2), some (.int i3), some (.int i4), none] [] (σ, 23) := by
  unfold M_cellDequeue_w23 at h
  refine g_iload (pc := 23) K.1 d47_23 rfl ?_
  refine g_iconst (pc := 25) (v := 1) K.1 d47_25 (by decide) ?_
  refine g_iadd (pc := 26) K.1 d47_26 ?_
  refine g_iloadN (pc := 27) K.1 d47_27 rfl ?_
  rcases ifs h with ⟨hc28, h⟩ | ⟨hc28, h⟩
  · refine g_icF (pc := 28) K.1 d47_28 ((tlt hc28).2.1) ?_
    refine g_iload (pc := 31) K.1 d47_31 rfl ?_
    refine g_iconst (pc := 33) (v := 3) K.1 d47_33 (by decide) ?_
    rcases ifs h with ⟨hc34, h⟩ | ⟨hc34, h⟩
    · refine g_icF (pc := 34) K.1 d47_34 ((tlt hc34).2.1) ?_
      refine g_aloadN (pc := 37) K.1 d47_37 rfl ?_
      refine g_iloadN (pc := 38) K.1 d47_38 rfl ?_
      refine g_iload (pc := 39) K.1 d47_39 rfl ?_
      refine g_iconst (pc := 41) (v := 1) K.1 d47_41 (by decide) ?_
      refine g_iadd (pc := 42) K.1 d47_42 ?_
      obtain ⟨q43, hq43, h⟩ := Option.bind_eq_some_iff.mp h
      refine g_callP (pc := 43) (vs := [.int i1, .int (i4 + (1 : Int32))]) K d47_43 (w227 hw) (w228 hw) (w229 hw) (w230 hw) hyC pd_7 rfl rfl (con_M_readQueueSlot l Z a0 hw n1 a (ctx_le K) hq43) rfl (Nat.le_of_ble_eq_true rfl) (Nat.le_of_ble_eq_true rfl) rfl rfl ?_
      refine g_istore (pc := 46) (L' := [some (.ref 0), some (.int i1), some (.int i2), some (.int i3), some (.int i4), some (.int q43.1)]) K.1 d47_46 (blt rfl) rfl ?_
      refine g_aloadN (pc := 48) K.1 d47_48 rfl ?_
      refine g_iloadN (pc := 49) K.1 d47_49 rfl ?_
      refine g_iload (pc := 50) K.1 d47_50 rfl ?_
      refine g_iload (pc := 52) K.1 d47_52 rfl ?_
      obtain ⟨q54, hq54, h⟩ := Option.bind_eq_some_iff.mp h
      refine g_callP (pc := 54) (vs := [.int i1, .int i4, .int q43.1]) K d47_54 (w96 hw) (w97 hw) (w98 hw) (w99 hw) hyC pd_0 rfl rfl (con_M_writeQueueSlot l Z a0 hw n1 a (ctx_le K) hq54) rfl (Nat.le_of_ble_eq_true rfl) (Nat.le_of_ble_eq_true rfl) rfl rfl ?_
      refine g_iinc (pc := 57) (w := 1) (L' := [some (.ref 0), some (.int i1), some (.int i2), some (.int i3), some (.int (i4 + (1 : Int32))), some (.int q43.1)]) K.1 d47_57 rfl (by decide) rfl ?_
      refine g_goto (pc := 60) (pc' := 23) K.1 d47_60 (by decide) ?_
      exact g_less (hk23 _ _ _ _ _ h) (ls (ls (ls (ls (ls (ln l0))))))
    refine g_icT (pc := 34) (pc' := 63) K.1 d47_34 (by decide) ((flt hc34).2.1) ?_
    exact g_less (ok_M_cellDequeue_b63 K hw  h) (ls (ls (ls (ls (ln (ls l0))))))
  refine g_icT (pc := 28) (pc' := 63) K.1 d47_28 (by decide) ((flt hc28).2.1) ?_
  exact g_less (ok_M_cellDequeue_b63 K hw  h) (ls (ls (ls (ls (ln (ls l0))))))
def M_cellDequeue_l23 (NF : Nat)  : Nat → Int32 → Int32 → Int32 → Int32 → St → Option (Int32 × St)
  | 0 => fun _ _ _ _ _ => none
  | n + 1 => fun i1 i2 i3 i4 σ => M_cellDequeue_w23 NF  (M_cellDequeue_l23 NF  n) i1 i2 i3 i4 σ
theorem ok_M_cellDequeue_l23 {X : Cx (St × Nat)} {Z : State} {a0 : Array Value} {l : Launch} {n1 : Nat} {a : Addr} {h0 : Heap} {NF : Nat} (K : KM_M_cellDequeue X Z a0 l n1 a h0) (hw : HW a0 Z) (n : Nat)  {r : Int32 × St}  : ∀ (i1 : Int32) (i2 : Int32) (i3 : Int32) (i4 : Int32) (σ : St) (h : M_cellDequeue_l23 NF  n i1 i2 i3 i4 σ = some r), Go X (some (.int r.1), (r.2, 23)) 23 [some (.ref 0), some (.int i1), some (.int i2), some (.int i3), some (.int i4), none] [] (σ, 23) := by
  induction n with
  | zero => intro i1 i2 i3 i4 σ h; cases h
  | succ n ih => intro i1 i2 i3 i4 σ h; exact ok_M_cellDequeue_w23 (NF := NF) K hw  ih h
def M_cellDequeue (NF : Nat) (σ : St) (v1 : Int32) : Option (Int32 × St) :=
  (if 0 ≤ (v1).toInt ∧ (v1).toInt < 8 then (if 0 < (gA σ 21 (v1).toInt) then ((M_readQueueSlot σ v1 (0 : Int32)).bind fun q16 => M_cellDequeue_l23 NF NF v1 (gA σ 21 (v1).toInt) q16.1 (0 : Int32) q16.2) else (some ((-1 : Int32), σ))) else none)
theorem ok_M_cellDequeue {X : Cx (St × Nat)} {Z : State} {a0 : Array Value} {l : Launch} {n1 : Nat} {a : Addr} {h0 : Heap} {NF : Nat} (K : KM_M_cellDequeue X Z a0 l n1 a h0) (hw : HW a0 Z) {σ : St} {v1 : Int32} {r : Int32 × St} (h : M_cellDequeue NF σ v1 = some r) : Go X (some (.int r.1), (r.2, 23)) 0 [some (.ref 0), some (.int v1), none, none, none, none] [] (σ, 23) := by
  unfold M_cellDequeue at h
  refine g_aloadN (pc := 0) K.1 d47_0 rfl ?_
  refine g_getA (pc := 1) K d47_1 (w50 hw) mf_cellQLen rfl ?_
  refine g_iloadN (pc := 4) K.1 d47_4 rfl ?_
  obtain ⟨hc5, h⟩ := ifn h
  refine g_iaload (pc := 5) K d47_5 ma_cellQLen rfl hc5 ?_
  refine g_istoreN (pc := 6) (L' := [some (.ref 0), some (.int v1), some (.int (gA σ 21 (v1).toInt)), none, none, none]) K.1 d47_6 (blt rfl) rfl ?_
  refine g_iloadN (pc := 7) K.1 d47_7 rfl ?_
  rcases ifs h with ⟨hc8, h⟩ | ⟨hc8, h⟩
  · refine g_ifT (pc := 8) (pc' := 13) K.1 d47_8 (by decide) ((if0 _ _).trans (tlt hc8).2.2.1) ?_
    refine g_aloadN (pc := 13) K.1 d47_13 rfl ?_
    refine g_iloadN (pc := 14) K.1 d47_14 rfl ?_
    refine g_iconst (pc := 15) (v := 0) K.1 d47_15 (by decide) ?_
    obtain ⟨q16, hq16, h⟩ := Option.bind_eq_some_iff.mp h
    refine g_callP (pc := 16) (vs := [.int v1, .int (0 : Int32)]) K d47_16 (w227 hw) (w228 hw) (w229 hw) (w230 hw) hyC pd_7 rfl rfl (con_M_readQueueSlot l Z a0 hw n1 a (ctx_le K) hq16) rfl (Nat.le_of_ble_eq_true rfl) (Nat.le_of_ble_eq_true rfl) rfl rfl ?_
    refine g_istoreN (pc := 19) (L' := [some (.ref 0), some (.int v1), some (.int (gA σ 21 (v1).toInt)), some (.int q16.1), none, none]) K.1 d47_19 (blt rfl) rfl ?_
    refine g_iconst (pc := 20) (v := 0) K.1 d47_20 (by decide) ?_
    refine g_istore (pc := 21) (L' := [some (.ref 0), some (.int v1), some (.int (gA σ 21 (v1).toInt)), some (.int q16.1), some (.int (0 : Int32)), none]) K.1 d47_21 (blt rfl) rfl ?_
    exact ok_M_cellDequeue_l23 K hw NF  _ _ _ _ _ h
  refine g_ifF (pc := 8) K.1 d47_8 ((if0 _ _).trans (flt hc8).2.2.1) ?_
  refine g_iconst (pc := 11) (v := -1) K.1 d47_11 (by decide) ?_
  cases h; exact g_ireturn K.1 d47_12 (capC K)
theorem con_M_cellDequeue (l : Launch) (Z : State) (a0 : Array Value) (hw : HW a0 Z) (n1 : Nat) (a : Addr) (ha : n1 ≤ a) {NF : Nat} {σ : St} {v1 : Int32} {r : Int32 × St} (h : M_cellDequeue NF σ v1 = some r) : Con l Z cC cFS cFA 23 n1 a ⟨cC, "cellDequeue", "(I)I"⟩ c47 6 (some .int) ⟨1, 0, 0, 15⟩ [.ref 0, .int v1] σ (some (.int r.1)) r.2 :=
  con_of_go pnC rfl (layW hw) lgood ha (fun X h1 K => ok_M_cellDequeue K hw h)
abbrev KM_M_applyInCell (X : Cx (St × Nat)) (Z : State) (a0 : Array Value) (l : Launch) (n1 : Nat) (a : Addr) (h0 : Heap) : Prop := CtxC X Z a0 cC cFS cFA 23 27 l n1 a h0 ce0 ⟨2, 0, 0, 32⟩ "applyInCell" c45 4 (some .int)
def M_applyInCell (NF : Nat) (σ : St) (v1 : Int32) (v2 : Int32) (v3 : Int32) : Option (Int32 × St) :=
  (if v2 = (1 : Int32) then none else (if v2 = (2 : Int32) then ((M_cellEnqueue σ v1 v3).bind fun q20 => (some (q20.1, q20.2))) else ((M_cellDequeue NF σ v1).bind fun q26 => (some (q26.1, q26.2)))))
theorem ok_M_applyInCell {X : Cx (St × Nat)} {Z : State} {a0 : Array Value} {l : Launch} {n1 : Nat} {a : Addr} {h0 : Heap} {NF : Nat} (K : KM_M_applyInCell X Z a0 l n1 a h0) (hw : HW a0 Z) {σ : St} {v1 : Int32} {v2 : Int32} {v3 : Int32} {r : Int32 × St} (h : M_applyInCell NF σ v1 v2 v3 = some r) : Go X (some (.int r.1), (r.2, 23)) 0 [some (.ref 0), some (.int v1), some (.int v2), some (.int v3)] [] (σ, 23) := by
  unfold M_applyInCell at h
  refine g_iloadN (pc := 0) K.1 d45_0 rfl ?_
  refine g_iconst (pc := 1) (v := 1) K.1 d45_1 (by decide) ?_
  rcases ifs h with ⟨hc2, h⟩ | ⟨hc2, h⟩
  · refine g_icF (pc := 2) K.1 d45_2 ((teq hc2).2) ?_
    refine g_aloadN (pc := 5) K.1 d45_5 rfl ?_
    refine g_iloadN (pc := 6) K.1 d45_6 rfl ?_
    refine g_iloadN (pc := 7) K.1 d45_7 rfl ?_
    cases h
  refine g_icT (pc := 2) (pc' := 12) K.1 d45_2 (by decide) ((feq hc2).2) ?_
  refine g_iloadN (pc := 12) K.1 d45_12 rfl ?_
  refine g_iconst (pc := 13) (v := 2) K.1 d45_13 (by decide) ?_
  rcases ifs h with ⟨hc14, h⟩ | ⟨hc14, h⟩
  · refine g_icF (pc := 14) K.1 d45_14 ((teq hc14).2) ?_
    refine g_aloadN (pc := 17) K.1 d45_17 rfl ?_
    refine g_iloadN (pc := 18) K.1 d45_18 rfl ?_
    refine g_iloadN (pc := 19) K.1 d45_19 rfl ?_
    obtain ⟨q20, hq20, h⟩ := Option.bind_eq_some_iff.mp h
    refine g_callP (pc := 20) (vs := [.int v1, .int v3]) K d45_20 (w239 hw) (w240 hw) (w241 hw) (w242 hw) hyC pd_7 rfl rfl (con_M_cellEnqueue l Z a0 hw n1 a (ctx_le K) hq20) rfl (Nat.le_of_ble_eq_true rfl) (Nat.le_of_ble_eq_true rfl) rfl rfl ?_
    cases h; exact g_ireturn K.1 d45_23 (capC K)
  refine g_icT (pc := 14) (pc' := 24) K.1 d45_14 (by decide) ((feq hc14).2) ?_
  refine g_aloadN (pc := 24) K.1 d45_24 rfl ?_
  refine g_iloadN (pc := 25) K.1 d45_25 rfl ?_
  obtain ⟨q26, hq26, h⟩ := Option.bind_eq_some_iff.mp h
  refine g_callP (pc := 26) (vs := [.int v1]) K d45_26 (w271 hw) (w272 hw) (w273 hw) (w274 hw) hyC pd_6 rfl rfl (con_M_cellDequeue l Z a0 hw n1 a (ctx_le K) hq26) rfl (Nat.le_of_ble_eq_true rfl) (Nat.le_of_ble_eq_true rfl) rfl rfl ?_
  cases h; exact g_ireturn K.1 d45_29 (capC K)
theorem con_M_applyInCell (l : Launch) (Z : State) (a0 : Array Value) (hw : HW a0 Z) (n1 : Nat) (a : Addr) (ha : n1 ≤ a) {NF : Nat} {σ : St} {v1 : Int32} {v2 : Int32} {v3 : Int32} {r : Int32 × St} (h : M_applyInCell NF σ v1 v2 v3 = some r) : Con l Z cC cFS cFA 23 n1 a ⟨cC, "applyInCell", "(III)I"⟩ c45 4 (some .int) ⟨2, 0, 0, 32⟩ [.ref 0, .int v1, .int v2, .int v3] σ (some (.int r.1)) r.2 :=
  con_of_go pnC rfl (layW hw) lgood ha (fun X h1 K => ok_M_applyInCell K hw h)
abbrev KM_M_appendToLog (X : Cx (St × Nat)) (Z : State) (a0 : Array Value) (l : Launch) (n1 : Nat) (a : Addr) (h0 : Heap) : Prop := CtxC X Z a0 cC cFS cFA 23 27 l n1 a h0 ce0 ⟨3, 0, 0, 47⟩ "appendToLog" c40 6 none
def M_appendToLog (NF : Nat) (σ : St) (v1 : Int32) : Option (St) :=
  ((M_cellOf σ (gI σ 153)).bind fun q12 => ((M_cellOf q12.2 ((gI σ 153) + (1 : Int32))).bind fun q18 => ((M_copyCell NF q18.2 q12.1 q18.1).bind fun q27 => (if 0 ≤ (v1).toInt ∧ (v1).toInt < 241 then (if 0 ≤ (v1).toInt ∧ (v1).toInt < 241 then ((M_applyInCell NF q27 q18.1 (gA q27 1 (v1).toInt) (gA q27 2 (v1).toInt)).bind fun q45 => (if 0 ≤ (q18.1).toInt ∧ (q18.1).toInt < 8 then (if 0 ≤ (q18.1).toInt ∧ (q18.1).toInt < 8 then (if 0 ≤ (q18.1).toInt ∧ (q18.1).toInt < 8 then (if 0 ≤ (v1).toInt ∧ (v1).toInt < 241 then ((M_setCellLast (sA (sA (sA q45.2 17 (q18.1).toInt ((gI σ 153) + (1 : Int32))) 18 (q18.1).toInt v1) 19 (q18.1).toInt q45.1) q18.1 (gA (sA (sA (sA q45.2 17 (q18.1).toInt ((gI σ 153) + (1 : Int32))) 18 (q18.1).toInt v1) 19 (q18.1).toInt q45.1) 3 (v1).toInt) v1).bind fun q85 => (if 0 ≤ (v1).toInt ∧ (v1).toInt < 241 then (if 0 ≤ (v1).toInt ∧ (v1).toInt < 241 then (if 0 ≤ (v1).toInt ∧ (v1).toInt < 241 then (some (sA (sA (sA (sI q85 153 ((gI σ 153) + (1 : Int32))) 6 (v1).toInt ((gI σ 153) + (1 : Int32))) 5 (v1).toInt q45.1) 4 (v1).toInt (2 : Int32))) else none) else none) else none)) else none) else none) else none) else none)) else none) else none))))
theorem ok_M_appendToLog {X : Cx (St × Nat)} {Z : State} {a0 : Array Value} {l : Launch} {n1 : Nat} {a : Addr} {h0 : Heap} {NF : Nat} (K : KM_M_appendToLog X Z a0 l n1 a h0) (hw : HW a0 Z) {σ : St} {v1 : Int32} {r : St} (h : M_appendToLog NF σ v1 = some r) : Go X (none, (r, 23)) 0 [some (.ref 0), some (.int v1), none, none, none, none] [] (σ, 23) := by
  unfold M_appendToLog at h
  refine g_aloadN (pc := 0) K.1 d40_0 rfl ?_
  refine g_getI (pc := 1) K d40_1 (w66 hw) mf_tailValue ?_
  refine g_iconst (pc := 4) (v := 1) K.1 d40_4 (by decide) ?_
  refine g_iadd (pc := 5) K.1 d40_5 ?_
  refine g_istoreN (pc := 6) (L' := [some (.ref 0), some (.int v1), some (.int ((gI σ 153) + (1 : Int32))), none, none, none]) K.1 d40_6 (blt rfl) rfl ?_
  refine g_aloadN (pc := 7) K.1 d40_7 rfl ?_
  refine g_aloadN (pc := 8) K.1 d40_8 rfl ?_
  refine g_getI (pc := 9) K d40_9 (w66 hw) mf_tailValue ?_
  obtain ⟨q12, hq12, h⟩ := Option.bind_eq_some_iff.mp h
  refine g_callP (pc := 12) (vs := [.int (gI σ 153)]) K d40_12 (w174 hw) (w175 hw) (w176 hw) (w177 hw) hyC pd_6 rfl rfl (con_M_cellOf l Z a0 hw n1 a (ctx_le K) hq12) rfl (Nat.le_of_ble_eq_true rfl) (Nat.le_of_ble_eq_true rfl) rfl rfl ?_
  refine g_istoreN (pc := 15) (L' := [some (.ref 0), some (.int v1), some (.int ((gI σ 153) + (1 : Int32))), some (.int q12.1), none, none]) K.1 d40_15 (blt rfl) rfl ?_
  refine g_aloadN (pc := 16) K.1 d40_16 rfl ?_
  refine g_iloadN (pc := 17) K.1 d40_17 rfl ?_
  obtain ⟨q18, hq18, h⟩ := Option.bind_eq_some_iff.mp h
  refine g_callP (pc := 18) (vs := [.int ((gI σ 153) + (1 : Int32))]) K d40_18 (w174 hw) (w175 hw) (w176 hw) (w177 hw) hyC pd_6 rfl rfl (con_M_cellOf l Z a0 hw n1 a (ctx_le K) hq18) rfl (Nat.le_of_ble_eq_true rfl) (Nat.le_of_ble_eq_true rfl) rfl rfl ?_
  refine g_istore (pc := 21) (L' := [some (.ref 0), some (.int v1), some (.int ((gI σ 153) + (1 : Int32))), some (.int q12.1), some (.int q18.1), none]) K.1 d40_21 (blt rfl) rfl ?_
  refine g_aloadN (pc := 23) K.1 d40_23 rfl ?_
  refine g_iloadN (pc := 24) K.1 d40_24 rfl ?_
  refine g_iload (pc := 25) K.1 d40_25 rfl ?_
  obtain ⟨q27, hq27, h⟩ := Option.bind_eq_some_iff.mp h
  refine g_callP (pc := 27) (vs := [.int q12.1, .int q18.1]) K d40_27 (w219 hw) (w220 hw) (w221 hw) (w222 hw) hyC pd_8 rfl rfl (con_M_copyCell l Z a0 hw n1 a (ctx_le K) hq27) rfl (Nat.le_of_ble_eq_true rfl) (Nat.le_of_ble_eq_true rfl) rfl rfl ?_
  refine g_aloadN (pc := 30) K.1 d40_30 rfl ?_
  refine g_iload (pc := 31) K.1 d40_31 rfl ?_
  refine g_aloadN (pc := 33) K.1 d40_33 rfl ?_
  refine g_getA (pc := 34) K d40_34 (w10 hw) mf_opKind rfl ?_
  refine g_iloadN (pc := 37) K.1 d40_37 rfl ?_
  obtain ⟨hc38, h⟩ := ifn h
  refine g_iaload (pc := 38) K d40_38 ma_opKind rfl hc38 ?_
  refine g_aloadN (pc := 39) K.1 d40_39 rfl ?_
  refine g_getA (pc := 40) K d40_40 (w12 hw) mf_opArg rfl ?_
  refine g_iloadN (pc := 43) K.1 d40_43 rfl ?_
  obtain ⟨hc44, h⟩ := ifn h
  refine g_iaload (pc := 44) K d40_44 ma_opArg rfl hc44 ?_
  obtain ⟨q45, hq45, h⟩ := Option.bind_eq_some_iff.mp h
  refine g_callP (pc := 45) (vs := [.int q18.1, .int (gA q27 1 (v1).toInt), .int (gA q27 2 (v1).toInt)]) K d40_45 (w235 hw) (w236 hw) (w237 hw) (w238 hw) hyC pd_3 rfl rfl (con_M_applyInCell l Z a0 hw n1 a (ctx_le K) hq45) rfl (Nat.le_of_ble_eq_true rfl) (Nat.le_of_ble_eq_true rfl) rfl rfl ?_
  refine g_istore (pc := 48) (L' := [some (.ref 0), some (.int v1), some (.int ((gI σ 153) + (1 : Int32))), some (.int q12.1), some (.int q18.1), some (.int q45.1)]) K.1 d40_48 (blt rfl) rfl ?_
  refine g_aloadN (pc := 50) K.1 d40_50 rfl ?_
  refine g_getA (pc := 51) K d40_51 (w42 hw) mf_cellPos rfl ?_
  refine g_iload (pc := 54) K.1 d40_54 rfl ?_
  refine g_iloadN (pc := 56) K.1 d40_56 rfl ?_
  obtain ⟨hc57, h⟩ := ifn h
  refine g_iastore (pc := 57) K d40_57 ma_cellPos rfl hc57 ?_
  refine g_aloadN (pc := 58) K.1 d40_58 rfl ?_
  refine g_getA (pc := 59) K d40_59 (w44 hw) mf_cellId rfl ?_
  refine g_iload (pc := 62) K.1 d40_62 rfl ?_
  refine g_iloadN (pc := 64) K.1 d40_64 rfl ?_
  obtain ⟨hc65, h⟩ := ifn h
  refine g_iastore (pc := 65) K d40_65 ma_cellId rfl hc65 ?_
  refine g_aloadN (pc := 66) K.1 d40_66 rfl ?_
  refine g_getA (pc := 67) K d40_67 (w46 hw) mf_cellResp rfl ?_
  refine g_iload (pc := 70) K.1 d40_70 rfl ?_
  refine g_iload (pc := 72) K.1 d40_72 rfl ?_
  obtain ⟨hc74, h⟩ := ifn h
  refine g_iastore (pc := 74) K d40_74 ma_cellResp rfl hc74 ?_
  refine g_aloadN (pc := 75) K.1 d40_75 rfl ?_
  refine g_iload (pc := 76) K.1 d40_76 rfl ?_
  refine g_aloadN (pc := 78) K.1 d40_78 rfl ?_
  refine g_getA (pc := 79) K d40_79 (w14 hw) mf_opThread rfl ?_
  refine g_iloadN (pc := 82) K.1 d40_82 rfl ?_
  obtain ⟨hc83, h⟩ := ifn h
  refine g_iaload (pc := 83) K d40_83 ma_opThread rfl hc83 ?_
  refine g_iloadN (pc := 84) K.1 d40_84 rfl ?_
  obtain ⟨q85, hq85, h⟩ := Option.bind_eq_some_iff.mp h
  refine g_callP (pc := 85) (vs := [.int q18.1, .int (gA (sA (sA (sA q45.2 17 (q18.1).toInt ((gI σ 153) + (1 : Int32))) 18 (q18.1).toInt v1) 19 (q18.1).toInt q45.1) 3 (v1).toInt), .int v1]) K d40_85 (w104 hw) (w105 hw) (w106 hw) (w107 hw) hyC pd_0 rfl rfl (con_M_setCellLast l Z a0 hw n1 a (ctx_le K) hq85) rfl (Nat.le_of_ble_eq_true rfl) (Nat.le_of_ble_eq_true rfl) rfl rfl ?_
  refine g_aloadN (pc := 88) K.1 d40_88 rfl ?_
  refine g_iloadN (pc := 89) K.1 d40_89 rfl ?_
  refine g_putI (pc := 90) (t := .int) (v' := ((gI σ 153) + (1 : Int32))) K d40_90 (w66 hw) mf_tailValue (Or.inl (w67 hw)) pfd_I rfl rfl ?_
  refine g_aloadN (pc := 93) K.1 d40_93 rfl ?_
  refine g_getA (pc := 94) K d40_94 (w20 hw) mf_opPos rfl ?_
  refine g_iloadN (pc := 97) K.1 d40_97 rfl ?_
  refine g_iloadN (pc := 98) K.1 d40_98 rfl ?_
  obtain ⟨hc99, h⟩ := ifn h
  refine g_iastore (pc := 99) K d40_99 ma_opPos rfl hc99 ?_
  refine g_aloadN (pc := 100) K.1 d40_100 rfl ?_
  refine g_getA (pc := 101) K d40_101 (w18 hw) mf_opResp rfl ?_
  refine g_iloadN (pc := 104) K.1 d40_104 rfl ?_
  refine g_iload (pc := 105) K.1 d40_105 rfl ?_
  obtain ⟨hc107, h⟩ := ifn h
  refine g_iastore (pc := 107) K d40_107 ma_opResp rfl hc107 ?_
  refine g_aloadN (pc := 108) K.1 d40_108 rfl ?_
  refine g_getA (pc := 109) K d40_109 (w16 hw) mf_opStatus rfl ?_
  refine g_iloadN (pc := 112) K.1 d40_112 rfl ?_
  refine g_iconst (pc := 113) (v := 2) K.1 d40_113 (by decide) ?_
  obtain ⟨hc114, h⟩ := ifn h
  refine g_iastore (pc := 114) K d40_114 ma_opStatus rfl hc114 ?_
  cases h; exact g_return K.1 d40_115 (capC K)
theorem con_M_appendToLog (l : Launch) (Z : State) (a0 : Array Value) (hw : HW a0 Z) (n1 : Nat) (a : Addr) (ha : n1 ≤ a) {NF : Nat} {σ : St} {v1 : Int32} {r : St} (h : M_appendToLog NF σ v1 = some r) : Con l Z cC cFS cFA 23 n1 a ⟨cC, "appendToLog", "(I)V"⟩ c40 6 none ⟨3, 0, 0, 47⟩ [.ref 0, .int v1] σ none r :=
  con_of_go pnC rfl (layW hw) lgood ha (fun X h1 K => ok_M_appendToLog K hw h)
abbrev KM_M_stepCas (X : Cx (St × Nat)) (Z : State) (a0 : Array Value) (l : Launch) (n1 : Nat) (a : Addr) (h0 : Heap) : Prop := CtxC X Z a0 cC cFS cFA 23 27 l n1 a h0 ce0 ⟨4, 0, 0, 64⟩ "stepCas" c38 3 (some .int)
def M_stepCas_b28 (NF : Nat)  (i1 : Int32) (σ : St) : Option (Int32 × St) :=
  (if 0 ≤ (i1).toInt ∧ (i1).toInt < 6 then (some ((7 : Int32), (sA σ 7 (i1).toInt (2 : Int32)))) else none)
theorem ok_M_stepCas_b28 {X : Cx (St × Nat)} {Z : State} {a0 : Array Value} {l : Launch} {n1 : Nat} {a : Addr} {h0 : Heap} {NF : Nat} (K : KM_M_stepCas X Z a0 l n1 a h0) (hw : HW a0 Z)  {i1 : Int32} {σ : St} {r : Int32 × St}  (h : M_stepCas_b28 NF  i1 σ = some r) : Go X (some (.int r.1), (r.2, 23)) 28 [some (.ref 0), some (.int i1), none] [] (σ, 23) := by
  unfold M_stepCas_b28 at h
  refine g_aloadN (pc := 28) K.1 d38_28 rfl ?_
  refine g_getA (pc := 29) K d38_29 (w22 hw) mf_thPhase rfl ?_
  refine g_iloadN (pc := 32) K.1 d38_32 rfl ?_
  refine g_iconst (pc := 33) (v := 2) K.1 d38_33 (by decide) ?_
  obtain ⟨hc34, h⟩ := ifn h
  refine g_iastore (pc := 34) K d38_34 ma_thPhase rfl hc34 ?_
  refine g_bipush (pc := 35) (v := 7) K.1 d38_35 (by decide) ?_
  cases h; exact g_ireturn K.1 d38_37 (capC K)
def M_stepCas (NF : Nat) (σ : St) (v1 : Int32) : Option (Int32 × St) :=
  (if 0 ≤ (v1).toInt ∧ (v1).toInt < 6 then (if 0 ≤ (v1).toInt ∧ (v1).toInt < 6 then (if (gI σ 153) = (gA σ 9 (v1).toInt) then ((M_canAppend σ (gA σ 10 (v1).toInt)).bind fun q22 => (if q22.1 = 0 then M_stepCas_b28 NF v1 q22.2 else ((M_appendToLog NF q22.2 (gA σ 10 (v1).toInt)).bind fun q40 => (if 0 ≤ (v1).toInt ∧ (v1).toInt < 6 then (if (gA σ 10 (v1).toInt) = (gA q40 8 (v1).toInt) then ((M_completeOwn q40 v1).bind fun q55 => (some ((8 : Int32), q55))) else (if 0 ≤ (v1).toInt ∧ (v1).toInt < 6 then (some ((6 : Int32), (sA q40 7 (v1).toInt (2 : Int32)))) else none)) else none)))) else M_stepCas_b28 NF v1 σ) else none) else none)
theorem ok_M_stepCas {X : Cx (St × Nat)} {Z : State} {a0 : Array Value} {l : Launch} {n1 : Nat} {a : Addr} {h0 : Heap} {NF : Nat} (K : KM_M_stepCas X Z a0 l n1 a h0) (hw : HW a0 Z) {σ : St} {v1 : Int32} {r : Int32 × St} (h : M_stepCas NF σ v1 = some r) : Go X (some (.int r.1), (r.2, 23)) 0 [some (.ref 0), some (.int v1), none] [] (σ, 23) := by
  unfold M_stepCas at h
  refine g_aloadN (pc := 0) K.1 d38_0 rfl ?_
  refine g_getA (pc := 1) K d38_1 (w28 hw) mf_thC rfl ?_
  refine g_iloadN (pc := 4) K.1 d38_4 rfl ?_
  obtain ⟨hc5, h⟩ := ifn h
  refine g_iaload (pc := 5) K d38_5 ma_thC rfl hc5 ?_
  refine g_istoreN (pc := 6) (L' := [some (.ref 0), some (.int v1), some (.int (gA σ 10 (v1).toInt))]) K.1 d38_6 (blt rfl) rfl ?_
  refine g_aloadN (pc := 7) K.1 d38_7 rfl ?_
  refine g_getI (pc := 8) K d38_8 (w66 hw) mf_tailValue ?_
  refine g_aloadN (pc := 11) K.1 d38_11 rfl ?_
  refine g_getA (pc := 12) K d38_12 (w26 hw) mf_thP rfl ?_
  refine g_iloadN (pc := 15) K.1 d38_15 rfl ?_
  obtain ⟨hc16, h⟩ := ifn h
  refine g_iaload (pc := 16) K d38_16 ma_thP rfl hc16 ?_
  rcases ifs h with ⟨hc17, h⟩ | ⟨hc17, h⟩
  · refine g_icF (pc := 17) K.1 d38_17 ((teq hc17).2) ?_
    refine g_aloadN (pc := 20) K.1 d38_20 rfl ?_
    refine g_iloadN (pc := 21) K.1 d38_21 rfl ?_
    obtain ⟨q22, hq22, h⟩ := Option.bind_eq_some_iff.mp h
    refine g_callP (pc := 22) (vs := [.int (gA σ 10 (v1).toInt)]) K d38_22 (w211 hw) (w212 hw) (w213 hw) (w214 hw) hyC pd_5 rfl rfl (con_M_canAppend l Z a0 hw n1 a (ctx_le K) hq22) rfl (Nat.le_of_ble_eq_true rfl) (Nat.le_of_ble_eq_true rfl) rfl rfl ?_
    rcases ifs h with ⟨hc25, h⟩ | ⟨hc25, h⟩
    · refine g_ifF (pc := 25) K.1 d38_25 ((if0 _ _).trans (teq hc25).2) ?_
      exact g_less (ok_M_stepCas_b28 K hw  h) (ls (ls (ln l0)))
    refine g_ifT (pc := 25) (pc' := 38) K.1 d38_25 (by decide) ((if0 _ _).trans (feq hc25).2) ?_
    refine g_aloadN (pc := 38) K.1 d38_38 rfl ?_
    refine g_iloadN (pc := 39) K.1 d38_39 rfl ?_
    obtain ⟨q40, hq40, h⟩ := Option.bind_eq_some_iff.mp h
    refine g_callP (pc := 40) (vs := [.int (gA σ 10 (v1).toInt)]) K d38_40 (w215 hw) (w216 hw) (w217 hw) (w218 hw) hyC pd_1 rfl rfl (con_M_appendToLog l Z a0 hw n1 a (ctx_le K) hq40) rfl (Nat.le_of_ble_eq_true rfl) (Nat.le_of_ble_eq_true rfl) rfl rfl ?_
    refine g_iloadN (pc := 43) K.1 d38_43 rfl ?_
    refine g_aloadN (pc := 44) K.1 d38_44 rfl ?_
    refine g_getA (pc := 45) K d38_45 (w24 hw) mf_thOwn rfl ?_
    refine g_iloadN (pc := 48) K.1 d38_48 rfl ?_
    obtain ⟨hc49, h⟩ := ifn h
    refine g_iaload (pc := 49) K d38_49 ma_thOwn rfl hc49 ?_
    rcases ifs h with ⟨hc50, h⟩ | ⟨hc50, h⟩
    · refine g_icF (pc := 50) K.1 d38_50 ((teq hc50).2) ?_
      refine g_aloadN (pc := 53) K.1 d38_53 rfl ?_
      refine g_iloadN (pc := 54) K.1 d38_54 rfl ?_
      obtain ⟨q55, hq55, h⟩ := Option.bind_eq_some_iff.mp h
      refine g_callP (pc := 55) (vs := [.int v1]) K d38_55 (w275 hw) (w276 hw) (w277 hw) (w278 hw) hyC pd_1 rfl rfl (con_M_completeOwn l Z a0 hw n1 a (ctx_le K) hq55) rfl (Nat.le_of_ble_eq_true rfl) (Nat.le_of_ble_eq_true rfl) rfl rfl ?_
      refine g_bipush (pc := 58) (v := 8) K.1 d38_58 (by decide) ?_
      cases h; exact g_ireturn K.1 d38_60 (capC K)
    refine g_icT (pc := 50) (pc' := 61) K.1 d38_50 (by decide) ((feq hc50).2) ?_
    refine g_aloadN (pc := 61) K.1 d38_61 rfl ?_
    refine g_getA (pc := 62) K d38_62 (w22 hw) mf_thPhase rfl ?_
    refine g_iloadN (pc := 65) K.1 d38_65 rfl ?_
    refine g_iconst (pc := 66) (v := 2) K.1 d38_66 (by decide) ?_
    obtain ⟨hc67, h⟩ := ifn h
    refine g_iastore (pc := 67) K d38_67 ma_thPhase rfl hc67 ?_
    refine g_bipush (pc := 68) (v := 6) K.1 d38_68 (by decide) ?_
    cases h; exact g_ireturn K.1 d38_70 (capC K)
  refine g_icT (pc := 17) (pc' := 28) K.1 d38_17 (by decide) ((feq hc17).2) ?_
  exact g_less (ok_M_stepCas_b28 K hw  h) (ls (ls (ln l0)))
theorem con_M_stepCas (l : Launch) (Z : State) (a0 : Array Value) (hw : HW a0 Z) (n1 : Nat) (a : Addr) (ha : n1 ≤ a) {NF : Nat} {σ : St} {v1 : Int32} {r : Int32 × St} (h : M_stepCas NF σ v1 = some r) : Con l Z cC cFS cFA 23 n1 a ⟨cC, "stepCas", "(I)I"⟩ c38 3 (some .int) ⟨4, 0, 0, 64⟩ [.ref 0, .int v1] σ (some (.int r.1)) r.2 :=
  con_of_go pnC rfl (layW hw) lgood ha (fun X h1 K => ok_M_stepCas K hw h)
abbrev KM_M_dispatch (X : Cx (St × Nat)) (Z : State) (a0 : Array Value) (l : Launch) (n1 : Nat) (a : Addr) (h0 : Heap) : Prop := CtxC X Z a0 cC cFS cFA 23 27 l n1 a h0 ce0 ⟨5, 0, 0, 78⟩ "dispatch" c21 3 (some .int)
def M_dispatch (NF : Nat) (σ : St) (v1 : Int32) (v2 : Int32) : Option (Int32 × St) :=
  (if v2 = (1 : Int32) then ((M_stepAnnounce σ v1).bind fun q7 => (some (q7.1, q7.2))) else (if v2 = (2 : Int32) then ((M_stepReadTail σ v1).bind fun q18 => (some (q18.1, q18.2))) else (if v2 = (3 : Int32) then ((M_stepReadCell NF σ v1).bind fun q29 => (some (q29.1, q29.2))) else (if v2 = (4 : Int32) then ((M_stepReadAnn σ v1).bind fun q40 => (some (q40.1, q40.2))) else ((M_stepCas NF σ v1).bind fun q46 => (some (q46.1, q46.2)))))))
theorem ok_M_dispatch {X : Cx (St × Nat)} {Z : State} {a0 : Array Value} {l : Launch} {n1 : Nat} {a : Addr} {h0 : Heap} {NF : Nat} (K : KM_M_dispatch X Z a0 l n1 a h0) (hw : HW a0 Z) {σ : St} {v1 : Int32} {v2 : Int32} {r : Int32 × St} (h : M_dispatch NF σ v1 v2 = some r) : Go X (some (.int r.1), (r.2, 23)) 0 [some (.ref 0), some (.int v1), some (.int v2)] [] (σ, 23) := by
  unfold M_dispatch at h
  refine g_iloadN (pc := 0) K.1 d21_0 rfl ?_
  refine g_iconst (pc := 1) (v := 1) K.1 d21_1 (by decide) ?_
  rcases ifs h with ⟨hc2, h⟩ | ⟨hc2, h⟩
  · refine g_icF (pc := 2) K.1 d21_2 ((teq hc2).2) ?_
    refine g_aloadN (pc := 5) K.1 d21_5 rfl ?_
    refine g_iloadN (pc := 6) K.1 d21_6 rfl ?_
    obtain ⟨q7, hq7, h⟩ := Option.bind_eq_some_iff.mp h
    refine g_callP (pc := 7) (vs := [.int v1]) K d21_7 (w142 hw) (w143 hw) (w144 hw) (w145 hw) hyC pd_6 rfl rfl (con_M_stepAnnounce l Z a0 hw n1 a (ctx_le K) hq7) rfl (Nat.le_of_ble_eq_true rfl) (Nat.le_of_ble_eq_true rfl) rfl rfl ?_
    cases h; exact g_ireturn K.1 d21_10 (capC K)
  refine g_icT (pc := 2) (pc' := 11) K.1 d21_2 (by decide) ((feq hc2).2) ?_
  refine g_iloadN (pc := 11) K.1 d21_11 rfl ?_
  refine g_iconst (pc := 12) (v := 2) K.1 d21_12 (by decide) ?_
  rcases ifs h with ⟨hc13, h⟩ | ⟨hc13, h⟩
  · refine g_icF (pc := 13) K.1 d21_13 ((teq hc13).2) ?_
    refine g_aloadN (pc := 16) K.1 d21_16 rfl ?_
    refine g_iloadN (pc := 17) K.1 d21_17 rfl ?_
    obtain ⟨q18, hq18, h⟩ := Option.bind_eq_some_iff.mp h
    refine g_callP (pc := 18) (vs := [.int v1]) K d21_18 (w158 hw) (w159 hw) (w160 hw) (w161 hw) hyC pd_6 rfl rfl (con_M_stepReadTail l Z a0 hw n1 a (ctx_le K) hq18) rfl (Nat.le_of_ble_eq_true rfl) (Nat.le_of_ble_eq_true rfl) rfl rfl ?_
    cases h; exact g_ireturn K.1 d21_21 (capC K)
  refine g_icT (pc := 13) (pc' := 22) K.1 d21_13 (by decide) ((feq hc13).2) ?_
  refine g_iloadN (pc := 22) K.1 d21_22 rfl ?_
  refine g_iconst (pc := 23) (v := 3) K.1 d21_23 (by decide) ?_
  rcases ifs h with ⟨hc24, h⟩ | ⟨hc24, h⟩
  · refine g_icF (pc := 24) K.1 d21_24 ((teq hc24).2) ?_
    refine g_aloadN (pc := 27) K.1 d21_27 rfl ?_
    refine g_iloadN (pc := 28) K.1 d21_28 rfl ?_
    obtain ⟨q29, hq29, h⟩ := Option.bind_eq_some_iff.mp h
    refine g_callP (pc := 29) (vs := [.int v1]) K d21_29 (w162 hw) (w163 hw) (w164 hw) (w165 hw) hyC pd_6 rfl rfl (con_M_stepReadCell l Z a0 hw n1 a (ctx_le K) hq29) rfl (Nat.le_of_ble_eq_true rfl) (Nat.le_of_ble_eq_true rfl) rfl rfl ?_
    cases h; exact g_ireturn K.1 d21_32 (capC K)
  refine g_icT (pc := 24) (pc' := 33) K.1 d21_24 (by decide) ((feq hc24).2) ?_
  refine g_iloadN (pc := 33) K.1 d21_33 rfl ?_
  refine g_iconst (pc := 34) (v := 4) K.1 d21_34 (by decide) ?_
  rcases ifs h with ⟨hc35, h⟩ | ⟨hc35, h⟩
  · refine g_icF (pc := 35) K.1 d21_35 ((teq hc35).2) ?_
    refine g_aloadN (pc := 38) K.1 d21_38 rfl ?_
    refine g_iloadN (pc := 39) K.1 d21_39 rfl ?_
    obtain ⟨q40, hq40, h⟩ := Option.bind_eq_some_iff.mp h
    refine g_callP (pc := 40) (vs := [.int v1]) K d21_40 (w194 hw) (w195 hw) (w196 hw) (w197 hw) hyC pd_6 rfl rfl (con_M_stepReadAnn l Z a0 hw n1 a (ctx_le K) hq40) rfl (Nat.le_of_ble_eq_true rfl) (Nat.le_of_ble_eq_true rfl) rfl rfl ?_
    cases h; exact g_ireturn K.1 d21_43 (capC K)
  refine g_icT (pc := 35) (pc' := 44) K.1 d21_35 (by decide) ((feq hc35).2) ?_
  refine g_aloadN (pc := 44) K.1 d21_44 rfl ?_
  refine g_iloadN (pc := 45) K.1 d21_45 rfl ?_
  obtain ⟨q46, hq46, h⟩ := Option.bind_eq_some_iff.mp h
  refine g_callP (pc := 46) (vs := [.int v1]) K d21_46 (w207 hw) (w208 hw) (w209 hw) (w210 hw) hyC pd_6 rfl rfl (con_M_stepCas l Z a0 hw n1 a (ctx_le K) hq46) rfl (Nat.le_of_ble_eq_true rfl) (Nat.le_of_ble_eq_true rfl) rfl rfl ?_
  cases h; exact g_ireturn K.1 d21_49 (capC K)
theorem con_M_dispatch (l : Launch) (Z : State) (a0 : Array Value) (hw : HW a0 Z) (n1 : Nat) (a : Addr) (ha : n1 ≤ a) {NF : Nat} {σ : St} {v1 : Int32} {v2 : Int32} {r : Int32 × St} (h : M_dispatch NF σ v1 v2 = some r) : Con l Z cC cFS cFA 23 n1 a ⟨cC, "dispatch", "(II)I"⟩ c21 3 (some .int) ⟨5, 0, 0, 78⟩ [.ref 0, .int v1, .int v2] σ (some (.int r.1)) r.2 :=
  con_of_go pnC rfl (layW hw) lgood ha (fun X h1 K => ok_M_dispatch K hw h)
abbrev KM_M_step (X : Cx (St × Nat)) (Z : State) (a0 : Array Value) (l : Launch) (n1 : Nat) (a : Addr) (h0 : Heap) : Prop := CtxC X Z a0 cC cFS cFA 23 27 l n1 a h0 ce0 ⟨6, 0, 0, 92⟩ "step" c20 3 (some .int)
def M_step (NF : Nat) (σ : St) (v1 : Int32) : Option (Int32 × St) :=
  ((M_validThread σ v1).bind fun q2 => (if q2.1 = 0 then (some ((-1 : Int32), q2.2)) else (if 0 ≤ (v1).toInt ∧ (v1).toInt < 6 then (if (gA q2.2 7 (v1).toInt) = 0 then (some ((0 : Int32), q2.2)) else (if 0 ≤ (v1).toInt ∧ (v1).toInt < 6 then (if 0 ≤ (v1).toInt ∧ (v1).toInt < 6 then ((M_dispatch NF (sA q2.2 11 (v1).toInt ((gA q2.2 11 (v1).toInt) + (1 : Int32))) v1 (gA q2.2 7 (v1).toInt)).bind fun q40 => (some (q40.1, q40.2))) else none) else none)) else none)))
theorem ok_M_step {X : Cx (St × Nat)} {Z : State} {a0 : Array Value} {l : Launch} {n1 : Nat} {a : Addr} {h0 : Heap} {NF : Nat} (K : KM_M_step X Z a0 l n1 a h0) (hw : HW a0 Z) {σ : St} {v1 : Int32} {r : Int32 × St} (h : M_step NF σ v1 = some r) : Go X (some (.int r.1), (r.2, 23)) 0 [some (.ref 0), some (.int v1), none] [] (σ, 23) := by
  unfold M_step at h
  refine g_aloadN (pc := 0) K.1 d20_0 rfl ?_
  refine g_iloadN (pc := 1) K.1 d20_1 rfl ?_
  obtain ⟨q2, hq2, h⟩ := Option.bind_eq_some_iff.mp h
  refine g_callP (pc := 2) (vs := [.int v1]) K d20_2 (w113 hw) (w114 hw) (w115 hw) (w116 hw) hyC pd_5 rfl rfl (con_M_validThread l Z a0 hw n1 a (ctx_le K) hq2) rfl (Nat.le_of_ble_eq_true rfl) (Nat.le_of_ble_eq_true rfl) rfl rfl ?_
  rcases ifs h with ⟨hc5, h⟩ | ⟨hc5, h⟩
  · refine g_ifF (pc := 5) K.1 d20_5 ((if0 _ _).trans (teq hc5).2) ?_
    refine g_iconst (pc := 8) (v := -1) K.1 d20_8 (by decide) ?_
    cases h; exact g_ireturn K.1 d20_9 (capC K)
  refine g_ifT (pc := 5) (pc' := 10) K.1 d20_5 (by decide) ((if0 _ _).trans (feq hc5).2) ?_
  refine g_aloadN (pc := 10) K.1 d20_10 rfl ?_
  refine g_getA (pc := 11) K d20_11 (w22 hw) mf_thPhase rfl ?_
  refine g_iloadN (pc := 14) K.1 d20_14 rfl ?_
  obtain ⟨hc15, h⟩ := ifn h
  refine g_iaload (pc := 15) K d20_15 ma_thPhase rfl hc15 ?_
  refine g_istoreN (pc := 16) (L' := [some (.ref 0), some (.int v1), some (.int (gA q2.2 7 (v1).toInt))]) K.1 d20_16 (blt rfl) rfl ?_
  refine g_iloadN (pc := 17) K.1 d20_17 rfl ?_
  rcases ifs h with ⟨hc18, h⟩ | ⟨hc18, h⟩
  · refine g_ifF (pc := 18) K.1 d20_18 ((if0 _ _).trans (teq hc18).2) ?_
    refine g_iconst (pc := 21) (v := 0) K.1 d20_21 (by decide) ?_
    cases h; exact g_ireturn K.1 d20_22 (capC K)
  refine g_ifT (pc := 18) (pc' := 23) K.1 d20_18 (by decide) ((if0 _ _).trans (feq hc18).2) ?_
  refine g_aloadN (pc := 23) K.1 d20_23 rfl ?_
  refine g_getA (pc := 24) K d20_24 (w30 hw) mf_thSteps rfl ?_
  refine g_iloadN (pc := 27) K.1 d20_27 rfl ?_
  refine g_aloadN (pc := 28) K.1 d20_28 rfl ?_
  refine g_getA (pc := 29) K d20_29 (w30 hw) mf_thSteps rfl ?_
  refine g_iloadN (pc := 32) K.1 d20_32 rfl ?_
  obtain ⟨hc33, h⟩ := ifn h
  refine g_iaload (pc := 33) K d20_33 ma_thSteps rfl hc33 ?_
  refine g_iconst (pc := 34) (v := 1) K.1 d20_34 (by decide) ?_
  refine g_iadd (pc := 35) K.1 d20_35 ?_
  obtain ⟨hc36, h⟩ := ifn h
  refine g_iastore (pc := 36) K d20_36 ma_thSteps rfl hc36 ?_
  refine g_aloadN (pc := 37) K.1 d20_37 rfl ?_
  refine g_iloadN (pc := 38) K.1 d20_38 rfl ?_
  refine g_iloadN (pc := 39) K.1 d20_39 rfl ?_
  obtain ⟨q40, hq40, h⟩ := Option.bind_eq_some_iff.mp h
  refine g_callP (pc := 40) (vs := [.int v1, .int (gA q2.2 7 (v1).toInt)]) K d20_40 (w138 hw) (w139 hw) (w140 hw) (w141 hw) hyC pd_7 rfl rfl (con_M_dispatch l Z a0 hw n1 a (ctx_le K) hq40) rfl (Nat.le_of_ble_eq_true rfl) (Nat.le_of_ble_eq_true rfl) rfl rfl ?_
  cases h; exact g_ireturn K.1 d20_43 (capC K)
theorem con_M_step (l : Launch) (Z : State) (a0 : Array Value) (hw : HW a0 Z) (n1 : Nat) (a : Addr) (ha : n1 ≤ a) {NF : Nat} {σ : St} {v1 : Int32} {r : Int32 × St} (h : M_step NF σ v1 = some r) : Con l Z cC cFS cFA 23 n1 a ⟨cC, "step", "(I)I"⟩ c20 3 (some .int) ⟨6, 0, 0, 92⟩ [.ref 0, .int v1] σ (some (.int r.1)) r.2 :=
  con_of_go pnC rfl (layW hw) lgood ha (fun X h1 K => ok_M_step K hw h)
abbrev KM_M_chosenId (X : Cx (St × Nat)) (Z : State) (a0 : Array Value) (l : Launch) (n1 : Nat) (a : Addr) (h0 : Heap) : Prop := CtxC X Z a0 cC cFS cFA 23 27 l n1 a h0 ce0 ⟨1, 0, 0, 13⟩ "chosenId" c48 2 (some .int)
def M_chosenId (σ : St) (v1 : Int32) : Option (Int32 × St) :=
  ((M_validThread σ v1).bind fun q2 => (if q2.1 = 0 then (some ((0 : Int32), q2.2)) else (if 0 ≤ (v1).toInt ∧ (v1).toInt < 6 then (if (gA q2.2 7 (v1).toInt) = (5 : Int32) then (if 0 ≤ (v1).toInt ∧ (v1).toInt < 6 then (some ((gA q2.2 10 (v1).toInt), q2.2)) else none) else (some ((0 : Int32), q2.2))) else none)))
theorem ok_M_chosenId {X : Cx (St × Nat)} {Z : State} {a0 : Array Value} {l : Launch} {n1 : Nat} {a : Addr} {h0 : Heap} (K : KM_M_chosenId X Z a0 l n1 a h0) (hw : HW a0 Z) {σ : St} {v1 : Int32} {r : Int32 × St} (h : M_chosenId σ v1 = some r) : Go X (some (.int r.1), (r.2, 23)) 0 [some (.ref 0), some (.int v1)] [] (σ, 23) := by
  unfold M_chosenId at h
  refine g_aloadN (pc := 0) K.1 d48_0 rfl ?_
  refine g_iloadN (pc := 1) K.1 d48_1 rfl ?_
  obtain ⟨q2, hq2, h⟩ := Option.bind_eq_some_iff.mp h
  refine g_callP (pc := 2) (vs := [.int v1]) K d48_2 (w113 hw) (w114 hw) (w115 hw) (w116 hw) hyC pd_5 rfl rfl (con_M_validThread l Z a0 hw n1 a (ctx_le K) hq2) rfl (Nat.le_of_ble_eq_true rfl) (Nat.le_of_ble_eq_true rfl) rfl rfl ?_
  rcases ifs h with ⟨hc5, h⟩ | ⟨hc5, h⟩
  · refine g_ifF (pc := 5) K.1 d48_5 ((if0 _ _).trans (teq hc5).2) ?_
    refine g_iconst (pc := 8) (v := 0) K.1 d48_8 (by decide) ?_
    cases h; exact g_ireturn K.1 d48_9 (capC K)
  refine g_ifT (pc := 5) (pc' := 10) K.1 d48_5 (by decide) ((if0 _ _).trans (feq hc5).2) ?_
  refine g_aloadN (pc := 10) K.1 d48_10 rfl ?_
  refine g_getA (pc := 11) K d48_11 (w22 hw) mf_thPhase rfl ?_
  refine g_iloadN (pc := 14) K.1 d48_14 rfl ?_
  obtain ⟨hc15, h⟩ := ifn h
  refine g_iaload (pc := 15) K d48_15 ma_thPhase rfl hc15 ?_
  refine g_iconst (pc := 16) (v := 5) K.1 d48_16 (by decide) ?_
  rcases ifs h with ⟨hc17, h⟩ | ⟨hc17, h⟩
  · refine g_icT (pc := 17) (pc' := 22) K.1 d48_17 (by decide) ((teq hc17).1) ?_
    refine g_aloadN (pc := 22) K.1 d48_22 rfl ?_
    refine g_getA (pc := 23) K d48_23 (w28 hw) mf_thC rfl ?_
    refine g_iloadN (pc := 26) K.1 d48_26 rfl ?_
    obtain ⟨hc27, h⟩ := ifn h
    refine g_iaload (pc := 27) K d48_27 ma_thC rfl hc27 ?_
    cases h; exact g_ireturn K.1 d48_28 (capC K)
  refine g_icF (pc := 17) K.1 d48_17 ((feq hc17).1) ?_
  refine g_iconst (pc := 20) (v := 0) K.1 d48_20 (by decide) ?_
  cases h; exact g_ireturn K.1 d48_21 (capC K)
theorem con_M_chosenId (l : Launch) (Z : State) (a0 : Array Value) (hw : HW a0 Z) (n1 : Nat) (a : Addr) (ha : n1 ≤ a) {σ : St} {v1 : Int32} {r : Int32 × St} (h : M_chosenId σ v1 = some r) : Con l Z cC cFS cFA 23 n1 a ⟨cC, "chosenId", "(I)I"⟩ c48 2 (some .int) ⟨1, 0, 0, 13⟩ [.ref 0, .int v1] σ (some (.int r.1)) r.2 :=
  con_of_go pnC rfl (layW hw) lgood ha (fun X h1 K => ok_M_chosenId K hw h)
abbrev KM_M_statusOf (X : Cx (St × Nat)) (Z : State) (a0 : Array Value) (l : Launch) (n1 : Nat) (a : Addr) (h0 : Heap) : Prop := CtxC X Z a0 cC cFS cFA 23 27 l n1 a h0 ce0 ⟨1, 0, 0, 13⟩ "statusOf" c49 2 (some .int)
def M_statusOf (σ : St) (v1 : Int32) : Option (Int32 × St) :=
  ((M_isId σ v1).bind fun q2 => (if q2.1 = 0 then (some ((0 : Int32), q2.2)) else (if 0 ≤ (v1).toInt ∧ (v1).toInt < 241 then (some ((gA q2.2 4 (v1).toInt), q2.2)) else none)))
theorem ok_M_statusOf {X : Cx (St × Nat)} {Z : State} {a0 : Array Value} {l : Launch} {n1 : Nat} {a : Addr} {h0 : Heap} (K : KM_M_statusOf X Z a0 l n1 a h0) (hw : HW a0 Z) {σ : St} {v1 : Int32} {r : Int32 × St} (h : M_statusOf σ v1 = some r) : Go X (some (.int r.1), (r.2, 23)) 0 [some (.ref 0), some (.int v1)] [] (σ, 23) := by
  unfold M_statusOf at h
  refine g_aloadN (pc := 0) K.1 d49_0 rfl ?_
  refine g_iloadN (pc := 1) K.1 d49_1 rfl ?_
  obtain ⟨q2, hq2, h⟩ := Option.bind_eq_some_iff.mp h
  refine g_callP (pc := 2) (vs := [.int v1]) K d49_2 (w150 hw) (w151 hw) (w152 hw) (w153 hw) hyC pd_5 rfl rfl (con_M_isId l Z a0 hw n1 a (ctx_le K) hq2) rfl (Nat.le_of_ble_eq_true rfl) (Nat.le_of_ble_eq_true rfl) rfl rfl ?_
  rcases ifs h with ⟨hc5, h⟩ | ⟨hc5, h⟩
  · refine g_ifF (pc := 5) K.1 d49_5 ((if0 _ _).trans (teq hc5).2) ?_
    refine g_iconst (pc := 8) (v := 0) K.1 d49_8 (by decide) ?_
    cases h; exact g_ireturn K.1 d49_9 (capC K)
  refine g_ifT (pc := 5) (pc' := 10) K.1 d49_5 (by decide) ((if0 _ _).trans (feq hc5).2) ?_
  refine g_aloadN (pc := 10) K.1 d49_10 rfl ?_
  refine g_getA (pc := 11) K d49_11 (w16 hw) mf_opStatus rfl ?_
  refine g_iloadN (pc := 14) K.1 d49_14 rfl ?_
  obtain ⟨hc15, h⟩ := ifn h
  refine g_iaload (pc := 15) K d49_15 ma_opStatus rfl hc15 ?_
  cases h; exact g_ireturn K.1 d49_16 (capC K)
theorem con_M_statusOf (l : Launch) (Z : State) (a0 : Array Value) (hw : HW a0 Z) (n1 : Nat) (a : Addr) (ha : n1 ≤ a) {σ : St} {v1 : Int32} {r : Int32 × St} (h : M_statusOf σ v1 = some r) : Con l Z cC cFS cFA 23 n1 a ⟨cC, "statusOf", "(I)I"⟩ c49 2 (some .int) ⟨1, 0, 0, 13⟩ [.ref 0, .int v1] σ (some (.int r.1)) r.2 :=
  con_of_go pnC rfl (layW hw) lgood ha (fun X h1 K => ok_M_statusOf K hw h)
abbrev KM_M_isHeld (X : Cx (St × Nat)) (Z : State) (a0 : Array Value) (l : Launch) (n1 : Nat) (a : Addr) (h0 : Heap) : Prop := CtxC X Z a0 cC cFS cFA 23 27 l n1 a h0 ce0 ⟨0, 0, 0, 0⟩ "isHeld" c51 3 (some .boolean)
def M_isHeld_b17  (σ : St) : Option (Int32 × St) :=
  (some ((1 : Int32), σ))
theorem ok_M_isHeld_b17 {X : Cx (St × Nat)} {Z : State} {a0 : Array Value} {l : Launch} {n1 : Nat} {a : Addr} {h0 : Heap} (K : KM_M_isHeld X Z a0 l n1 a h0) (hw : HW a0 Z)  {σ : St} {r : Int32 × St}  (h : M_isHeld_b17  σ = some r) : Go X (some (.int r.1), (r.2, 23)) 17 [none, none, none] [] (σ, 23) := by
  unfold M_isHeld_b17 at h
  refine g_iconst (pc := 17) (v := 1) K.1 d51_17 (by decide) ?_
  refine g_goto (pc := 18) (pc' := 22) K.1 d51_18 (by decide) ?_
  cases h; exact g_ireturnN (t := .boolean) K.1 rfl (Or.inl rfl) d51_22 rfl (capC K)
def M_isHeld (σ : St) (v1 : Int32) : Option (Int32 × St) :=
  (if 0 ≤ (v1).toInt ∧ (v1).toInt < 241 then (if (gA σ 4 (v1).toInt) = (2 : Int32) then M_isHeld_b17 σ else (if (gA σ 4 (v1).toInt) = (3 : Int32) then M_isHeld_b17 σ else (some ((0 : Int32), σ)))) else none)
theorem ok_M_isHeld {X : Cx (St × Nat)} {Z : State} {a0 : Array Value} {l : Launch} {n1 : Nat} {a : Addr} {h0 : Heap} (K : KM_M_isHeld X Z a0 l n1 a h0) (hw : HW a0 Z) {σ : St} {v1 : Int32} {r : Int32 × St} (h : M_isHeld σ v1 = some r) : Go X (some (.int r.1), (r.2, 23)) 0 [some (.ref 0), some (.int v1), none] [] (σ, 23) := by
  unfold M_isHeld at h
  refine g_aloadN (pc := 0) K.1 d51_0 rfl ?_
  refine g_getA (pc := 1) K d51_1 (w16 hw) mf_opStatus rfl ?_
  refine g_iloadN (pc := 4) K.1 d51_4 rfl ?_
  obtain ⟨hc5, h⟩ := ifn h
  refine g_iaload (pc := 5) K d51_5 ma_opStatus rfl hc5 ?_
  refine g_istoreN (pc := 6) (L' := [some (.ref 0), some (.int v1), some (.int (gA σ 4 (v1).toInt))]) K.1 d51_6 (blt rfl) rfl ?_
  refine g_iloadN (pc := 7) K.1 d51_7 rfl ?_
  refine g_iconst (pc := 8) (v := 2) K.1 d51_8 (by decide) ?_
  rcases ifs h with ⟨hc9, h⟩ | ⟨hc9, h⟩
  · refine g_icT (pc := 9) (pc' := 17) K.1 d51_9 (by decide) ((teq hc9).1) ?_
    exact g_less (ok_M_isHeld_b17 K hw  h) (ln (ln (ln l0)))
  refine g_icF (pc := 9) K.1 d51_9 ((feq hc9).1) ?_
  refine g_iloadN (pc := 12) K.1 d51_12 rfl ?_
  refine g_iconst (pc := 13) (v := 3) K.1 d51_13 (by decide) ?_
  rcases ifs h with ⟨hc14, h⟩ | ⟨hc14, h⟩
  · refine g_icF (pc := 14) K.1 d51_14 ((teq hc14).2) ?_
    exact g_less (ok_M_isHeld_b17 K hw  h) (ln (ln (ln l0)))
  refine g_icT (pc := 14) (pc' := 21) K.1 d51_14 (by decide) ((feq hc14).2) ?_
  refine g_iconst (pc := 21) (v := 0) K.1 d51_21 (by decide) ?_
  cases h; exact g_ireturnN (t := .boolean) K.1 rfl (Or.inl rfl) d51_22 rfl (capC K)
theorem con_M_isHeld (l : Launch) (Z : State) (a0 : Array Value) (hw : HW a0 Z) (n1 : Nat) (a : Addr) (ha : n1 ≤ a) {σ : St} {v1 : Int32} {r : Int32 × St} (h : M_isHeld σ v1 = some r) : Con l Z cC cFS cFA 23 n1 a ⟨cC, "isHeld", "(I)Z"⟩ c51 3 (some .boolean) ⟨0, 0, 0, 0⟩ [.ref 0, .int v1] σ (some (.int r.1)) r.2 :=
  con_of_go pnC rfl (layW hw) lgood ha (fun X h1 K => ok_M_isHeld K hw h)
abbrev KM_M_responseOf (X : Cx (St × Nat)) (Z : State) (a0 : Array Value) (l : Launch) (n1 : Nat) (a : Addr) (h0 : Heap) : Prop := CtxC X Z a0 cC cFS cFA 23 27 l n1 a h0 ce0 ⟨1, 0, 0, 14⟩ "responseOf" c50 2 (some .int)
def M_responseOf (σ : St) (v1 : Int32) : Option (Int32 × St) :=
  ((M_isId σ v1).bind fun q2 => (if q2.1 = 0 then (some ((0 : Int32), q2.2)) else ((M_isHeld q2.2 v1).bind fun q12 => (if q12.1 = 0 then (some ((0 : Int32), q12.2)) else (if 0 ≤ (v1).toInt ∧ (v1).toInt < 241 then (some ((gA q12.2 5 (v1).toInt), q12.2)) else none)))))
theorem ok_M_responseOf {X : Cx (St × Nat)} {Z : State} {a0 : Array Value} {l : Launch} {n1 : Nat} {a : Addr} {h0 : Heap} (K : KM_M_responseOf X Z a0 l n1 a h0) (hw : HW a0 Z) {σ : St} {v1 : Int32} {r : Int32 × St} (h : M_responseOf σ v1 = some r) : Go X (some (.int r.1), (r.2, 23)) 0 [some (.ref 0), some (.int v1)] [] (σ, 23) := by
  unfold M_responseOf at h
  refine g_aloadN (pc := 0) K.1 d50_0 rfl ?_
  refine g_iloadN (pc := 1) K.1 d50_1 rfl ?_
  obtain ⟨q2, hq2, h⟩ := Option.bind_eq_some_iff.mp h
  refine g_callP (pc := 2) (vs := [.int v1]) K d50_2 (w150 hw) (w151 hw) (w152 hw) (w153 hw) hyC pd_5 rfl rfl (con_M_isId l Z a0 hw n1 a (ctx_le K) hq2) rfl (Nat.le_of_ble_eq_true rfl) (Nat.le_of_ble_eq_true rfl) rfl rfl ?_
  rcases ifs h with ⟨hc5, h⟩ | ⟨hc5, h⟩
  · refine g_ifF (pc := 5) K.1 d50_5 ((if0 _ _).trans (teq hc5).2) ?_
    refine g_iconst (pc := 8) (v := 0) K.1 d50_8 (by decide) ?_
    cases h; exact g_ireturn K.1 d50_9 (capC K)
  refine g_ifT (pc := 5) (pc' := 10) K.1 d50_5 (by decide) ((if0 _ _).trans (feq hc5).2) ?_
  refine g_aloadN (pc := 10) K.1 d50_10 rfl ?_
  refine g_iloadN (pc := 11) K.1 d50_11 rfl ?_
  obtain ⟨q12, hq12, h⟩ := Option.bind_eq_some_iff.mp h
  refine g_callP (pc := 12) (vs := [.int v1]) K d50_12 (w253 hw) (w254 hw) (w255 hw) (w256 hw) hyC pd_5 rfl rfl (con_M_isHeld l Z a0 hw n1 a (ctx_le K) hq12) rfl (Nat.le_of_ble_eq_true rfl) (Nat.le_of_ble_eq_true rfl) rfl rfl ?_
  rcases ifs h with ⟨hc15, h⟩ | ⟨hc15, h⟩
  · refine g_ifF (pc := 15) K.1 d50_15 ((if0 _ _).trans (teq hc15).2) ?_
    refine g_iconst (pc := 18) (v := 0) K.1 d50_18 (by decide) ?_
    cases h; exact g_ireturn K.1 d50_19 (capC K)
  refine g_ifT (pc := 15) (pc' := 20) K.1 d50_15 (by decide) ((if0 _ _).trans (feq hc15).2) ?_
  refine g_aloadN (pc := 20) K.1 d50_20 rfl ?_
  refine g_getA (pc := 21) K d50_21 (w18 hw) mf_opResp rfl ?_
  refine g_iloadN (pc := 24) K.1 d50_24 rfl ?_
  obtain ⟨hc25, h⟩ := ifn h
  refine g_iaload (pc := 25) K d50_25 ma_opResp rfl hc25 ?_
  cases h; exact g_ireturn K.1 d50_26 (capC K)
theorem con_M_responseOf (l : Launch) (Z : State) (a0 : Array Value) (hw : HW a0 Z) (n1 : Nat) (a : Addr) (ha : n1 ≤ a) {σ : St} {v1 : Int32} {r : Int32 × St} (h : M_responseOf σ v1 = some r) : Con l Z cC cFS cFA 23 n1 a ⟨cC, "responseOf", "(I)I"⟩ c50 2 (some .int) ⟨1, 0, 0, 14⟩ [.ref 0, .int v1] σ (some (.int r.1)) r.2 :=
  con_of_go pnC rfl (layW hw) lgood ha (fun X h1 K => ok_M_responseOf K hw h)
abbrev KM_M_currentCell (X : Cx (St × Nat)) (Z : State) (a0 : Array Value) (l : Launch) (n1 : Nat) (a : Addr) (h0 : Heap) : Prop := CtxC X Z a0 cC cFS cFA 23 27 l n1 a h0 ce0 ⟨1, 0, 0, 13⟩ "currentCell" c53 1 (some .int)
def M_currentCell (σ : St) : Option (Int32 × St) :=
  ((M_cellOf σ (gI σ 153)).bind fun q5 => (some (q5.1, q5.2)))
theorem ok_M_currentCell {X : Cx (St × Nat)} {Z : State} {a0 : Array Value} {l : Launch} {n1 : Nat} {a : Addr} {h0 : Heap} (K : KM_M_currentCell X Z a0 l n1 a h0) (hw : HW a0 Z) {σ : St} {r : Int32 × St} (h : M_currentCell σ = some r) : Go X (some (.int r.1), (r.2, 23)) 0 [some (.ref 0)] [] (σ, 23) := by
  unfold M_currentCell at h
  refine g_aloadN (pc := 0) K.1 d53_0 rfl ?_
  refine g_aloadN (pc := 1) K.1 d53_1 rfl ?_
  refine g_getI (pc := 2) K d53_2 (w66 hw) mf_tailValue ?_
  obtain ⟨q5, hq5, h⟩ := Option.bind_eq_some_iff.mp h
  refine g_callP (pc := 5) (vs := [.int (gI σ 153)]) K d53_5 (w174 hw) (w175 hw) (w176 hw) (w177 hw) hyC pd_6 rfl rfl (con_M_cellOf l Z a0 hw n1 a (ctx_le K) hq5) rfl (Nat.le_of_ble_eq_true rfl) (Nat.le_of_ble_eq_true rfl) rfl rfl ?_
  cases h; exact g_ireturn K.1 d53_8 (capC K)
theorem con_M_currentCell (l : Launch) (Z : State) (a0 : Array Value) (hw : HW a0 Z) (n1 : Nat) (a : Addr) (ha : n1 ≤ a) {σ : St} {r : Int32 × St} (h : M_currentCell σ = some r) : Con l Z cC cFS cFA 23 n1 a ⟨cC, "currentCell", "()I"⟩ c53 1 (some .int) ⟨1, 0, 0, 13⟩ [.ref 0] σ (some (.int r.1)) r.2 :=
  con_of_go pnC rfl (layW hw) lgood ha (fun X h1 K => ok_M_currentCell K hw h)
abbrev KM_M_queueLength (X : Cx (St × Nat)) (Z : State) (a0 : Array Value) (l : Launch) (n1 : Nat) (a : Addr) (h0 : Heap) : Prop := CtxC X Z a0 cC cFS cFA 23 27 l n1 a h0 ce0 ⟨2, 0, 0, 26⟩ "queueLength" c52 1 (some .int)
def M_queueLength (σ : St) : Option (Int32 × St) :=
  ((M_currentCell σ).bind fun q5 => (if 0 ≤ (q5.1).toInt ∧ (q5.1).toInt < 8 then (some ((gA q5.2 21 (q5.1).toInt), q5.2)) else none))
theorem ok_M_queueLength {X : Cx (St × Nat)} {Z : State} {a0 : Array Value} {l : Launch} {n1 : Nat} {a : Addr} {h0 : Heap} (K : KM_M_queueLength X Z a0 l n1 a h0) (hw : HW a0 Z) {σ : St} {r : Int32 × St} (h : M_queueLength σ = some r) : Go X (some (.int r.1), (r.2, 23)) 0 [some (.ref 0)] [] (σ, 23) := by
  unfold M_queueLength at h
  refine g_aloadN (pc := 0) K.1 d52_0 rfl ?_
  refine g_getA (pc := 1) K d52_1 (w50 hw) mf_cellQLen rfl ?_
  refine g_aloadN (pc := 4) K.1 d52_4 rfl ?_
  obtain ⟨q5, hq5, h⟩ := Option.bind_eq_some_iff.mp h
  refine g_callP (pc := 5) (vs := []) K d52_5 (w262 hw) (w263 hw) (w264 hw) (w265 hw) hyC pd_9 rfl rfl (con_M_currentCell l Z a0 hw n1 a (ctx_le K) hq5) rfl (Nat.le_of_ble_eq_true rfl) (Nat.le_of_ble_eq_true rfl) rfl rfl ?_
  obtain ⟨hc8, h⟩ := ifn h
  refine g_iaload (pc := 8) K d52_8 ma_cellQLen rfl hc8 ?_
  cases h; exact g_ireturn K.1 d52_9 (capC K)
theorem con_M_queueLength (l : Launch) (Z : State) (a0 : Array Value) (hw : HW a0 Z) (n1 : Nat) (a : Addr) (ha : n1 ≤ a) {σ : St} {r : Int32 × St} (h : M_queueLength σ = some r) : Con l Z cC cFS cFA 23 n1 a ⟨cC, "queueLength", "()I"⟩ c52 1 (some .int) ⟨2, 0, 0, 26⟩ [.ref 0] σ (some (.int r.1)) r.2 :=
  con_of_go pnC rfl (layW hw) lgood ha (fun X h1 K => ok_M_queueLength K hw h)
abbrev KM_M_queueAt (X : Cx (St × Nat)) (Z : State) (a0 : Array Value) (l : Launch) (n1 : Nat) (a : Addr) (h0 : Heap) : Prop := CtxC X Z a0 cC cFS cFA 23 27 l n1 a h0 ce0 ⟨2, 0, 0, 25⟩ "queueAt" c54 4 (some .int)
def M_queueAt (σ : St) (v1 : Int32) : Option (Int32 × St) :=
  ((M_currentCell σ).bind fun q1 => (if 0 ≤ (q1.1).toInt ∧ (q1.1).toInt < 8 then (if v1 < 0 then (some ((-1 : Int32), q1.2)) else (if v1 < (gA q1.2 21 (q1.1).toInt) then ((M_readQueueSlot q1.2 q1.1 v1).bind fun q26 => (some (q26.1, q26.2))) else (some ((-1 : Int32), q1.2)))) else none))
theorem ok_M_queueAt {X : Cx (St × Nat)} {Z : State} {a0 : Array Value} {l : Launch} {n1 : Nat} {a : Addr} {h0 : Heap} (K : KM_M_queueAt X Z a0 l n1 a h0) (hw : HW a0 Z) {σ : St} {v1 : Int32} {r : Int32 × St} (h : M_queueAt σ v1 = some r) : Go X (some (.int r.1), (r.2, 23)) 0 [some (.ref 0), some (.int v1), none, none] [] (σ, 23) := by
  unfold M_queueAt at h
  refine g_aloadN (pc := 0) K.1 d54_0 rfl ?_
  obtain ⟨q1, hq1, h⟩ := Option.bind_eq_some_iff.mp h
  refine g_callP (pc := 1) (vs := []) K d54_1 (w262 hw) (w263 hw) (w264 hw) (w265 hw) hyC pd_9 rfl rfl (con_M_currentCell l Z a0 hw n1 a (ctx_le K) hq1) rfl (Nat.le_of_ble_eq_true rfl) (Nat.le_of_ble_eq_true rfl) rfl rfl ?_
  refine g_istoreN (pc := 4) (L' := [some (.ref 0), some (.int v1), some (.int q1.1), none]) K.1 d54_4 (blt rfl) rfl ?_
  refine g_aloadN (pc := 5) K.1 d54_5 rfl ?_
  refine g_getA (pc := 6) K d54_6 (w50 hw) mf_cellQLen rfl ?_
  refine g_iloadN (pc := 9) K.1 d54_9 rfl ?_
  obtain ⟨hc10, h⟩ := ifn h
  refine g_iaload (pc := 10) K d54_10 ma_cellQLen rfl hc10 ?_
  refine g_istoreN (pc := 11) (L' := [some (.ref 0), some (.int v1), some (.int q1.1), some (.int (gA q1.2 21 (q1.1).toInt))]) K.1 d54_11 (blt rfl) rfl ?_
  refine g_iloadN (pc := 12) K.1 d54_12 rfl ?_
  rcases ifs h with ⟨hc13, h⟩ | ⟨hc13, h⟩
  · refine g_ifT (pc := 13) (pc' := 21) K.1 d54_13 (by decide) ((if0 _ _).trans (tlt hc13).1) ?_
    refine g_iconst (pc := 21) (v := -1) K.1 d54_21 (by decide) ?_
    cases h; exact g_ireturn K.1 d54_22 (capC K)
  refine g_ifF (pc := 13) K.1 d54_13 ((if0 _ _).trans (flt hc13).1) ?_
  refine g_iloadN (pc := 16) K.1 d54_16 rfl ?_
  refine g_iloadN (pc := 17) K.1 d54_17 rfl ?_
  rcases ifs h with ⟨hc18, h⟩ | ⟨hc18, h⟩
  · refine g_icT (pc := 18) (pc' := 23) K.1 d54_18 (by decide) ((tlt hc18).1) ?_
    refine g_aloadN (pc := 23) K.1 d54_23 rfl ?_
    refine g_iloadN (pc := 24) K.1 d54_24 rfl ?_
    refine g_iloadN (pc := 25) K.1 d54_25 rfl ?_
    obtain ⟨q26, hq26, h⟩ := Option.bind_eq_some_iff.mp h
    refine g_callP (pc := 26) (vs := [.int q1.1, .int v1]) K d54_26 (w227 hw) (w228 hw) (w229 hw) (w230 hw) hyC pd_7 rfl rfl (con_M_readQueueSlot l Z a0 hw n1 a (ctx_le K) hq26) rfl (Nat.le_of_ble_eq_true rfl) (Nat.le_of_ble_eq_true rfl) rfl rfl ?_
    cases h; exact g_ireturn K.1 d54_29 (capC K)
  refine g_icF (pc := 18) K.1 d54_18 ((flt hc18).1) ?_
  refine g_iconst (pc := 21) (v := -1) K.1 d54_21 (by decide) ?_
  cases h; exact g_ireturn K.1 d54_22 (capC K)
theorem con_M_queueAt (l : Launch) (Z : State) (a0 : Array Value) (hw : HW a0 Z) (n1 : Nat) (a : Addr) (ha : n1 ≤ a) {σ : St} {v1 : Int32} {r : Int32 × St} (h : M_queueAt σ v1 = some r) : Con l Z cC cFS cFA 23 n1 a ⟨cC, "queueAt", "(I)I"⟩ c54 4 (some .int) ⟨2, 0, 0, 25⟩ [.ref 0, .int v1] σ (some (.int r.1)) r.2 :=
  con_of_go pnC rfl (layW hw) lgood ha (fun X h1 K => ok_M_queueAt K hw h)
abbrev KM_M_positionOf (X : Cx (St × Nat)) (Z : State) (a0 : Array Value) (l : Launch) (n1 : Nat) (a : Addr) (h0 : Heap) : Prop := CtxC X Z a0 cC cFS cFA 23 27 l n1 a h0 ce0 ⟨1, 0, 0, 14⟩ "positionOf" c55 2 (some .int)
def M_positionOf (σ : St) (v1 : Int32) : Option (Int32 × St) :=
  ((M_isId σ v1).bind fun q2 => (if q2.1 = 0 then (some ((-1 : Int32), q2.2)) else ((M_isHeld q2.2 v1).bind fun q12 => (if q12.1 = 0 then (some ((0 : Int32), q12.2)) else (if 0 ≤ (v1).toInt ∧ (v1).toInt < 241 then (some ((gA q12.2 6 (v1).toInt), q12.2)) else none)))))
theorem ok_M_positionOf {X : Cx (St × Nat)} {Z : State} {a0 : Array Value} {l : Launch} {n1 : Nat} {a : Addr} {h0 : Heap} (K : KM_M_positionOf X Z a0 l n1 a h0) (hw : HW a0 Z) {σ : St} {v1 : Int32} {r : Int32 × St} (h : M_positionOf σ v1 = some r) : Go X (some (.int r.1), (r.2, 23)) 0 [some (.ref 0), some (.int v1)] [] (σ, 23) := by
  unfold M_positionOf at h
  refine g_aloadN (pc := 0) K.1 d55_0 rfl ?_
  refine g_iloadN (pc := 1) K.1 d55_1 rfl ?_
  obtain ⟨q2, hq2, h⟩ := Option.bind_eq_some_iff.mp h
  refine g_callP (pc := 2) (vs := [.int v1]) K d55_2 (w150 hw) (w151 hw) (w152 hw) (w153 hw) hyC pd_5 rfl rfl (con_M_isId l Z a0 hw n1 a (ctx_le K) hq2) rfl (Nat.le_of_ble_eq_true rfl) (Nat.le_of_ble_eq_true rfl) rfl rfl ?_
  rcases ifs h with ⟨hc5, h⟩ | ⟨hc5, h⟩
  · refine g_ifF (pc := 5) K.1 d55_5 ((if0 _ _).trans (teq hc5).2) ?_
    refine g_iconst (pc := 8) (v := -1) K.1 d55_8 (by decide) ?_
    cases h; exact g_ireturn K.1 d55_9 (capC K)
  refine g_ifT (pc := 5) (pc' := 10) K.1 d55_5 (by decide) ((if0 _ _).trans (feq hc5).2) ?_
  refine g_aloadN (pc := 10) K.1 d55_10 rfl ?_
  refine g_iloadN (pc := 11) K.1 d55_11 rfl ?_
  obtain ⟨q12, hq12, h⟩ := Option.bind_eq_some_iff.mp h
  refine g_callP (pc := 12) (vs := [.int v1]) K d55_12 (w253 hw) (w254 hw) (w255 hw) (w256 hw) hyC pd_5 rfl rfl (con_M_isHeld l Z a0 hw n1 a (ctx_le K) hq12) rfl (Nat.le_of_ble_eq_true rfl) (Nat.le_of_ble_eq_true rfl) rfl rfl ?_
  rcases ifs h with ⟨hc15, h⟩ | ⟨hc15, h⟩
  · refine g_ifF (pc := 15) K.1 d55_15 ((if0 _ _).trans (teq hc15).2) ?_
    refine g_iconst (pc := 18) (v := 0) K.1 d55_18 (by decide) ?_
    cases h; exact g_ireturn K.1 d55_19 (capC K)
  refine g_ifT (pc := 15) (pc' := 20) K.1 d55_15 (by decide) ((if0 _ _).trans (feq hc15).2) ?_
  refine g_aloadN (pc := 20) K.1 d55_20 rfl ?_
  refine g_getA (pc := 21) K d55_21 (w20 hw) mf_opPos rfl ?_
  refine g_iloadN (pc := 24) K.1 d55_24 rfl ?_
  obtain ⟨hc25, h⟩ := ifn h
  refine g_iaload (pc := 25) K d55_25 ma_opPos rfl hc25 ?_
  cases h; exact g_ireturn K.1 d55_26 (capC K)
theorem con_M_positionOf (l : Launch) (Z : State) (a0 : Array Value) (hw : HW a0 Z) (n1 : Nat) (a : Addr) (ha : n1 ≤ a) {σ : St} {v1 : Int32} {r : Int32 × St} (h : M_positionOf σ v1 = some r) : Con l Z cC cFS cFA 23 n1 a ⟨cC, "positionOf", "(I)I"⟩ c55 2 (some .int) ⟨1, 0, 0, 14⟩ [.ref 0, .int v1] σ (some (.int r.1)) r.2 :=
  con_of_go pnC rfl (layW hw) lgood ha (fun X h1 K => ok_M_positionOf K hw h)
abbrev KM_M_tail (X : Cx (St × Nat)) (Z : State) (a0 : Array Value) (l : Launch) (n1 : Nat) (a : Addr) (h0 : Heap) : Prop := CtxC X Z a0 cC cFS cFA 23 27 l n1 a h0 ce0 ⟨0, 0, 0, 0⟩ "tail" c56 1 (some .int)
def M_tail (σ : St) : Option (Int32 × St) :=
  (some ((gI σ 153), σ))
theorem ok_M_tail {X : Cx (St × Nat)} {Z : State} {a0 : Array Value} {l : Launch} {n1 : Nat} {a : Addr} {h0 : Heap} (K : KM_M_tail X Z a0 l n1 a h0) (hw : HW a0 Z) {σ : St} {r : Int32 × St} (h : M_tail σ = some r) : Go X (some (.int r.1), (r.2, 23)) 0 [some (.ref 0)] [] (σ, 23) := by
  unfold M_tail at h
  refine g_aloadN (pc := 0) K.1 d56_0 rfl ?_
  refine g_getI (pc := 1) K d56_1 (w66 hw) mf_tailValue ?_
  cases h; exact g_ireturn K.1 d56_4 (capC K)
theorem con_M_tail (l : Launch) (Z : State) (a0 : Array Value) (hw : HW a0 Z) (n1 : Nat) (a : Addr) (ha : n1 ≤ a) {σ : St} {r : Int32 × St} (h : M_tail σ = some r) : Con l Z cC cFS cFA 23 n1 a ⟨cC, "tail", "()I"⟩ c56 1 (some .int) ⟨0, 0, 0, 0⟩ [.ref 0] σ (some (.int r.1)) r.2 :=
  con_of_go pnC rfl (layW hw) lgood ha (fun X h1 K => ok_M_tail K hw h)
abbrev KM_M_ownSteps (X : Cx (St × Nat)) (Z : State) (a0 : Array Value) (l : Launch) (n1 : Nat) (a : Addr) (h0 : Heap) : Prop := CtxC X Z a0 cC cFS cFA 23 27 l n1 a h0 ce0 ⟨1, 0, 0, 13⟩ "ownSteps" c57 2 (some .int)
def M_ownSteps (σ : St) (v1 : Int32) : Option (Int32 × St) :=
  ((M_validThread σ v1).bind fun q2 => (if q2.1 = 0 then (some ((-1 : Int32), q2.2)) else (if 0 ≤ (v1).toInt ∧ (v1).toInt < 6 then (some ((gA q2.2 11 (v1).toInt), q2.2)) else none)))
theorem ok_M_ownSteps {X : Cx (St × Nat)} {Z : State} {a0 : Array Value} {l : Launch} {n1 : Nat} {a : Addr} {h0 : Heap} (K : KM_M_ownSteps X Z a0 l n1 a h0) (hw : HW a0 Z) {σ : St} {v1 : Int32} {r : Int32 × St} (h : M_ownSteps σ v1 = some r) : Go X (some (.int r.1), (r.2, 23)) 0 [some (.ref 0), some (.int v1)] [] (σ, 23) := by
  unfold M_ownSteps at h
  refine g_aloadN (pc := 0) K.1 d57_0 rfl ?_
  refine g_iloadN (pc := 1) K.1 d57_1 rfl ?_
  obtain ⟨q2, hq2, h⟩ := Option.bind_eq_some_iff.mp h
  refine g_callP (pc := 2) (vs := [.int v1]) K d57_2 (w113 hw) (w114 hw) (w115 hw) (w116 hw) hyC pd_5 rfl rfl (con_M_validThread l Z a0 hw n1 a (ctx_le K) hq2) rfl (Nat.le_of_ble_eq_true rfl) (Nat.le_of_ble_eq_true rfl) rfl rfl ?_
  rcases ifs h with ⟨hc5, h⟩ | ⟨hc5, h⟩
  · refine g_ifF (pc := 5) K.1 d57_5 ((if0 _ _).trans (teq hc5).2) ?_
    refine g_iconst (pc := 8) (v := -1) K.1 d57_8 (by decide) ?_
    cases h; exact g_ireturn K.1 d57_9 (capC K)
  refine g_ifT (pc := 5) (pc' := 10) K.1 d57_5 (by decide) ((if0 _ _).trans (feq hc5).2) ?_
  refine g_aloadN (pc := 10) K.1 d57_10 rfl ?_
  refine g_getA (pc := 11) K d57_11 (w30 hw) mf_thSteps rfl ?_
  refine g_iloadN (pc := 14) K.1 d57_14 rfl ?_
  obtain ⟨hc15, h⟩ := ifn h
  refine g_iaload (pc := 15) K d57_15 ma_thSteps rfl hc15 ?_
  cases h; exact g_ireturn K.1 d57_16 (capC K)
theorem con_M_ownSteps (l : Launch) (Z : State) (a0 : Array Value) (hw : HW a0 Z) (n1 : Nat) (a : Addr) (ha : n1 ≤ a) {σ : St} {v1 : Int32} {r : Int32 × St} (h : M_ownSteps σ v1 = some r) : Con l Z cC cFS cFA 23 n1 a ⟨cC, "ownSteps", "(I)I"⟩ c57 2 (some .int) ⟨1, 0, 0, 13⟩ [.ref 0, .int v1] σ (some (.int r.1)) r.2 :=
  con_of_go pnC rfl (layW hw) lgood ha (fun X h1 K => ok_M_ownSteps K hw h)
abbrev KM_M_phase (X : Cx (St × Nat)) (Z : State) (a0 : Array Value) (l : Launch) (n1 : Nat) (a : Addr) (h0 : Heap) : Prop := CtxC X Z a0 cC cFS cFA 23 27 l n1 a h0 ce0 ⟨1, 0, 0, 13⟩ "phase" c58 2 (some .int)
def M_phase (σ : St) (v1 : Int32) : Option (Int32 × St) :=
  ((M_validThread σ v1).bind fun q2 => (if q2.1 = 0 then (some ((-1 : Int32), q2.2)) else (if 0 ≤ (v1).toInt ∧ (v1).toInt < 6 then (some ((gA q2.2 7 (v1).toInt), q2.2)) else none)))
theorem ok_M_phase {X : Cx (St × Nat)} {Z : State} {a0 : Array Value} {l : Launch} {n1 : Nat} {a : Addr} {h0 : Heap} (K : KM_M_phase X Z a0 l n1 a h0) (hw : HW a0 Z) {σ : St} {v1 : Int32} {r : Int32 × St} (h : M_phase σ v1 = some r) : Go X (some (.int r.1), (r.2, 23)) 0 [some (.ref 0), some (.int v1)] [] (σ, 23) := by
  unfold M_phase at h
  refine g_aloadN (pc := 0) K.1 d58_0 rfl ?_
  refine g_iloadN (pc := 1) K.1 d58_1 rfl ?_
  obtain ⟨q2, hq2, h⟩ := Option.bind_eq_some_iff.mp h
  refine g_callP (pc := 2) (vs := [.int v1]) K d58_2 (w113 hw) (w114 hw) (w115 hw) (w116 hw) hyC pd_5 rfl rfl (con_M_validThread l Z a0 hw n1 a (ctx_le K) hq2) rfl (Nat.le_of_ble_eq_true rfl) (Nat.le_of_ble_eq_true rfl) rfl rfl ?_
  rcases ifs h with ⟨hc5, h⟩ | ⟨hc5, h⟩
  · refine g_ifF (pc := 5) K.1 d58_5 ((if0 _ _).trans (teq hc5).2) ?_
    refine g_iconst (pc := 8) (v := -1) K.1 d58_8 (by decide) ?_
    cases h; exact g_ireturn K.1 d58_9 (capC K)
  refine g_ifT (pc := 5) (pc' := 10) K.1 d58_5 (by decide) ((if0 _ _).trans (feq hc5).2) ?_
  refine g_aloadN (pc := 10) K.1 d58_10 rfl ?_
  refine g_getA (pc := 11) K d58_11 (w22 hw) mf_thPhase rfl ?_
  refine g_iloadN (pc := 14) K.1 d58_14 rfl ?_
  obtain ⟨hc15, h⟩ := ifn h
  refine g_iaload (pc := 15) K d58_15 ma_thPhase rfl hc15 ?_
  cases h; exact g_ireturn K.1 d58_16 (capC K)
theorem con_M_phase (l : Launch) (Z : State) (a0 : Array Value) (hw : HW a0 Z) (n1 : Nat) (a : Addr) (ha : n1 ≤ a) {σ : St} {v1 : Int32} {r : Int32 × St} (h : M_phase σ v1 = some r) : Con l Z cC cFS cFA 23 n1 a ⟨cC, "phase", "(I)I"⟩ c58 2 (some .int) ⟨1, 0, 0, 13⟩ [.ref 0, .int v1] σ (some (.int r.1)) r.2 :=
  con_of_go pnC rfl (layW hw) lgood ha (fun X h1 K => ok_M_phase K hw h)
abbrev KM_LAW (X : Cx (List (St × Nat))) (Z : State) (a0 : Array Value) (l : Launch) (n1 : Nat) (sc : Addr) (H0 : Heap) : Prop := CtxL X Z a0 cC cFS cFA 23 27 l n1 sc H0 (ceL 27 cFA) ⟨10, 56, 3456, 224⟩ 56 3456 "WaitFreeUniversalL3" "law" code 5 (some .boolean)
def LAW (NF : Nat) (v0 : Int32) (v1 : Int32) (v2 : Int32) : Option (Int32 × List (St × Nat)) :=
  ((M_init NF (2 : Int32) v0).bind fun q12 => ((M_invoke NF q12 (0 : Int32) (3 : Int32) v1).bind fun q22 => (if q22.1 = (1 : Int32) then ((M_invoke NF q22.2 (1 : Int32) (2 : Int32) (v2 &&& (32767 : Int32))).bind fun q36 => (if q36.1 = (2 : Int32) then ((M_step NF q36.2 (0 : Int32)).bind fun q48 => (if q48.1 = (1 : Int32) then ((M_step NF q48.2 (1 : Int32)).bind fun q60 => (if q60.1 = (1 : Int32) then ((M_step NF q60.2 (0 : Int32)).bind fun q72 => (if q72.1 = (2 : Int32) then ((M_step NF q72.2 (0 : Int32)).bind fun q84 => (if q84.1 = (3 : Int32) then ((M_step NF q84.2 (0 : Int32)).bind fun q96 => (if q96.1 = (5 : Int32) then ((M_chosenId q96.2 (0 : Int32)).bind fun q108 => (if q108.1 = (2 : Int32) then ((M_step NF q108.2 (0 : Int32)).bind fun q120 => (if q120.1 = (6 : Int32) then ((M_statusOf q120.2 (2 : Int32)).bind fun q133 => (if q133.1 = (2 : Int32) then ((M_responseOf q133.2 (2 : Int32)).bind fun q145 => (if q145.1 = (1 : Int32) then ((M_queueLength q145.2).bind fun q156 => (if q156.1 = (1 : Int32) then ((M_queueAt q156.2 (0 : Int32)).bind fun q168 => (if q168.1 = (v2 &&& (32767 : Int32)) then ((M_step NF q168.2 (0 : Int32)).bind fun q180 => (if q180.1 = (2 : Int32) then ((M_step NF q180.2 (0 : Int32)).bind fun q192 => (if q192.1 = (3 : Int32) then ((M_step NF q192.2 (0 : Int32)).bind fun q204 => (if q204.1 = (5 : Int32) then ((M_chosenId q204.2 (0 : Int32)).bind fun q216 => (if q216.1 = (1 : Int32) then ((M_step NF q216.2 (0 : Int32)).bind fun q228 => (if q228.1 = (8 : Int32) then ((M_step NF q228.2 (1 : Int32)).bind fun q241 => (if q241.1 = (2 : Int32) then ((M_step NF q241.2 (1 : Int32)).bind fun q253 => (if q253.1 = (4 : Int32) then ((M_statusOf q253.2 (1 : Int32)).bind fun q265 => (if q265.1 = (3 : Int32) then ((M_statusOf q265.2 (2 : Int32)).bind fun q277 => (if q277.1 = (3 : Int32) then ((M_responseOf q277.2 (1 : Int32)).bind fun q289 => (if q289.1 = (v2 &&& (32767 : Int32)) then ((M_responseOf q289.2 (2 : Int32)).bind fun q301 => (if q301.1 = (1 : Int32) then ((M_positionOf q301.2 (1 : Int32)).bind fun q313 => (if q313.1 = (2 : Int32) then ((M_positionOf q313.2 (2 : Int32)).bind fun q325 => (if q325.1 = (1 : Int32) then ((M_tail q325.2).bind fun q336 => (if q336.1 = (2 : Int32) then ((M_queueLength q336.2).bind fun q347 => (if q347.1 = 0 then ((M_ownSteps q347.2 (0 : Int32)).bind fun q358 => (if q358.1 = (9 : Int32) then ((M_ownSteps q358.2 (1 : Int32)).bind fun q371 => (if q371.1 = (3 : Int32) then ((M_phase q371.2 (0 : Int32)).bind fun q383 => (if q383.1 = 0 then ((M_phase q383.2 (1 : Int32)).bind fun q394 => (if q394.1 = 0 then (some ((1 : Int32), [(q394.2, 23)])) else (some ((0 : Int32), [(q394.2, 23)])))) else (some ((0 : Int32), [(q383.2, 23)])))) else (some ((0 : Int32), [(q371.2, 23)])))) else (some ((0 : Int32), [(q358.2, 23)])))) else (some ((0 : Int32), [(q347.2, 23)])))) else (some ((0 : Int32), [(q336.2, 23)])))) else (some ((0 : Int32), [(q325.2, 23)])))) else (some ((0 : Int32), [(q313.2, 23)])))) else (some ((0 : Int32), [(q301.2, 23)])))) else (some ((0 : Int32), [(q289.2, 23)])))) else (some ((0 : Int32), [(q277.2, 23)])))) else (some ((0 : Int32), [(q265.2, 23)])))) else (some ((0 : Int32), [(q253.2, 23)])))) else (some ((0 : Int32), [(q241.2, 23)])))) else (some ((0 : Int32), [(q228.2, 23)])))) else (some ((0 : Int32), [(q216.2, 23)])))) else (some ((0 : Int32), [(q204.2, 23)])))) else (some ((0 : Int32), [(q192.2, 23)])))) else (some ((0 : Int32), [(q180.2, 23)])))) else (some ((0 : Int32), [(q168.2, 23)])))) else (some ((0 : Int32), [(q156.2, 23)])))) else (some ((0 : Int32), [(q145.2, 23)])))) else (some ((0 : Int32), [(q133.2, 23)])))) else (some ((0 : Int32), [(q120.2, 23)])))) else (some ((0 : Int32), [(q108.2, 23)])))) else (some ((0 : Int32), [(q96.2, 23)])))) else (some ((0 : Int32), [(q84.2, 23)])))) else (some ((0 : Int32), [(q72.2, 23)])))) else (some ((0 : Int32), [(q60.2, 23)])))) else (some ((0 : Int32), [(q48.2, 23)])))) else (some ((0 : Int32), [(q36.2, 23)])))) else (some ((0 : Int32), [(q22.2, 23)])))))
theorem ok_LAW {X : Cx (List (St × Nat))} {Z : State} {a0 : Array Value} {l : Launch} {n1 : Nat} {sc : Addr} {H0 : Heap} {NF : Nat} (K : KM_LAW X Z a0 l n1 sc H0) (hw : HW a0 Z) (hs0 : hsz X = n1) {v0 : Int32} {v1 : Int32} {v2 : Int32} {r : Int32 × List (St × Nat)} (h : LAW NF v0 v1 v2 = some r) : Go X (some (.int r.1), r.2) 0 [some (.int v0), some (.int v1), some (.int v2), none, none] [] [] := by
  unfold LAW at h
  refine g_iloadN (pc := 0) K.1 at_0 rfl ?_
  refine g_sipush (pc := 1) (v := 32767) K.1 at_1 (by decide) ?_
  refine g_iand (pc := 4) K.1 at_4 ?_
  refine g_istoreN (pc := 5) (L' := [some (.int v0), some (.int v1), some (.int v2), some (.int (v2 &&& (32767 : Int32))), none]) K.1 at_5 (blt rfl) rfl ?_
  refine l_new (pc := 6) (i := 0) K at_6 (w0 hw) rfl (by decide) hs0 ceI_0 (capN1 cn_ rfl) (capN2 cn_ rfl) rfl ?_
  refine g_dup (pc := 9) K.1 at_9 rfl ?_
  refine g_iconst (pc := 10) (v := 2) K.1 at_10 (by decide) ?_
  refine g_iloadN (pc := 11) K.1 at_11 rfl ?_
  obtain ⟨q12, hq12, h⟩ := Option.bind_eq_some_iff.mp h
  refine l_init (pc := 12) (vs := [.int (2 : Int32), .int v0]) (i := 0) (W0 := []) (W' := [(q12, 23)]) K at_12 (w3 hw) (w4 hw) (w5 hw) hyC pd_8 (by intro v q; simp only [List.mem_cons, List.not_mem_nil, or_false] at q; rcases q with rfl | rfl <;> rfl) rfl rfl rfl rfl (by decide) rfl rfl (con_M_init l Z a0 hw n1 _ (Nat.le_add_right _ _) hq12) rfl (by decide) (by decide) rfl ceI_nA ceI_0 (capJ1 cj_23 rfl) (capJ2 cj_23 rfl) ?_
  refine g_astore (pc := 15) (L' := [some (.int v0), some (.int v1), some (.int v2), some (.int (v2 &&& (32767 : Int32))), some (.ref 0)]) K.1 at_15 (blt rfl) rfl ?_
  refine g_aload (pc := 17) K.1 at_17 rfl ?_
  refine g_iconst (pc := 19) (v := 0) K.1 at_19 (by decide) ?_
  refine g_iconst (pc := 20) (v := 3) K.1 at_20 (by decide) ?_
  refine g_iloadN (pc := 21) K.1 at_21 rfl ?_
  obtain ⟨q22, hq22, h⟩ := Option.bind_eq_some_iff.mp h
  refine l_call (pc := 22) (vs := [.int (0 : Int32), .int (3 : Int32), .int v1]) (i := 0) (W' := [(q22.2, 23)]) K at_22 (w108 hw) (w110 hw) (w109 hw) (w111 hw) (w112 hw) hyC pd_3 (by intro v q; simp only [List.mem_cons, List.not_mem_nil, or_false] at q; rcases q with rfl | rfl | rfl <;> rfl) (by decide) rfl rfl (fun _ q => by cases q; rfl) rfl rfl (con_M_invoke l Z a0 hw n1 _ (Nat.le_add_right _ _) hq22) rfl (by decide) (by decide) rfl rfl (ceL_eq rfl) (capJ1 cj_23 rfl) (capJ2 cj_23 rfl) ?_
  refine g_iconst (pc := 25) (v := 1) K.1 at_25 (by decide) ?_
  rcases ifs h with ⟨hc26, h⟩ | ⟨hc26, h⟩
  · refine g_icT (pc := 26) (pc' := 31) K.1 at_26 (by decide) ((teq hc26).1) ?_
    refine g_aload (pc := 31) K.1 at_31 rfl ?_
    refine g_iconst (pc := 33) (v := 1) K.1 at_33 (by decide) ?_
    refine g_iconst (pc := 34) (v := 2) K.1 at_34 (by decide) ?_
    refine g_iloadN (pc := 35) K.1 at_35 rfl ?_
    obtain ⟨q36, hq36, h⟩ := Option.bind_eq_some_iff.mp h
    refine l_call (pc := 36) (vs := [.int (1 : Int32), .int (2 : Int32), .int (v2 &&& (32767 : Int32))]) (i := 0) (W' := [(q36.2, 23)]) K at_36 (w108 hw) (w110 hw) (w109 hw) (w111 hw) (w112 hw) hyC pd_3 (by intro v q; simp only [List.mem_cons, List.not_mem_nil, or_false] at q; rcases q with rfl | rfl | rfl <;> rfl) (by decide) rfl rfl (fun _ q => by cases q; rfl) rfl rfl (con_M_invoke l Z a0 hw n1 _ (Nat.le_add_right _ _) hq36) rfl (by decide) (by decide) rfl rfl (ceL_eq rfl) (capJ1 cj_23 rfl) (capJ2 cj_23 rfl) ?_
    refine g_iconst (pc := 39) (v := 2) K.1 at_39 (by decide) ?_
    rcases ifs h with ⟨hc40, h⟩ | ⟨hc40, h⟩
    · refine g_icT (pc := 40) (pc' := 45) K.1 at_40 (by decide) ((teq hc40).1) ?_
      refine g_aload (pc := 45) K.1 at_45 rfl ?_
      refine g_iconst (pc := 47) (v := 0) K.1 at_47 (by decide) ?_
      obtain ⟨q48, hq48, h⟩ := Option.bind_eq_some_iff.mp h
      refine l_call (pc := 48) (vs := [.int (0 : Int32)]) (i := 0) (W' := [(q48.2, 23)]) K at_48 (w133 hw) (w135 hw) (w134 hw) (w136 hw) (w137 hw) hyC pd_6 (by intro v q; simp only [List.mem_cons, List.not_mem_nil, or_false] at q; subst q <;> rfl) (by decide) rfl rfl (fun _ q => by cases q; rfl) rfl rfl (con_M_step l Z a0 hw n1 _ (Nat.le_add_right _ _) hq48) rfl (by decide) (by decide) rfl rfl (ceL_eq rfl) (capJ1 cj_23 rfl) (capJ2 cj_23 rfl) ?_
      refine g_iconst (pc := 51) (v := 1) K.1 at_51 (by decide) ?_
      rcases ifs h with ⟨hc52, h⟩ | ⟨hc52, h⟩
      · refine g_icT (pc := 52) (pc' := 57) K.1 at_52 (by decide) ((teq hc52).1) ?_
        refine g_aload (pc := 57) K.1 at_57 rfl ?_
        refine g_iconst (pc := 59) (v := 1) K.1 at_59 (by decide) ?_
        obtain ⟨q60, hq60, h⟩ := Option.bind_eq_some_iff.mp h
        refine l_call (pc := 60) (vs := [.int (1 : Int32)]) (i := 0) (W' := [(q60.2, 23)]) K at_60 (w133 hw) (w135 hw) (w134 hw) (w136 hw) (w137 hw) hyC pd_6 (by intro v q; simp only [List.mem_cons, List.not_mem_nil, or_false] at q; subst q <;> rfl) (by decide) rfl rfl (fun _ q => by cases q; rfl) rfl rfl (con_M_step l Z a0 hw n1 _ (Nat.le_add_right _ _) hq60) rfl (by decide) (by decide) rfl rfl (ceL_eq rfl) (capJ1 cj_23 rfl) (capJ2 cj_23 rfl) ?_
        refine g_iconst (pc := 63) (v := 1) K.1 at_63 (by decide) ?_
        rcases ifs h with ⟨hc64, h⟩ | ⟨hc64, h⟩
        · refine g_icT (pc := 64) (pc' := 69) K.1 at_64 (by decide) ((teq hc64).1) ?_
          refine g_aload (pc := 69) K.1 at_69 rfl ?_
          refine g_iconst (pc := 71) (v := 0) K.1 at_71 (by decide) ?_
          obtain ⟨q72, hq72, h⟩ := Option.bind_eq_some_iff.mp h
          refine l_call (pc := 72) (vs := [.int (0 : Int32)]) (i := 0) (W' := [(q72.2, 23)]) K at_72 (w133 hw) (w135 hw) (w134 hw) (w136 hw) (w137 hw) hyC pd_6 (by intro v q; simp only [List.mem_cons, List.not_mem_nil, or_false] at q; subst q <;> rfl) (by decide) rfl rfl (fun _ q => by cases q; rfl) rfl rfl (con_M_step l Z a0 hw n1 _ (Nat.le_add_right _ _) hq72) rfl (by decide) (by decide) rfl rfl (ceL_eq rfl) (capJ1 cj_23 rfl) (capJ2 cj_23 rfl) ?_
          refine g_iconst (pc := 75) (v := 2) K.1 at_75 (by decide) ?_
          rcases ifs h with ⟨hc76, h⟩ | ⟨hc76, h⟩
          · refine g_icT (pc := 76) (pc' := 81) K.1 at_76 (by decide) ((teq hc76).1) ?_
            refine g_aload (pc := 81) K.1 at_81 rfl ?_
            refine g_iconst (pc := 83) (v := 0) K.1 at_83 (by decide) ?_
            obtain ⟨q84, hq84, h⟩ := Option.bind_eq_some_iff.mp h
            refine l_call (pc := 84) (vs := [.int (0 : Int32)]) (i := 0) (W' := [(q84.2, 23)]) K at_84 (w133 hw) (w135 hw) (w134 hw) (w136 hw) (w137 hw) hyC pd_6 (by intro v q; simp only [List.mem_cons, List.not_mem_nil, or_false] at q; subst q <;> rfl) (by decide) rfl rfl (fun _ q => by cases q; rfl) rfl rfl (con_M_step l Z a0 hw n1 _ (Nat.le_add_right _ _) hq84) rfl (by decide) (by decide) rfl rfl (ceL_eq rfl) (capJ1 cj_23 rfl) (capJ2 cj_23 rfl) ?_
            refine g_iconst (pc := 87) (v := 3) K.1 at_87 (by decide) ?_
            rcases ifs h with ⟨hc88, h⟩ | ⟨hc88, h⟩
            · refine g_icT (pc := 88) (pc' := 93) K.1 at_88 (by decide) ((teq hc88).1) ?_
              refine g_aload (pc := 93) K.1 at_93 rfl ?_
              refine g_iconst (pc := 95) (v := 0) K.1 at_95 (by decide) ?_
              obtain ⟨q96, hq96, h⟩ := Option.bind_eq_some_iff.mp h
              refine l_call (pc := 96) (vs := [.int (0 : Int32)]) (i := 0) (W' := [(q96.2, 23)]) K at_96 (w133 hw) (w135 hw) (w134 hw) (w136 hw) (w137 hw) hyC pd_6 (by intro v q; simp only [List.mem_cons, List.not_mem_nil, or_false] at q; subst q <;> rfl) (by decide) rfl rfl (fun _ q => by cases q; rfl) rfl rfl (con_M_step l Z a0 hw n1 _ (Nat.le_add_right _ _) hq96) rfl (by decide) (by decide) rfl rfl (ceL_eq rfl) (capJ1 cj_23 rfl) (capJ2 cj_23 rfl) ?_
              refine g_iconst (pc := 99) (v := 5) K.1 at_99 (by decide) ?_
              rcases ifs h with ⟨hc100, h⟩ | ⟨hc100, h⟩
              · refine g_icT (pc := 100) (pc' := 105) K.1 at_100 (by decide) ((teq hc100).1) ?_
                refine g_aload (pc := 105) K.1 at_105 rfl ?_
                refine g_iconst (pc := 107) (v := 0) K.1 at_107 (by decide) ?_
                obtain ⟨q108, hq108, h⟩ := Option.bind_eq_some_iff.mp h
                refine l_call (pc := 108) (vs := [.int (0 : Int32)]) (i := 0) (W' := [(q108.2, 23)]) K at_108 (w202 hw) (w204 hw) (w203 hw) (w205 hw) (w206 hw) hyC pd_6 (by intro v q; simp only [List.mem_cons, List.not_mem_nil, or_false] at q; subst q <;> rfl) (by decide) rfl rfl (fun _ q => by cases q; rfl) rfl rfl (con_M_chosenId l Z a0 hw n1 _ (Nat.le_add_right _ _) hq108) rfl (by decide) (by decide) rfl rfl (ceL_eq rfl) (capJ1 cj_23 rfl) (capJ2 cj_23 rfl) ?_
                refine g_iconst (pc := 111) (v := 2) K.1 at_111 (by decide) ?_
                rcases ifs h with ⟨hc112, h⟩ | ⟨hc112, h⟩
                · refine g_icT (pc := 112) (pc' := 117) K.1 at_112 (by decide) ((teq hc112).1) ?_
                  refine g_aload (pc := 117) K.1 at_117 rfl ?_
                  refine g_iconst (pc := 119) (v := 0) K.1 at_119 (by decide) ?_
                  obtain ⟨q120, hq120, h⟩ := Option.bind_eq_some_iff.mp h
                  refine l_call (pc := 120) (vs := [.int (0 : Int32)]) (i := 0) (W' := [(q120.2, 23)]) K at_120 (w133 hw) (w135 hw) (w134 hw) (w136 hw) (w137 hw) hyC pd_6 (by intro v q; simp only [List.mem_cons, List.not_mem_nil, or_false] at q; subst q <;> rfl) (by decide) rfl rfl (fun _ q => by cases q; rfl) rfl rfl (con_M_step l Z a0 hw n1 _ (Nat.le_add_right _ _) hq120) rfl (by decide) (by decide) rfl rfl (ceL_eq rfl) (capJ1 cj_23 rfl) (capJ2 cj_23 rfl) ?_
                  refine g_bipush (pc := 123) (v := 6) K.1 at_123 (by decide) ?_
                  rcases ifs h with ⟨hc125, h⟩ | ⟨hc125, h⟩
                  · refine g_icT (pc := 125) (pc' := 130) K.1 at_125 (by decide) ((teq hc125).1) ?_
                    refine g_aload (pc := 130) K.1 at_130 rfl ?_
                    refine g_iconst (pc := 132) (v := 2) K.1 at_132 (by decide) ?_
                    obtain ⟨q133, hq133, h⟩ := Option.bind_eq_some_iff.mp h
                    refine l_call (pc := 133) (vs := [.int (2 : Int32)]) (i := 0) (W' := [(q133.2, 23)]) K at_133 (w243 hw) (w245 hw) (w244 hw) (w246 hw) (w247 hw) hyC pd_6 (by intro v q; simp only [List.mem_cons, List.not_mem_nil, or_false] at q; subst q <;> rfl) (by decide) rfl rfl (fun _ q => by cases q; rfl) rfl rfl (con_M_statusOf l Z a0 hw n1 _ (Nat.le_add_right _ _) hq133) rfl (by decide) (by decide) rfl rfl (ceL_eq rfl) (capJ1 cj_23 rfl) (capJ2 cj_23 rfl) ?_
                    refine g_iconst (pc := 136) (v := 2) K.1 at_136 (by decide) ?_
                    rcases ifs h with ⟨hc137, h⟩ | ⟨hc137, h⟩
                    · refine g_icT (pc := 137) (pc' := 142) K.1 at_137 (by decide) ((teq hc137).1) ?_
                      refine g_aload (pc := 142) K.1 at_142 rfl ?_
                      refine g_iconst (pc := 144) (v := 2) K.1 at_144 (by decide) ?_
                      obtain ⟨q145, hq145, h⟩ := Option.bind_eq_some_iff.mp h
                      refine l_call (pc := 145) (vs := [.int (2 : Int32)]) (i := 0) (W' := [(q145.2, 23)]) K at_145 (w248 hw) (w250 hw) (w249 hw) (w251 hw) (w252 hw) hyC pd_6 (by intro v q; simp only [List.mem_cons, List.not_mem_nil, or_false] at q; subst q <;> rfl) (by decide) rfl rfl (fun _ q => by cases q; rfl) rfl rfl (con_M_responseOf l Z a0 hw n1 _ (Nat.le_add_right _ _) hq145) rfl (by decide) (by decide) rfl rfl (ceL_eq rfl) (capJ1 cj_23 rfl) (capJ2 cj_23 rfl) ?_
                      refine g_iconst (pc := 148) (v := 1) K.1 at_148 (by decide) ?_
                      rcases ifs h with ⟨hc149, h⟩ | ⟨hc149, h⟩
                      · refine g_icT (pc := 149) (pc' := 154) K.1 at_149 (by decide) ((teq hc149).1) ?_
                        refine g_aload (pc := 154) K.1 at_154 rfl ?_
                        obtain ⟨q156, hq156, h⟩ := Option.bind_eq_some_iff.mp h
                        refine l_call (pc := 156) (vs := []) (i := 0) (W' := [(q156.2, 23)]) K at_156 (w257 hw) (w259 hw) (w258 hw) (w260 hw) (w261 hw) hyC pd_9 (fun _ q => by cases q) (by decide) rfl rfl (fun _ q => by cases q; rfl) rfl rfl (con_M_queueLength l Z a0 hw n1 _ (Nat.le_add_right _ _) hq156) rfl (by decide) (by decide) rfl rfl (ceL_eq rfl) (capJ1 cj_23 rfl) (capJ2 cj_23 rfl) ?_
                        refine g_iconst (pc := 159) (v := 1) K.1 at_159 (by decide) ?_
                        rcases ifs h with ⟨hc160, h⟩ | ⟨hc160, h⟩
                        · refine g_icT (pc := 160) (pc' := 165) K.1 at_160 (by decide) ((teq hc160).1) ?_
                          refine g_aload (pc := 165) K.1 at_165 rfl ?_
                          refine g_iconst (pc := 167) (v := 0) K.1 at_167 (by decide) ?_
                          obtain ⟨q168, hq168, h⟩ := Option.bind_eq_some_iff.mp h
                          refine l_call (pc := 168) (vs := [.int (0 : Int32)]) (i := 0) (W' := [(q168.2, 23)]) K at_168 (w266 hw) (w268 hw) (w267 hw) (w269 hw) (w270 hw) hyC pd_6 (by intro v q; simp only [List.mem_cons, List.not_mem_nil, or_false] at q; subst q <;> rfl) (by decide) rfl rfl (fun _ q => by cases q; rfl) rfl rfl (con_M_queueAt l Z a0 hw n1 _ (Nat.le_add_right _ _) hq168) rfl (by decide) (by decide) rfl rfl (ceL_eq rfl) (capJ1 cj_23 rfl) (capJ2 cj_23 rfl) ?_
                          refine g_iloadN (pc := 171) K.1 at_171 rfl ?_
                          rcases ifs h with ⟨hc172, h⟩ | ⟨hc172, h⟩
                          · refine g_icT (pc := 172) (pc' := 177) K.1 at_172 (by decide) ((teq hc172).1) ?_
                            refine g_aload (pc := 177) K.1 at_177 rfl ?_
                            refine g_iconst (pc := 179) (v := 0) K.1 at_179 (by decide) ?_
                            obtain ⟨q180, hq180, h⟩ := Option.bind_eq_some_iff.mp h
                            refine l_call (pc := 180) (vs := [.int (0 : Int32)]) (i := 0) (W' := [(q180.2, 23)]) K at_180 (w133 hw) (w135 hw) (w134 hw) (w136 hw) (w137 hw) hyC pd_6 (by intro v q; simp only [List.mem_cons, List.not_mem_nil, or_false] at q; subst q <;> rfl) (by decide) rfl rfl (fun _ q => by cases q; rfl) rfl rfl (con_M_step l Z a0 hw n1 _ (Nat.le_add_right _ _) hq180) rfl (by decide) (by decide) rfl rfl (ceL_eq rfl) (capJ1 cj_23 rfl) (capJ2 cj_23 rfl) ?_
                            refine g_iconst (pc := 183) (v := 2) K.1 at_183 (by decide) ?_
                            rcases ifs h with ⟨hc184, h⟩ | ⟨hc184, h⟩
                            · refine g_icT (pc := 184) (pc' := 189) K.1 at_184 (by decide) ((teq hc184).1) ?_
                              refine g_aload (pc := 189) K.1 at_189 rfl ?_
                              refine g_iconst (pc := 191) (v := 0) K.1 at_191 (by decide) ?_
                              obtain ⟨q192, hq192, h⟩ := Option.bind_eq_some_iff.mp h
                              refine l_call (pc := 192) (vs := [.int (0 : Int32)]) (i := 0) (W' := [(q192.2, 23)]) K at_192 (w133 hw) (w135 hw) (w134 hw) (w136 hw) (w137 hw) hyC pd_6 (by intro v q; simp only [List.mem_cons, List.not_mem_nil, or_false] at q; subst q <;> rfl) (by decide) rfl rfl (fun _ q => by cases q; rfl) rfl rfl (con_M_step l Z a0 hw n1 _ (Nat.le_add_right _ _) hq192) rfl (by decide) (by decide) rfl rfl (ceL_eq rfl) (capJ1 cj_23 rfl) (capJ2 cj_23 rfl) ?_
                              refine g_iconst (pc := 195) (v := 3) K.1 at_195 (by decide) ?_
                              rcases ifs h with ⟨hc196, h⟩ | ⟨hc196, h⟩
                              · refine g_icT (pc := 196) (pc' := 201) K.1 at_196 (by decide) ((teq hc196).1) ?_
                                refine g_aload (pc := 201) K.1 at_201 rfl ?_
                                refine g_iconst (pc := 203) (v := 0) K.1 at_203 (by decide) ?_
                                obtain ⟨q204, hq204, h⟩ := Option.bind_eq_some_iff.mp h
                                refine l_call (pc := 204) (vs := [.int (0 : Int32)]) (i := 0) (W' := [(q204.2, 23)]) K at_204 (w133 hw) (w135 hw) (w134 hw) (w136 hw) (w137 hw) hyC pd_6 (by intro v q; simp only [List.mem_cons, List.not_mem_nil, or_false] at q; subst q <;> rfl) (by decide) rfl rfl (fun _ q => by cases q; rfl) rfl rfl (con_M_step l Z a0 hw n1 _ (Nat.le_add_right _ _) hq204) rfl (by decide) (by decide) rfl rfl (ceL_eq rfl) (capJ1 cj_23 rfl) (capJ2 cj_23 rfl) ?_
                                refine g_iconst (pc := 207) (v := 5) K.1 at_207 (by decide) ?_
                                rcases ifs h with ⟨hc208, h⟩ | ⟨hc208, h⟩
                                · refine g_icT (pc := 208) (pc' := 213) K.1 at_208 (by decide) ((teq hc208).1) ?_
                                  refine g_aload (pc := 213) K.1 at_213 rfl ?_
                                  refine g_iconst (pc := 215) (v := 0) K.1 at_215 (by decide) ?_
                                  obtain ⟨q216, hq216, h⟩ := Option.bind_eq_some_iff.mp h
                                  refine l_call (pc := 216) (vs := [.int (0 : Int32)]) (i := 0) (W' := [(q216.2, 23)]) K at_216 (w202 hw) (w204 hw) (w203 hw) (w205 hw) (w206 hw) hyC pd_6 (by intro v q; simp only [List.mem_cons, List.not_mem_nil, or_false] at q; subst q <;> rfl) (by decide) rfl rfl (fun _ q => by cases q; rfl) rfl rfl (con_M_chosenId l Z a0 hw n1 _ (Nat.le_add_right _ _) hq216) rfl (by decide) (by decide) rfl rfl (ceL_eq rfl) (capJ1 cj_23 rfl) (capJ2 cj_23 rfl) ?_
                                  refine g_iconst (pc := 219) (v := 1) K.1 at_219 (by decide) ?_
                                  rcases ifs h with ⟨hc220, h⟩ | ⟨hc220, h⟩
                                  · refine g_icT (pc := 220) (pc' := 225) K.1 at_220 (by decide) ((teq hc220).1) ?_
                                    refine g_aload (pc := 225) K.1 at_225 rfl ?_
                                    refine g_iconst (pc := 227) (v := 0) K.1 at_227 (by decide) ?_
                                    obtain ⟨q228, hq228, h⟩ := Option.bind_eq_some_iff.mp h
                                    refine l_call (pc := 228) (vs := [.int (0 : Int32)]) (i := 0) (W' := [(q228.2, 23)]) K at_228 (w133 hw) (w135 hw) (w134 hw) (w136 hw) (w137 hw) hyC pd_6 (by intro v q; simp only [List.mem_cons, List.not_mem_nil, or_false] at q; subst q <;> rfl) (by decide) rfl rfl (fun _ q => by cases q; rfl) rfl rfl (con_M_step l Z a0 hw n1 _ (Nat.le_add_right _ _) hq228) rfl (by decide) (by decide) rfl rfl (ceL_eq rfl) (capJ1 cj_23 rfl) (capJ2 cj_23 rfl) ?_
                                    refine g_bipush (pc := 231) (v := 8) K.1 at_231 (by decide) ?_
                                    rcases ifs h with ⟨hc233, h⟩ | ⟨hc233, h⟩
                                    · refine g_icT (pc := 233) (pc' := 238) K.1 at_233 (by decide) ((teq hc233).1) ?_
                                      refine g_aload (pc := 238) K.1 at_238 rfl ?_
                                      refine g_iconst (pc := 240) (v := 1) K.1 at_240 (by decide) ?_
                                      obtain ⟨q241, hq241, h⟩ := Option.bind_eq_some_iff.mp h
                                      refine l_call (pc := 241) (vs := [.int (1 : Int32)]) (i := 0) (W' := [(q241.2, 23)]) K at_241 (w133 hw) (w135 hw) (w134 hw) (w136 hw) (w137 hw) hyC pd_6 (by intro v q; simp only [List.mem_cons, List.not_mem_nil, or_false] at q; subst q <;> rfl) (by decide) rfl rfl (fun _ q => by cases q; rfl) rfl rfl (con_M_step l Z a0 hw n1 _ (Nat.le_add_right _ _) hq241) rfl (by decide) (by decide) rfl rfl (ceL_eq rfl) (capJ1 cj_23 rfl) (capJ2 cj_23 rfl) ?_
                                      refine g_iconst (pc := 244) (v := 2) K.1 at_244 (by decide) ?_
                                      rcases ifs h with ⟨hc245, h⟩ | ⟨hc245, h⟩
                                      · refine g_icT (pc := 245) (pc' := 250) K.1 at_245 (by decide) ((teq hc245).1) ?_
                                        refine g_aload (pc := 250) K.1 at_250 rfl ?_
                                        refine g_iconst (pc := 252) (v := 1) K.1 at_252 (by decide) ?_
                                        obtain ⟨q253, hq253, h⟩ := Option.bind_eq_some_iff.mp h
                                        refine l_call (pc := 253) (vs := [.int (1 : Int32)]) (i := 0) (W' := [(q253.2, 23)]) K at_253 (w133 hw) (w135 hw) (w134 hw) (w136 hw) (w137 hw) hyC pd_6 (by intro v q; simp only [List.mem_cons, List.not_mem_nil, or_false] at q; subst q <;> rfl) (by decide) rfl rfl (fun _ q => by cases q; rfl) rfl rfl (con_M_step l Z a0 hw n1 _ (Nat.le_add_right _ _) hq253) rfl (by decide) (by decide) rfl rfl (ceL_eq rfl) (capJ1 cj_23 rfl) (capJ2 cj_23 rfl) ?_
                                        refine g_iconst (pc := 256) (v := 4) K.1 at_256 (by decide) ?_
                                        rcases ifs h with ⟨hc257, h⟩ | ⟨hc257, h⟩
                                        · refine g_icT (pc := 257) (pc' := 262) K.1 at_257 (by decide) ((teq hc257).1) ?_
                                          refine g_aload (pc := 262) K.1 at_262 rfl ?_
                                          refine g_iconst (pc := 264) (v := 1) K.1 at_264 (by decide) ?_
                                          obtain ⟨q265, hq265, h⟩ := Option.bind_eq_some_iff.mp h
                                          refine l_call (pc := 265) (vs := [.int (1 : Int32)]) (i := 0) (W' := [(q265.2, 23)]) K at_265 (w243 hw) (w245 hw) (w244 hw) (w246 hw) (w247 hw) hyC pd_6 (by intro v q; simp only [List.mem_cons, List.not_mem_nil, or_false] at q; subst q <;> rfl) (by decide) rfl rfl (fun _ q => by cases q; rfl) rfl rfl (con_M_statusOf l Z a0 hw n1 _ (Nat.le_add_right _ _) hq265) rfl (by decide) (by decide) rfl rfl (ceL_eq rfl) (capJ1 cj_23 rfl) (capJ2 cj_23 rfl) ?_
                                          refine g_iconst (pc := 268) (v := 3) K.1 at_268 (by decide) ?_
                                          rcases ifs h with ⟨hc269, h⟩ | ⟨hc269, h⟩
                                          · refine g_icT (pc := 269) (pc' := 274) K.1 at_269 (by decide) ((teq hc269).1) ?_
                                            refine g_aload (pc := 274) K.1 at_274 rfl ?_
                                            refine g_iconst (pc := 276) (v := 2) K.1 at_276 (by decide) ?_
                                            obtain ⟨q277, hq277, h⟩ := Option.bind_eq_some_iff.mp h
                                            refine l_call (pc := 277) (vs := [.int (2 : Int32)]) (i := 0) (W' := [(q277.2, 23)]) K at_277 (w243 hw) (w245 hw) (w244 hw) (w246 hw) (w247 hw) hyC pd_6 (by intro v q; simp only [List.mem_cons, List.not_mem_nil, or_false] at q; subst q <;> rfl) (by decide) rfl rfl (fun _ q => by cases q; rfl) rfl rfl (con_M_statusOf l Z a0 hw n1 _ (Nat.le_add_right _ _) hq277) rfl (by decide) (by decide) rfl rfl (ceL_eq rfl) (capJ1 cj_23 rfl) (capJ2 cj_23 rfl) ?_
                                            refine g_iconst (pc := 280) (v := 3) K.1 at_280 (by decide) ?_
                                            rcases ifs h with ⟨hc281, h⟩ | ⟨hc281, h⟩
                                            · refine g_icT (pc := 281) (pc' := 286) K.1 at_281 (by decide) ((teq hc281).1) ?_
                                              refine g_aload (pc := 286) K.1 at_286 rfl ?_
                                              refine g_iconst (pc := 288) (v := 1) K.1 at_288 (by decide) ?_
                                              obtain ⟨q289, hq289, h⟩ := Option.bind_eq_some_iff.mp h
                                              refine l_call (pc := 289) (vs := [.int (1 : Int32)]) (i := 0) (W' := [(q289.2, 23)]) K at_289 (w248 hw) (w250 hw) (w249 hw) (w251 hw) (w252 hw) hyC pd_6 (by intro v q; simp only [List.mem_cons, List.not_mem_nil, or_false] at q; subst q <;> rfl) (by decide) rfl rfl (fun _ q => by cases q; rfl) rfl rfl (con_M_responseOf l Z a0 hw n1 _ (Nat.le_add_right _ _) hq289) rfl (by decide) (by decide) rfl rfl (ceL_eq rfl) (capJ1 cj_23 rfl) (capJ2 cj_23 rfl) ?_
                                              refine g_iloadN (pc := 292) K.1 at_292 rfl ?_
                                              rcases ifs h with ⟨hc293, h⟩ | ⟨hc293, h⟩
                                              · refine g_icT (pc := 293) (pc' := 298) K.1 at_293 (by decide) ((teq hc293).1) ?_
                                                refine g_aload (pc := 298) K.1 at_298 rfl ?_
                                                refine g_iconst (pc := 300) (v := 2) K.1 at_300 (by decide) ?_
                                                obtain ⟨q301, hq301, h⟩ := Option.bind_eq_some_iff.mp h
                                                refine l_call (pc := 301) (vs := [.int (2 : Int32)]) (i := 0) (W' := [(q301.2, 23)]) K at_301 (w248 hw) (w250 hw) (w249 hw) (w251 hw) (w252 hw) hyC pd_6 (by intro v q; simp only [List.mem_cons, List.not_mem_nil, or_false] at q; subst q <;> rfl) (by decide) rfl rfl (fun _ q => by cases q; rfl) rfl rfl (con_M_responseOf l Z a0 hw n1 _ (Nat.le_add_right _ _) hq301) rfl (by decide) (by decide) rfl rfl (ceL_eq rfl) (capJ1 cj_23 rfl) (capJ2 cj_23 rfl) ?_
                                                refine g_iconst (pc := 304) (v := 1) K.1 at_304 (by decide) ?_
                                                rcases ifs h with ⟨hc305, h⟩ | ⟨hc305, h⟩
                                                · refine g_icT (pc := 305) (pc' := 310) K.1 at_305 (by decide) ((teq hc305).1) ?_
                                                  refine g_aload (pc := 310) K.1 at_310 rfl ?_
                                                  refine g_iconst (pc := 312) (v := 1) K.1 at_312 (by decide) ?_
                                                  obtain ⟨q313, hq313, h⟩ := Option.bind_eq_some_iff.mp h
                                                  refine l_call (pc := 313) (vs := [.int (1 : Int32)]) (i := 0) (W' := [(q313.2, 23)]) K at_313 (w279 hw) (w281 hw) (w280 hw) (w282 hw) (w283 hw) hyC pd_6 (by intro v q; simp only [List.mem_cons, List.not_mem_nil, or_false] at q; subst q <;> rfl) (by decide) rfl rfl (fun _ q => by cases q; rfl) rfl rfl (con_M_positionOf l Z a0 hw n1 _ (Nat.le_add_right _ _) hq313) rfl (by decide) (by decide) rfl rfl (ceL_eq rfl) (capJ1 cj_23 rfl) (capJ2 cj_23 rfl) ?_
                                                  refine g_iconst (pc := 316) (v := 2) K.1 at_316 (by decide) ?_
                                                  rcases ifs h with ⟨hc317, h⟩ | ⟨hc317, h⟩
                                                  · refine g_icT (pc := 317) (pc' := 322) K.1 at_317 (by decide) ((teq hc317).1) ?_
                                                    refine g_aload (pc := 322) K.1 at_322 rfl ?_
                                                    refine g_iconst (pc := 324) (v := 2) K.1 at_324 (by decide) ?_
                                                    obtain ⟨q325, hq325, h⟩ := Option.bind_eq_some_iff.mp h
                                                    refine l_call (pc := 325) (vs := [.int (2 : Int32)]) (i := 0) (W' := [(q325.2, 23)]) K at_325 (w279 hw) (w281 hw) (w280 hw) (w282 hw) (w283 hw) hyC pd_6 (by intro v q; simp only [List.mem_cons, List.not_mem_nil, or_false] at q; subst q <;> rfl) (by decide) rfl rfl (fun _ q => by cases q; rfl) rfl rfl (con_M_positionOf l Z a0 hw n1 _ (Nat.le_add_right _ _) hq325) rfl (by decide) (by decide) rfl rfl (ceL_eq rfl) (capJ1 cj_23 rfl) (capJ2 cj_23 rfl) ?_
                                                    refine g_iconst (pc := 328) (v := 1) K.1 at_328 (by decide) ?_
                                                    rcases ifs h with ⟨hc329, h⟩ | ⟨hc329, h⟩
                                                    · refine g_icT (pc := 329) (pc' := 334) K.1 at_329 (by decide) ((teq hc329).1) ?_
                                                      refine g_aload (pc := 334) K.1 at_334 rfl ?_
                                                      obtain ⟨q336, hq336, h⟩ := Option.bind_eq_some_iff.mp h
                                                      refine l_call (pc := 336) (vs := []) (i := 0) (W' := [(q336.2, 23)]) K at_336 (w284 hw) (w286 hw) (w285 hw) (w287 hw) (w288 hw) hyC pd_9 (fun _ q => by cases q) (by decide) rfl rfl (fun _ q => by cases q; rfl) rfl rfl (con_M_tail l Z a0 hw n1 _ (Nat.le_add_right _ _) hq336) rfl (by decide) (by decide) rfl rfl (ceL_eq rfl) (capJ1 cj_23 rfl) (capJ2 cj_23 rfl) ?_
                                                      refine g_iconst (pc := 339) (v := 2) K.1 at_339 (by decide) ?_
                                                      rcases ifs h with ⟨hc340, h⟩ | ⟨hc340, h⟩
                                                      · refine g_icT (pc := 340) (pc' := 345) K.1 at_340 (by decide) ((teq hc340).1) ?_
                                                        refine g_aload (pc := 345) K.1 at_345 rfl ?_
                                                        obtain ⟨q347, hq347, h⟩ := Option.bind_eq_some_iff.mp h
                                                        refine l_call (pc := 347) (vs := []) (i := 0) (W' := [(q347.2, 23)]) K at_347 (w257 hw) (w259 hw) (w258 hw) (w260 hw) (w261 hw) hyC pd_9 (fun _ q => by cases q) (by decide) rfl rfl (fun _ q => by cases q; rfl) rfl rfl (con_M_queueLength l Z a0 hw n1 _ (Nat.le_add_right _ _) hq347) rfl (by decide) (by decide) rfl rfl (ceL_eq rfl) (capJ1 cj_23 rfl) (capJ2 cj_23 rfl) ?_
                                                        rcases ifs h with ⟨hc350, h⟩ | ⟨hc350, h⟩
                                                        · refine g_ifT (pc := 350) (pc' := 355) K.1 at_350 (by decide) ((if0 _ _).trans (teq hc350).1) ?_
                                                          refine g_aload (pc := 355) K.1 at_355 rfl ?_
                                                          refine g_iconst (pc := 357) (v := 0) K.1 at_357 (by decide) ?_
                                                          obtain ⟨q358, hq358, h⟩ := Option.bind_eq_some_iff.mp h
                                                          refine l_call (pc := 358) (vs := [.int (0 : Int32)]) (i := 0) (W' := [(q358.2, 23)]) K at_358 (w289 hw) (w291 hw) (w290 hw) (w292 hw) (w293 hw) hyC pd_6 (by intro v q; simp only [List.mem_cons, List.not_mem_nil, or_false] at q; subst q <;> rfl) (by decide) rfl rfl (fun _ q => by cases q; rfl) rfl rfl (con_M_ownSteps l Z a0 hw n1 _ (Nat.le_add_right _ _) hq358) rfl (by decide) (by decide) rfl rfl (ceL_eq rfl) (capJ1 cj_23 rfl) (capJ2 cj_23 rfl) ?_
                                                          refine g_bipush (pc := 361) (v := 9) K.1 at_361 (by decide) ?_
                                                          rcases ifs h with ⟨hc363, h⟩ | ⟨hc363, h⟩
                                                          · refine g_icT (pc := 363) (pc' := 368) K.1 at_363 (by decide) ((teq hc363).1) ?_
                                                            refine g_aload (pc := 368) K.1 at_368 rfl ?_
                                                            refine g_iconst (pc := 370) (v := 1) K.1 at_370 (by decide) ?_
                                                            obtain ⟨q371, hq371, h⟩ := Option.bind_eq_some_iff.mp h
                                                            refine l_call (pc := 371) (vs := [.int (1 : Int32)]) (i := 0) (W' := [(q371.2, 23)]) K at_371 (w289 hw) (w291 hw) (w290 hw) (w292 hw) (w293 hw) hyC pd_6 (by intro v q; simp only [List.mem_cons, List.not_mem_nil, or_false] at q; subst q <;> rfl) (by decide) rfl rfl (fun _ q => by cases q; rfl) rfl rfl (con_M_ownSteps l Z a0 hw n1 _ (Nat.le_add_right _ _) hq371) rfl (by decide) (by decide) rfl rfl (ceL_eq rfl) (capJ1 cj_23 rfl) (capJ2 cj_23 rfl) ?_
                                                            refine g_iconst (pc := 374) (v := 3) K.1 at_374 (by decide) ?_
                                                            rcases ifs h with ⟨hc375, h⟩ | ⟨hc375, h⟩
                                                            · refine g_icT (pc := 375) (pc' := 380) K.1 at_375 (by decide) ((teq hc375).1) ?_
                                                              refine g_aload (pc := 380) K.1 at_380 rfl ?_
                                                              refine g_iconst (pc := 382) (v := 0) K.1 at_382 (by decide) ?_
                                                              obtain ⟨q383, hq383, h⟩ := Option.bind_eq_some_iff.mp h
                                                              refine l_call (pc := 383) (vs := [.int (0 : Int32)]) (i := 0) (W' := [(q383.2, 23)]) K at_383 (w294 hw) (w296 hw) (w295 hw) (w297 hw) (w298 hw) hyC pd_6 (by intro v q; simp only [List.mem_cons, List.not_mem_nil, or_false] at q; subst q <;> rfl) (by decide) rfl rfl (fun _ q => by cases q; rfl) rfl rfl (con_M_phase l Z a0 hw n1 _ (Nat.le_add_right _ _) hq383) rfl (by decide) (by decide) rfl rfl (ceL_eq rfl) (capJ1 cj_23 rfl) (capJ2 cj_23 rfl) ?_
                                                              rcases ifs h with ⟨hc386, h⟩ | ⟨hc386, h⟩
                                                              · refine g_ifT (pc := 386) (pc' := 391) K.1 at_386 (by decide) ((if0 _ _).trans (teq hc386).1) ?_
                                                                refine g_aload (pc := 391) K.1 at_391 rfl ?_
                                                                refine g_iconst (pc := 393) (v := 1) K.1 at_393 (by decide) ?_
                                                                obtain ⟨q394, hq394, h⟩ := Option.bind_eq_some_iff.mp h
                                                                refine l_call (pc := 394) (vs := [.int (1 : Int32)]) (i := 0) (W' := [(q394.2, 23)]) K at_394 (w294 hw) (w296 hw) (w295 hw) (w297 hw) (w298 hw) hyC pd_6 (by intro v q; simp only [List.mem_cons, List.not_mem_nil, or_false] at q; subst q <;> rfl) (by decide) rfl rfl (fun _ q => by cases q; rfl) rfl rfl (con_M_phase l Z a0 hw n1 _ (Nat.le_add_right _ _) hq394) rfl (by decide) (by decide) rfl rfl (ceL_eq rfl) (capJ1 cj_23 rfl) (capJ2 cj_23 rfl) ?_
                                                                rcases ifs h with ⟨hc397, h⟩ | ⟨hc397, h⟩
                                                                · refine g_ifF (pc := 397) K.1 at_397 ((if0 _ _).trans (teq hc397).2) ?_
                                                                  refine g_iconst (pc := 400) (v := 1) K.1 at_400 (by decide) ?_
                                                                  refine g_goto (pc := 401) (pc' := 405) K.1 at_401 (by decide) ?_
                                                                  cases h; exact g_ireturnN (t := .boolean) K.1 rfl (Or.inl rfl) at_405 rfl (capL K (capJ1 cj_23 rfl) (capJ2 cj_23 rfl))
                                                                refine g_ifT (pc := 397) (pc' := 404) K.1 at_397 (by decide) ((if0 _ _).trans (feq hc397).2) ?_
                                                                refine g_iconst (pc := 404) (v := 0) K.1 at_404 (by decide) ?_
                                                                cases h; exact g_ireturnN (t := .boolean) K.1 rfl (Or.inl rfl) at_405 rfl (capL K (capJ1 cj_23 rfl) (capJ2 cj_23 rfl))
                                                              refine g_ifF (pc := 386) K.1 at_386 ((if0 _ _).trans (feq hc386).1) ?_
                                                              refine g_iconst (pc := 389) (v := 0) K.1 at_389 (by decide) ?_
                                                              cases h; exact g_ireturnN (t := .boolean) K.1 rfl (Or.inl rfl) at_390 rfl (capL K (capJ1 cj_23 rfl) (capJ2 cj_23 rfl))
                                                            refine g_icF (pc := 375) K.1 at_375 ((feq hc375).1) ?_
                                                            refine g_iconst (pc := 378) (v := 0) K.1 at_378 (by decide) ?_
                                                            cases h; exact g_ireturnN (t := .boolean) K.1 rfl (Or.inl rfl) at_379 rfl (capL K (capJ1 cj_23 rfl) (capJ2 cj_23 rfl))
                                                          refine g_icF (pc := 363) K.1 at_363 ((feq hc363).1) ?_
                                                          refine g_iconst (pc := 366) (v := 0) K.1 at_366 (by decide) ?_
                                                          cases h; exact g_ireturnN (t := .boolean) K.1 rfl (Or.inl rfl) at_367 rfl (capL K (capJ1 cj_23 rfl) (capJ2 cj_23 rfl))
                                                        refine g_ifF (pc := 350) K.1 at_350 ((if0 _ _).trans (feq hc350).1) ?_
                                                        refine g_iconst (pc := 353) (v := 0) K.1 at_353 (by decide) ?_
                                                        cases h; exact g_ireturnN (t := .boolean) K.1 rfl (Or.inl rfl) at_354 rfl (capL K (capJ1 cj_23 rfl) (capJ2 cj_23 rfl))
                                                      refine g_icF (pc := 340) K.1 at_340 ((feq hc340).1) ?_
                                                      refine g_iconst (pc := 343) (v := 0) K.1 at_343 (by decide) ?_
                                                      cases h; exact g_ireturnN (t := .boolean) K.1 rfl (Or.inl rfl) at_344 rfl (capL K (capJ1 cj_23 rfl) (capJ2 cj_23 rfl))
                                                    refine g_icF (pc := 329) K.1 at_329 ((feq hc329).1) ?_
                                                    refine g_iconst (pc := 332) (v := 0) K.1 at_332 (by decide) ?_
                                                    cases h; exact g_ireturnN (t := .boolean) K.1 rfl (Or.inl rfl) at_333 rfl (capL K (capJ1 cj_23 rfl) (capJ2 cj_23 rfl))
                                                  refine g_icF (pc := 317) K.1 at_317 ((feq hc317).1) ?_
                                                  refine g_iconst (pc := 320) (v := 0) K.1 at_320 (by decide) ?_
                                                  cases h; exact g_ireturnN (t := .boolean) K.1 rfl (Or.inl rfl) at_321 rfl (capL K (capJ1 cj_23 rfl) (capJ2 cj_23 rfl))
                                                refine g_icF (pc := 305) K.1 at_305 ((feq hc305).1) ?_
                                                refine g_iconst (pc := 308) (v := 0) K.1 at_308 (by decide) ?_
                                                cases h; exact g_ireturnN (t := .boolean) K.1 rfl (Or.inl rfl) at_309 rfl (capL K (capJ1 cj_23 rfl) (capJ2 cj_23 rfl))
                                              refine g_icF (pc := 293) K.1 at_293 ((feq hc293).1) ?_
                                              refine g_iconst (pc := 296) (v := 0) K.1 at_296 (by decide) ?_
                                              cases h; exact g_ireturnN (t := .boolean) K.1 rfl (Or.inl rfl) at_297 rfl (capL K (capJ1 cj_23 rfl) (capJ2 cj_23 rfl))
                                            refine g_icF (pc := 281) K.1 at_281 ((feq hc281).1) ?_
                                            refine g_iconst (pc := 284) (v := 0) K.1 at_284 (by decide) ?_
                                            cases h; exact g_ireturnN (t := .boolean) K.1 rfl (Or.inl rfl) at_285 rfl (capL K (capJ1 cj_23 rfl) (capJ2 cj_23 rfl))
                                          refine g_icF (pc := 269) K.1 at_269 ((feq hc269).1) ?_
                                          refine g_iconst (pc := 272) (v := 0) K.1 at_272 (by decide) ?_
                                          cases h; exact g_ireturnN (t := .boolean) K.1 rfl (Or.inl rfl) at_273 rfl (capL K (capJ1 cj_23 rfl) (capJ2 cj_23 rfl))
                                        refine g_icF (pc := 257) K.1 at_257 ((feq hc257).1) ?_
                                        refine g_iconst (pc := 260) (v := 0) K.1 at_260 (by decide) ?_
                                        cases h; exact g_ireturnN (t := .boolean) K.1 rfl (Or.inl rfl) at_261 rfl (capL K (capJ1 cj_23 rfl) (capJ2 cj_23 rfl))
                                      refine g_icF (pc := 245) K.1 at_245 ((feq hc245).1) ?_
                                      refine g_iconst (pc := 248) (v := 0) K.1 at_248 (by decide) ?_
                                      cases h; exact g_ireturnN (t := .boolean) K.1 rfl (Or.inl rfl) at_249 rfl (capL K (capJ1 cj_23 rfl) (capJ2 cj_23 rfl))
                                    refine g_icF (pc := 233) K.1 at_233 ((feq hc233).1) ?_
                                    refine g_iconst (pc := 236) (v := 0) K.1 at_236 (by decide) ?_
                                    cases h; exact g_ireturnN (t := .boolean) K.1 rfl (Or.inl rfl) at_237 rfl (capL K (capJ1 cj_23 rfl) (capJ2 cj_23 rfl))
                                  refine g_icF (pc := 220) K.1 at_220 ((feq hc220).1) ?_
                                  refine g_iconst (pc := 223) (v := 0) K.1 at_223 (by decide) ?_
                                  cases h; exact g_ireturnN (t := .boolean) K.1 rfl (Or.inl rfl) at_224 rfl (capL K (capJ1 cj_23 rfl) (capJ2 cj_23 rfl))
                                refine g_icF (pc := 208) K.1 at_208 ((feq hc208).1) ?_
                                refine g_iconst (pc := 211) (v := 0) K.1 at_211 (by decide) ?_
                                cases h; exact g_ireturnN (t := .boolean) K.1 rfl (Or.inl rfl) at_212 rfl (capL K (capJ1 cj_23 rfl) (capJ2 cj_23 rfl))
                              refine g_icF (pc := 196) K.1 at_196 ((feq hc196).1) ?_
                              refine g_iconst (pc := 199) (v := 0) K.1 at_199 (by decide) ?_
                              cases h; exact g_ireturnN (t := .boolean) K.1 rfl (Or.inl rfl) at_200 rfl (capL K (capJ1 cj_23 rfl) (capJ2 cj_23 rfl))
                            refine g_icF (pc := 184) K.1 at_184 ((feq hc184).1) ?_
                            refine g_iconst (pc := 187) (v := 0) K.1 at_187 (by decide) ?_
                            cases h; exact g_ireturnN (t := .boolean) K.1 rfl (Or.inl rfl) at_188 rfl (capL K (capJ1 cj_23 rfl) (capJ2 cj_23 rfl))
                          refine g_icF (pc := 172) K.1 at_172 ((feq hc172).1) ?_
                          refine g_iconst (pc := 175) (v := 0) K.1 at_175 (by decide) ?_
                          cases h; exact g_ireturnN (t := .boolean) K.1 rfl (Or.inl rfl) at_176 rfl (capL K (capJ1 cj_23 rfl) (capJ2 cj_23 rfl))
                        refine g_icF (pc := 160) K.1 at_160 ((feq hc160).1) ?_
                        refine g_iconst (pc := 163) (v := 0) K.1 at_163 (by decide) ?_
                        cases h; exact g_ireturnN (t := .boolean) K.1 rfl (Or.inl rfl) at_164 rfl (capL K (capJ1 cj_23 rfl) (capJ2 cj_23 rfl))
                      refine g_icF (pc := 149) K.1 at_149 ((feq hc149).1) ?_
                      refine g_iconst (pc := 152) (v := 0) K.1 at_152 (by decide) ?_
                      cases h; exact g_ireturnN (t := .boolean) K.1 rfl (Or.inl rfl) at_153 rfl (capL K (capJ1 cj_23 rfl) (capJ2 cj_23 rfl))
                    refine g_icF (pc := 137) K.1 at_137 ((feq hc137).1) ?_
                    refine g_iconst (pc := 140) (v := 0) K.1 at_140 (by decide) ?_
                    cases h; exact g_ireturnN (t := .boolean) K.1 rfl (Or.inl rfl) at_141 rfl (capL K (capJ1 cj_23 rfl) (capJ2 cj_23 rfl))
                  refine g_icF (pc := 125) K.1 at_125 ((feq hc125).1) ?_
                  refine g_iconst (pc := 128) (v := 0) K.1 at_128 (by decide) ?_
                  cases h; exact g_ireturnN (t := .boolean) K.1 rfl (Or.inl rfl) at_129 rfl (capL K (capJ1 cj_23 rfl) (capJ2 cj_23 rfl))
                refine g_icF (pc := 112) K.1 at_112 ((feq hc112).1) ?_
                refine g_iconst (pc := 115) (v := 0) K.1 at_115 (by decide) ?_
                cases h; exact g_ireturnN (t := .boolean) K.1 rfl (Or.inl rfl) at_116 rfl (capL K (capJ1 cj_23 rfl) (capJ2 cj_23 rfl))
              refine g_icF (pc := 100) K.1 at_100 ((feq hc100).1) ?_
              refine g_iconst (pc := 103) (v := 0) K.1 at_103 (by decide) ?_
              cases h; exact g_ireturnN (t := .boolean) K.1 rfl (Or.inl rfl) at_104 rfl (capL K (capJ1 cj_23 rfl) (capJ2 cj_23 rfl))
            refine g_icF (pc := 88) K.1 at_88 ((feq hc88).1) ?_
            refine g_iconst (pc := 91) (v := 0) K.1 at_91 (by decide) ?_
            cases h; exact g_ireturnN (t := .boolean) K.1 rfl (Or.inl rfl) at_92 rfl (capL K (capJ1 cj_23 rfl) (capJ2 cj_23 rfl))
          refine g_icF (pc := 76) K.1 at_76 ((feq hc76).1) ?_
          refine g_iconst (pc := 79) (v := 0) K.1 at_79 (by decide) ?_
          cases h; exact g_ireturnN (t := .boolean) K.1 rfl (Or.inl rfl) at_80 rfl (capL K (capJ1 cj_23 rfl) (capJ2 cj_23 rfl))
        refine g_icF (pc := 64) K.1 at_64 ((feq hc64).1) ?_
        refine g_iconst (pc := 67) (v := 0) K.1 at_67 (by decide) ?_
        cases h; exact g_ireturnN (t := .boolean) K.1 rfl (Or.inl rfl) at_68 rfl (capL K (capJ1 cj_23 rfl) (capJ2 cj_23 rfl))
      refine g_icF (pc := 52) K.1 at_52 ((feq hc52).1) ?_
      refine g_iconst (pc := 55) (v := 0) K.1 at_55 (by decide) ?_
      cases h; exact g_ireturnN (t := .boolean) K.1 rfl (Or.inl rfl) at_56 rfl (capL K (capJ1 cj_23 rfl) (capJ2 cj_23 rfl))
    refine g_icF (pc := 40) K.1 at_40 ((feq hc40).1) ?_
    refine g_iconst (pc := 43) (v := 0) K.1 at_43 (by decide) ?_
    cases h; exact g_ireturnN (t := .boolean) K.1 rfl (Or.inl rfl) at_44 rfl (capL K (capJ1 cj_23 rfl) (capJ2 cj_23 rfl))
  refine g_icF (pc := 26) K.1 at_26 ((feq hc26).1) ?_
  refine g_iconst (pc := 29) (v := 0) K.1 at_29 (by decide) ?_
  cases h; exact g_ireturnN (t := .boolean) K.1 rfl (Or.inl rfl) at_30 rfl (capL K (capJ1 cj_23 rfl) (capJ2 cj_23 rfl))
theorem con_LAW (l : Launch) (Z : State) (a0 : Array Value) (hw : HW a0 Z) (ws : List Jvm.Cond) (sc : Addr) (H0 : Heap) {NF : Nat} {v0 : Int32} {v1 : Int32} {v2 : Int32} {r : Int32 × List (St × Nat)} (h : LAW NF v0 v1 v2 = some r) : MetP l Z x code maxLocals ret room_1 ws H0.size H0 ([.int v0, .int v1, .int v2].map (up (adL sc H0.size 23))).toArray (some (.int r.1)) (fun _ => True) := by
  refine (met_of_go (S := List (St × Nat)) (ad := adL sc H0.size 23) (INV := INVl Z cC cFS cFA 23 H0.size H0) (CE := ceL 27 cFA) (x := []) (x' := r.2) (v := some (.int r.1)) (y := x) pnL rfl ⟨fun i q hq => by simp at hq, by simp [sizeW], Nat.le_refl _, fun _ _ q => q⟩ rfl ?_).mono (fun _ _ => trivial)
  intro p e s m below meth c hs K
  exact ok_LAW ⟨K, layW hw, lgood, rfl, rfl, rfl, rfl, rfl, rfl, rfl, rfl, rfl⟩ hw (by show s.heap.size = _; rw [hs]) h
theorem own_clamp (σ : St) (v lo hi : Int32) : M_clamp σ v lo hi = some (if v < lo then lo else if hi < v then hi else v, σ) := by
  unfold M_clamp; split
  · rfl
  · split <;> rfl
/-- what the constructor's parts keep: no status, no phase, nothing announced -/
def own_J (σ : St) : Prop := (∀ i, gA σ 4 i = 0) ∧ (∀ i, gA σ 7 i = 0) ∧ (∀ i, gA σ 14 i = 0) ∧ ∀ i, gA σ 11 i = 0
def own_Q (σ : St) (o : Option St) : Prop := ∃ σ', o = some σ' ∧ (∀ q, gI σ' q = gI σ q) ∧ own_J σ'
theorem own_J.far {σ : St} (h : own_J σ) {k : Nat} {i : Int} {v : Int32} (hk : k ≠ 4 ∧ k ≠ 7 ∧ k ≠ 14 ∧ k ≠ 11) : own_J (sA σ k i v) := by
  obtain ⟨h1, h2, h3, h4⟩ := h
  refine ⟨fun j => ?_, fun j => ?_, fun j => ?_, fun j => ?_⟩ <;> rw [gA_sA, if_neg (fun q => by have := q.1; omega)]
  · exact h1 j
  · exact h2 j
  · exact h3 j
  · exact h4 j
theorem own_J.zero {σ : St} (h : own_J σ) {k : Nat} {i : Int} : own_J (sA σ k i 0) := by
  obtain ⟨h1, h2, h3, h4⟩ := h
  refine ⟨fun j => ?_, fun j => ?_, fun j => ?_, fun j => ?_⟩ <;> rw [gA_sA] <;> split
  · rfl
  · exact h1 j
  · rfl
  · exact h2 j
  · rfl
  · exact h3 j
  · rfl
  · exact h4 j
theorem own_records {NF : Nat} (hF : 300 < NF) {σ : St} (h : own_J σ) : own_Q σ (M_resetRecords NF σ) := by
  unfold M_resetRecords
  refine loop_up (l := M_resetRecords_l2 NF) (w := M_resetRecords_w2 NF) (fun _ _ _ => rfl) 241 (by decide) (fun _ x => (∀ q, gI x q = gI σ q) ∧ own_J x) (own_Q σ) ?_ ?_ NF 0 σ (by decide) (by decide) ⟨fun _ => rfl, h⟩ (by show (241 : Int) - 0 < _; omega)
  · intro k i x h0 h1 hp ih
    unfold M_resetRecords_w2
    rw [if_neg (by rw [lt_i]; show ¬ (240 : Int) < _; omega), if_pos ⟨h0, h1⟩, if_pos ⟨h0, h1⟩, if_pos ⟨h0, h1⟩, if_pos ⟨h0, h1⟩, if_pos ⟨h0, h1⟩, if_pos ⟨h0, h1⟩]
    exact ih _ ⟨hp.1, ((((hp.2.zero.zero).far (by decide)).zero).zero).zero⟩
  · intro k i x hi hp
    unfold M_resetRecords_w2
    rw [if_pos (by rw [lt_i]; show (240 : Int) < _; omega)]
    exact ⟨x, rfl, hp.1, hp.2⟩
theorem own_tlast {NF : Nat} (hF : 300 < NF) {σ : St} (h : own_J σ) {t : Int32} (t0 : 0 ≤ t.toInt) (t1 : t.toInt < 8) (t2 : t.toInt < 6) : own_Q σ (M_clearThreadLast NF σ t) := by
  unfold M_clearThreadLast
  have em : (t * 6).toInt = t.toInt * 6 := by
    have q := c_imul t 6; have r := rng32 (t * 6)
    have e : (6 : Int32).toInt = 6 := rfl
    rw [e] at q; omega
  refine loop_up (l := fun n i x => M_clearThreadLast_l2 NF n t i x) (w := fun k i x => M_clearThreadLast_w2 NF (fun _ i x => k i x) t i x) (fun _ _ _ => rfl) 6 (by decide) (fun _ x => (∀ q, gI x q = gI σ q) ∧ own_J x) (own_Q σ) ?_ ?_ NF 0 σ (by decide) (by decide) ⟨fun _ => rfl, h⟩ (by show (6 : Int) - 0 < _; omega)
  · intro k i x h0 h1 hp ih
    have ea := i_add (x := t * 6) (y := i) (by omega) (by omega)
    show own_Q σ (M_clearThreadLast_w2 NF (fun _ i x => k i x) t i x)
    unfold M_clearThreadLast_w2 M_setThreadLast
    have e0 : (0 : Int32).toInt = 0 := rfl
    have eN : (6 : Int32).toInt = 6 := rfl
    have eB : (6 : Int32).toInt = 6 := rfl
    rw [if_pos (lt_i.mpr h1), if_neg (by rw [lt_i]; omega), if_pos (by rw [lt_i]; omega), if_neg (by rw [lt_i]; omega), if_pos (by rw [lt_i]; omega), if_pos (by omega)]
    exact ih _ ⟨hp.1, hp.2.far (by decide)⟩
  · intro k i x hi hp
    show own_Q σ (M_clearThreadLast_w2 NF (fun _ i x => k i x) t i x)
    unfold M_clearThreadLast_w2
    rw [if_neg (by rw [lt_i]; show ¬ _ < (6 : Int); omega)]
    exact ⟨x, rfl, hp.1, hp.2⟩
theorem own_cqueue {NF : Nat} (hF : 300 < NF) {σ : St} (h : own_J σ) {t : Int32} (t0 : 0 ≤ t.toInt) (t1 : t.toInt < 8) (t2 : t.toInt < 8) : own_Q σ (M_clearCellQueue NF σ t) := by
  unfold M_clearCellQueue
  have em : (t * 4).toInt = t.toInt * 4 := by
    have q := c_imul t 4; have r := rng32 (t * 4)
    have e : (4 : Int32).toInt = 4 := rfl
    rw [e] at q; omega
  refine loop_up (l := fun n i x => M_clearCellQueue_l2 NF n t i x) (w := fun k i x => M_clearCellQueue_w2 NF (fun _ i x => k i x) t i x) (fun _ _ _ => rfl) 4 (by decide) (fun _ x => (∀ q, gI x q = gI σ q) ∧ own_J x) (own_Q σ) ?_ ?_ NF 0 σ (by decide) (by decide) ⟨fun _ => rfl, h⟩ (by show (4 : Int) - 0 < _; omega)
  · intro k i x h0 h1 hp ih
    have ea := i_add (x := t * 4) (y := i) (by omega) (by omega)
    show own_Q σ (M_clearCellQueue_w2 NF (fun _ i x => k i x) t i x)
    unfold M_clearCellQueue_w2 M_writeQueueSlot
    have e0 : (0 : Int32).toInt = 0 := rfl
    have eN : (4 : Int32).toInt = 4 := rfl
    have eB : (8 : Int32).toInt = 8 := rfl
    rw [if_pos (lt_i.mpr h1), if_neg (by rw [lt_i]; omega), if_pos (by rw [lt_i]; omega), if_neg (by rw [lt_i]; omega), if_pos (by rw [lt_i]; omega), if_pos (by omega)]
    exact ih _ ⟨hp.1, hp.2.far (by decide)⟩
  · intro k i x hi hp
    show own_Q σ (M_clearCellQueue_w2 NF (fun _ i x => k i x) t i x)
    unfold M_clearCellQueue_w2
    rw [if_neg (by rw [lt_i]; show ¬ _ < (4 : Int); omega)]
    exact ⟨x, rfl, hp.1, hp.2⟩
theorem own_clast {NF : Nat} (hF : 300 < NF) {σ : St} (h : own_J σ) {t : Int32} (t0 : 0 ≤ t.toInt) (t1 : t.toInt < 8) (t2 : t.toInt < 8) : own_Q σ (M_clearCellLast NF σ t) := by
  unfold M_clearCellLast
  have em : (t * 6).toInt = t.toInt * 6 := by
    have q := c_imul t 6; have r := rng32 (t * 6)
    have e : (6 : Int32).toInt = 6 := rfl
    rw [e] at q; omega
  refine loop_up (l := fun n i x => M_clearCellLast_l2 NF n t i x) (w := fun k i x => M_clearCellLast_w2 NF (fun _ i x => k i x) t i x) (fun _ _ _ => rfl) 6 (by decide) (fun _ x => (∀ q, gI x q = gI σ q) ∧ own_J x) (own_Q σ) ?_ ?_ NF 0 σ (by decide) (by decide) ⟨fun _ => rfl, h⟩ (by show (6 : Int) - 0 < _; omega)
  · intro k i x h0 h1 hp ih
    have ea := i_add (x := t * 6) (y := i) (by omega) (by omega)
    show own_Q σ (M_clearCellLast_w2 NF (fun _ i x => k i x) t i x)
    unfold M_clearCellLast_w2 M_setCellLast
    have e0 : (0 : Int32).toInt = 0 := rfl
    have eN : (6 : Int32).toInt = 6 := rfl
    have eB : (8 : Int32).toInt = 8 := rfl
    rw [if_pos (lt_i.mpr h1), if_neg (by rw [lt_i]; omega), if_pos (by rw [lt_i]; omega), if_neg (by rw [lt_i]; omega), if_pos (by rw [lt_i]; omega), if_pos (by omega)]
    exact ih _ ⟨hp.1, hp.2.far (by decide)⟩
  · intro k i x hi hp
    show own_Q σ (M_clearCellLast_w2 NF (fun _ i x => k i x) t i x)
    unfold M_clearCellLast_w2
    rw [if_neg (by rw [lt_i]; show ¬ _ < (6 : Int); omega)]
    exact ⟨x, rfl, hp.1, hp.2⟩
theorem own_threads {NF : Nat} (hF : 300 < NF) {σ : St} (h : own_J σ) : own_Q σ (M_resetThreads NF σ) := by
  unfold M_resetThreads
  refine loop_up (l := M_resetThreads_l2 NF) (w := M_resetThreads_w2 NF) (fun _ _ _ => rfl) 6 (by decide) (fun _ x => (∀ q, gI x q = gI σ q) ∧ own_J x) (own_Q σ) ?_ ?_ NF 0 σ (by decide) (by decide) ⟨fun _ => rfl, h⟩ (by show (6 : Int) - 0 < _; omega)
  · intro k i x h0 h1 hp ih
    unfold M_resetThreads_w2
    rw [if_pos (lt_i.mpr h1), if_pos ⟨h0, h1⟩, if_pos ⟨h0, h1⟩, if_pos ⟨h0, h1⟩, if_pos ⟨h0, h1⟩, if_pos ⟨h0, h1⟩, if_pos ⟨h0, h1⟩]
    obtain ⟨x', q1, q2, q3⟩ := own_tlast hF ((((((hp.2.zero (k := 7) (i := i.toInt)).zero (k := 8) (i := i.toInt)).zero (k := 9) (i := i.toInt)).zero (k := 10) (i := i.toInt)).zero (k := 11) (i := i.toInt)).zero (k := 12) (i := i.toInt)) h0 (by omega) h1
    rw [q1]
    exact ih _ ⟨fun q => (q2 q).trans (hp.1 q), q3⟩
  · intro k i x hi hp
    unfold M_resetThreads_w2
    rw [if_neg (by rw [lt_i]; show ¬ _ < (6 : Int); omega)]
    exact ⟨x, rfl, hp.1, hp.2⟩
theorem own_ann {NF : Nat} (hF : 300 < NF) {σ : St} (h : own_J σ) : own_Q σ (M_resetAnnounces NF σ) := by
  unfold M_resetAnnounces
  refine loop_up (l := M_resetAnnounces_l2 NF) (w := M_resetAnnounces_w2 NF) (fun _ _ _ => rfl) 6 (by decide) (fun _ x => (∀ q, gI x q = gI σ q) ∧ own_J x) (own_Q σ) ?_ ?_ NF 0 σ (by decide) (by decide) ⟨fun _ => rfl, h⟩ (by show (6 : Int) - 0 < _; omega)
  · intro k i x h0 h1 hp ih
    unfold M_resetAnnounces_w2
    rw [if_pos (lt_i.mpr h1), if_pos ⟨h0, h1⟩, if_pos ⟨h0, h1⟩, if_pos ⟨h0, h1⟩]
    exact ih _ ⟨hp.1, hp.2.zero.zero.zero⟩
  · intro k i x hi hp
    unfold M_resetAnnounces_w2
    rw [if_neg (by rw [lt_i]; show ¬ _ < (6 : Int); omega)]
    exact ⟨x, rfl, hp.1, hp.2⟩
theorem own_cells {NF : Nat} (hF : 300 < NF) {σ : St} (h : own_J σ) : own_Q σ (M_resetCells NF σ) := by
  unfold M_resetCells
  refine loop_up (l := M_resetCells_l2 NF) (w := M_resetCells_w2 NF) (fun _ _ _ => rfl) 8 (by decide) (fun _ x => (∀ q, gI x q = gI σ q) ∧ own_J x) (own_Q σ) ?_ ?_ NF 0 σ (by decide) (by decide) ⟨fun _ => rfl, h⟩ (by show (8 : Int) - 0 < _; omega)
  · intro k i x h0 h1 hp ih
    unfold M_resetCells_w2
    rw [if_pos (lt_i.mpr h1), if_pos ⟨h0, h1⟩, if_pos ⟨h0, h1⟩, if_pos ⟨h0, h1⟩, if_pos ⟨h0, h1⟩, if_pos ⟨h0, h1⟩]
    obtain ⟨x', q1, q2, q3⟩ := own_cqueue hF (((((hp.2.far (k := 17) (i := i.toInt) (v := -1) (by decide)).zero (k := 18) (i := i.toInt)).zero (k := 19) (i := i.toInt)).zero (k := 20) (i := i.toInt)).zero (k := 21) (i := i.toInt)) h0 h1 h1
    rw [q1]
    simp only [Option.bind_some]
    obtain ⟨x2, r1, r2, r3⟩ := own_clast hF q3 h0 h1 h1
    rw [r1]
    exact ih _ ⟨fun q => ((r2 q).trans (q2 q)).trans (hp.1 q), r3⟩
  · intro k i x hi hp
    unfold M_resetCells_w2
    rw [if_neg (by rw [lt_i]; show ¬ _ < (8 : Int); omega)]
    exact ⟨_, rfl, hp.1, hp.2.zero⟩
theorem own_init {NF : Nat} (hF : 300 < NF) (t c : Int32) : ∃ σ, M_init NF t c = some σ ∧ gI σ 137 = (if t < 2 then 2 else if 6 < t then 6 else t) ∧ gI σ 139 = 0 ∧ gI σ 153 = 0 ∧ own_J σ := by
  unfold M_init
  simp only [own_clamp, Option.bind_some]
  generalize hS : sI (sI (sI _ 138 _) 139 0) 153 0 = S
  have hJ : own_J S := by subst hS; exact ⟨fun _ => rfl, fun _ => rfl, fun _ => rfl, fun _ => rfl⟩
  obtain ⟨s1, a1, a2, a3⟩ := own_records hF hJ
  obtain ⟨s2, b1, b2, b3⟩ := own_threads hF a3
  obtain ⟨s3, c1, c2, c3⟩ := own_ann hF b3
  obtain ⟨s4, d1, d2, d3⟩ := own_cells hF c3
  have eI : ∀ q, gI s4 q = gI S q := fun q => ((d2 q).trans (c2 q)).trans ((b2 q).trans (a2 q))
  simp only [a1, b1, c1, d1, Option.bind_some]
  refine ⟨s4, rfl, ?_, ?_, ?_, d3⟩ <;> rw [eI] <;> subst hS <;> rfl
theorem own_tlastF {NF : Nat} (hF : 300 < NF) (σ : St) {t : Int32} (t0 : 0 ≤ t.toInt) (t2 : t.toInt < 6) : ∃ σ', M_clearThreadLast NF σ t = some σ' ∧ (∀ q, gI σ' q = gI σ q) ∧ ∀ q i, q ≠ 13 → gA σ' q i = gA σ q i := by
  unfold M_clearThreadLast
  have em : (t * 6).toInt = t.toInt * 6 := by
    have q := c_imul t 6; have r := rng32 (t * 6)
    have e : (6 : Int32).toInt = 6 := rfl
    rw [e] at q; omega
  refine loop_up (l := fun n i x => M_clearThreadLast_l2 NF n t i x) (w := fun k i x => M_clearThreadLast_w2 NF (fun _ i x => k i x) t i x) (fun _ _ _ => rfl) 6 (by decide) (fun _ x => (∀ q, gI x q = gI σ q) ∧ ∀ q i, q ≠ 13 → gA x q i = gA σ q i) (fun o => ∃ σ', o = some σ' ∧ (∀ q, gI σ' q = gI σ q) ∧ ∀ q i, q ≠ 13 → gA σ' q i = gA σ q i) ?_ ?_ NF 0 σ (by decide) (by decide) ⟨fun _ => rfl, fun _ _ _ => rfl⟩ (by show (6 : Int) - 0 < _; omega)
  · intro k i x h0 h1 hp ih
    have ea := i_add (x := t * 6) (y := i) (by omega) (by omega)
    show ∃ σ', M_clearThreadLast_w2 NF (fun _ i x => k i x) t i x = some σ' ∧ _
    unfold M_clearThreadLast_w2 M_setThreadLast
    have e0 : (0 : Int32).toInt = 0 := rfl
    have eN : (6 : Int32).toInt = 6 := rfl
    rw [if_pos (lt_i.mpr h1), if_neg (by rw [lt_i]; omega), if_pos (by rw [lt_i]; omega), if_neg (by rw [lt_i]; omega), if_pos (by rw [lt_i]; omega), if_pos (by omega)]
    exact ih _ ⟨hp.1, fun q j hq => by rw [gA_sA, if_neg (fun z => hq z.1)]; exact hp.2 q j hq⟩
  · intro k i x hi hp
    show ∃ σ', M_clearThreadLast_w2 NF (fun _ i x => k i x) t i x = some σ' ∧ _
    unfold M_clearThreadLast_w2
    rw [if_neg (by rw [lt_i]; show ¬ _ < (6 : Int); omega)]
    exact ⟨x, rfl, hp.1, hp.2⟩
theorem own_vt {σ : St} {t n : Int32} (hn : gI σ 137 = n) (n6 : n.toInt ≤ 6) : M_validThread σ t = some (if t < 0 then 0 else if t < n then 1 else 0, σ) := by
  unfold M_validThread
  by_cases h1 : t < 0
  · rw [if_pos h1, if_pos h1]
  · rw [if_neg h1, if_neg h1, hn]
    by_cases h2 : t < n
    · rw [if_pos h2, if_pos h2, if_pos (by rw [lt_i] at h2 ⊢; show _ < (6 : Int); omega)]
    · rw [if_neg h2, if_neg h2]
/-- the first operation is accepted -/
theorem own_accept {NF : Nat} (hF : 300 < NF) {σ : St} (h9 : gI σ 139 = 0) {t kind arg : Int32} (t0 : 0 ≤ t.toInt) (t6 : t.toInt < 6) : ∃ σ', M_acceptInvoke NF σ t kind arg = some (1, σ') ∧ gI σ' 139 = 1 ∧ gI σ' 137 = gI σ 137 ∧ gI σ' 153 = gI σ 153 ∧ gA σ' 4 (1 : Int32).toInt = 1 ∧ gA σ' 7 t.toInt = 1 ∧ gA σ' 8 t.toInt = 1 ∧ gA σ' 11 t.toInt = 0 ∧ ∀ i, gA σ' 14 i = gA σ 14 i := by
  have hr : ∃ τ, M_recordOperation (sI σ 139 1) 1 t kind arg = some τ ∧ (∀ q, gI τ q = gI (sI σ 139 1) q) ∧ gA τ 4 (1 : Int32).toInt = 1 ∧ ∀ i, gA τ 14 i = gA σ 14 i := by
    unfold M_recordOperation M_recordOperation_b36
    by_cases hk : kind = 3
    · subst hk
      simp +decide only [if_true, if_false]
      exact ⟨_, rfl, fun _ => rfl, by simp +decide [gA_sA], fun i => by simp [gA_sA, gA_sI]⟩
    · simp +decide only [hk, if_true, if_false]
      exact ⟨_, rfl, fun _ => rfl, by simp +decide [gA_sA], fun i => by simp [gA_sA, gA_sI]⟩
  obtain ⟨τ, r1, r2, r3, r4⟩ := hr
  have e1 : gI σ 139 + 1 = 1 := by rw [h9]; decide
  unfold M_acceptInvoke
  rw [e1, r1]
  simp only [Option.bind_some]
  have ht : 0 ≤ t.toInt ∧ t.toInt < 6 := ⟨t0, t6⟩
  rw [if_pos ht, if_pos ht, if_pos ht, if_pos ht, if_pos ht, if_pos ht]
  obtain ⟨σ', q1, q2, q3⟩ := own_tlastF hF (sA (sA (sA (sA (sA (sA τ 8 t.toInt 1) 7 t.toInt 1) 11 t.toInt 0) 9 t.toInt 0) 10 t.toInt 0) 12 t.toInt 0) t0 t6
  rw [q1]
  refine ⟨σ', rfl, ?_, ?_, ?_, ?_, ?_, ?_, ?_, fun i => ?_⟩
  · rw [q2]; show gI τ 139 = 1; rw [r2, gI_sI, if_pos rfl]
  · rw [q2]; show gI τ 137 = _; rw [r2]; rfl
  · rw [q2]; show gI τ 153 = _; rw [r2]; rfl
  · have r3' : gA τ 4 1 = 1 := r3
    rw [q3 4 _ (by decide)]; simp only [gA_sA]; simp [r3']
  · rw [q3 7 _ (by decide)]; simp [gA_sA]
  · rw [q3 8 _ (by decide)]; simp [gA_sA]
  · rw [q3 11 _ (by decide)]; simp [gA_sA]
  · rw [q3 14 _ (by decide)]; simp [gA_sA, r4]
theorem s_bind {A B : Type} {x : Option A} {f : A → Option B} {a : A} {r : Option B} (h : x = some a) (k : f a = r) : x.bind f = r := by subst h; exact k
theorem s_ite {A : Type} {p : Prop} [Decidable p] {c : Bool} {t e r : Option A} (h : decide p = c) (k : cond c t e = r) : (if p then t else e) = r := by
  subst h; by_cases q : p
  · rw [decide_eq_true q] at k; rw [if_pos q]; exact k
  · rw [decide_eq_false q] at k; rw [if_neg q]; exact k
theorem s_ct {A : Type} {t e r : Option A} (k : t = r) : cond true t e = r := k
theorem s_cf {A : Type} {t e r : Option A} (k : e = r) : cond false t e = r := k
theorem s_leaf {A : Type} {x y r : Option A} (h : x = y) (k : y = r) : x = r := h.trans k
theorem s_M_resetRecords_l2 (NF : Nat)  (n : Nat) (x0 : Int32) (x1 : St) : M_resetRecords_l2 NF  (n + 1) x0 x1 = M_resetRecords_w2 NF  (M_resetRecords_l2 NF  n) x0 x1 := rfl
theorem s_M_clearThreadLast_l2 (NF : Nat)  (n : Nat) (x0 : Int32) (x1 : Int32) (x2 : St) : M_clearThreadLast_l2 NF  (n + 1) x0 x1 x2 = M_clearThreadLast_w2 NF  (M_clearThreadLast_l2 NF  n) x0 x1 x2 := rfl
theorem s_M_resetThreads_l2 (NF : Nat)  (n : Nat) (x0 : Int32) (x1 : St) : M_resetThreads_l2 NF  (n + 1) x0 x1 = M_resetThreads_w2 NF  (M_resetThreads_l2 NF  n) x0 x1 := rfl
theorem s_M_resetAnnounces_l2 (NF : Nat)  (n : Nat) (x0 : Int32) (x1 : St) : M_resetAnnounces_l2 NF  (n + 1) x0 x1 = M_resetAnnounces_w2 NF  (M_resetAnnounces_l2 NF  n) x0 x1 := rfl
theorem s_M_clearCellQueue_l2 (NF : Nat)  (n : Nat) (x0 : Int32) (x1 : Int32) (x2 : St) : M_clearCellQueue_l2 NF  (n + 1) x0 x1 x2 = M_clearCellQueue_w2 NF  (M_clearCellQueue_l2 NF  n) x0 x1 x2 := rfl
theorem s_M_clearCellLast_l2 (NF : Nat)  (n : Nat) (x0 : Int32) (x1 : Int32) (x2 : St) : M_clearCellLast_l2 NF  (n + 1) x0 x1 x2 = M_clearCellLast_w2 NF  (M_clearCellLast_l2 NF  n) x0 x1 x2 := rfl
theorem s_M_resetCells_l2 (NF : Nat)  (n : Nat) (x0 : Int32) (x1 : St) : M_resetCells_l2 NF  (n + 1) x0 x1 = M_resetCells_w2 NF  (M_resetCells_l2 NF  n) x0 x1 := rfl
theorem s_M_copyLastFromCell_l2 (NF : Nat)  (n : Nat) (x0 : Int32) (x1 : Int32) (x2 : Int32) (x3 : St) : M_copyLastFromCell_l2 NF  (n + 1) x0 x1 x2 x3 = M_copyLastFromCell_w2 NF  (M_copyLastFromCell_l2 NF  n) x0 x1 x2 x3 := rfl
theorem s_M_copyCellQueue_l2 (NF : Nat)  (n : Nat) (x0 : Int32) (x1 : Int32) (x2 : Int32) (x3 : St) : M_copyCellQueue_l2 NF  (n + 1) x0 x1 x2 x3 = M_copyCellQueue_w2 NF  (M_copyCellQueue_l2 NF  n) x0 x1 x2 x3 := rfl
theorem s_M_copyCellLast_l2 (NF : Nat)  (n : Nat) (x0 : Int32) (x1 : Int32) (x2 : Int32) (x3 : St) : M_copyCellLast_l2 NF  (n + 1) x0 x1 x2 x3 = M_copyCellLast_w2 NF  (M_copyCellLast_l2 NF  n) x0 x1 x2 x3 := rfl
theorem s_M_cellDequeue_l23 (NF : Nat)  (n : Nat) (x0 : Int32) (x1 : Int32) (x2 : Int32) (x3 : Int32) (x4 : St) : M_cellDequeue_l23 NF  (n + 1) x0 x1 x2 x3 x4 = M_cellDequeue_w23 NF  (M_cellDequeue_l23 NF  n) x0 x1 x2 x3 x4 := rfl

def own_chk (σ : St) (k n : Nat) (v : Int32) : Bool := (List.range n).all fun i => gA σ k i == v
theorem own_chk_at {σ : St} {k n : Nat} {v : Int32} (h : own_chk σ k n v = true) : ∀ i : Int, 0 ≤ i → i < n → gA σ k i = v := by
  intro i h0 h1
  have := List.all_eq_true.mp h i.toNat (List.mem_range.mpr (by omega))
  rw [Int.toNat_of_nonneg h0] at this
  exact eq_of_beq this
theorem own_i0 : ∀ c : Int32, c = 1 ∨ c = 2 ∨ c = 3 ∨ c = 4 → (M_init 300 2 c).any (fun σ => decide ((0 : Int32) < gI σ 138) && gI σ 137 == 2 && gI σ 139 == 0 && gI σ 153 == 0 && gA σ 17 0 == 0 && gA σ 17 1 == -1 && gA σ 17 2 == -1 && gA σ 17 3 == -1 && own_chk σ 1 3 (0) && own_chk σ 2 3 (0) && own_chk σ 3 3 (-1) && own_chk σ 4 3 (0) && own_chk σ 5 3 (0) && own_chk σ 6 3 (0) && own_chk σ 7 6 (0) && own_chk σ 8 6 (0) && own_chk σ 9 6 (0) && own_chk σ 10 6 (0) && own_chk σ 11 6 (0) && own_chk σ 12 6 (0) && own_chk σ 13 36 (0) && own_chk σ 14 6 (0) && own_chk σ 15 6 (0) && own_chk σ 16 6 (0) && own_chk σ 18 8 (0) && own_chk σ 19 8 (0) && own_chk σ 20 8 (0) && own_chk σ 21 8 (0) && own_chk σ 22 32 (0) && own_chk σ 23 48 (0)) = true := by
  intro c hc
  rcases hc with rfl | rfl | rfl | rfl <;> decide +kernel
theorem own_i1 (c : Int32) : ∃ c', (c' = 1 ∨ c' = 2 ∨ c' = 3 ∨ c' = 4) ∧ M_init 300 2 c = M_init 300 2 c' := by
  have key : ∀ c' : Int32, (∀ σ, M_clamp σ c 1 4 = M_clamp σ c' 1 4) → M_init 300 2 c = M_init 300 2 c' := by
    intro c' h
    unfold M_init
    simp only [h]
  by_cases c1 : c < 1
  · exact ⟨1, Or.inl rfl, key 1 fun σ => by unfold M_clamp; rw [if_pos c1, if_neg (by decide), if_neg (by decide)]⟩
  by_cases c4 : 4 < c
  · exact ⟨4, Or.inr (Or.inr (Or.inr rfl)), key 4 fun σ => by unfold M_clamp; rw [if_neg c1, if_pos c4, if_neg (by decide), if_neg (by decide)]⟩
  · refine ⟨c, ?_, rfl⟩
    rw [lt_i] at c1 c4
    simp only [eq_i32]
    have : (1 : Int32).toInt = 1 ∧ (2 : Int32).toInt = 2 ∧ (3 : Int32).toInt = 3 ∧ (4 : Int32).toInt = 4 := by decide
    omega
theorem own_law (c d w v : Int32) (v0 : ¬ v < 0) (v1 : ¬ 32767 < v) (hv : w &&& 32767 = v) : ∃ W, LAW 300 c d w = some (1, W) := by
  have m0 : (0 : Int32) &&& 7 = 0 := by decide
  have m1 : (1 : Int32) &&& 7 = 1 := by decide
  have m2 : (2 : Int32) &&& 7 = 2 := by decide
  have m3 : (3 : Int32) &&& 7 = 3 := by decide
  obtain ⟨c', hc', ec⟩ := own_i1 c
  have h := own_i0 c' hc'
  unfold LAW
  rw [hv, ec]
  cases hi : M_init 300 2 c' with
  | none => rw [hi] at h; cases h
  | some σ =>
    rw [hi] at h
    simp only [Option.any_some, Bool.and_eq_true, beq_iff_eq, decide_eq_true_eq] at h
    obtain ⟨⟨⟨⟨⟨⟨⟨⟨⟨⟨⟨⟨⟨⟨⟨⟨⟨⟨⟨⟨⟨⟨⟨⟨⟨⟨⟨⟨⟨hcap, i137⟩, i139⟩, i153⟩, a17_0⟩, a17_1⟩, a17_2⟩, a17_3⟩, b1⟩, b2⟩, b3⟩, b4⟩, b5⟩, b6⟩, b7⟩, b8⟩, b9⟩, b10⟩, b11⟩, b12⟩, b13⟩, b14⟩, b15⟩, b16⟩, b18⟩, b19⟩, b20⟩, b21⟩, b22⟩, b23⟩ := h
    have a1 : ∀ i : Int, 0 ≤ i → i < 3 → gA σ 1 i = 0 := own_chk_at b1; have a2 : ∀ i : Int, 0 ≤ i → i < 3 → gA σ 2 i = 0 := own_chk_at b2; have a3 : ∀ i : Int, 0 ≤ i → i < 3 → gA σ 3 i = -1 := own_chk_at b3; have a4 : ∀ i : Int, 0 ≤ i → i < 3 → gA σ 4 i = 0 := own_chk_at b4; have a5 : ∀ i : Int, 0 ≤ i → i < 3 → gA σ 5 i = 0 := own_chk_at b5; have a6 : ∀ i : Int, 0 ≤ i → i < 3 → gA σ 6 i = 0 := own_chk_at b6; have a7 : ∀ i : Int, 0 ≤ i → i < 6 → gA σ 7 i = 0 := own_chk_at b7; have a8 : ∀ i : Int, 0 ≤ i → i < 6 → gA σ 8 i = 0 := own_chk_at b8; have a9 : ∀ i : Int, 0 ≤ i → i < 6 → gA σ 9 i = 0 := own_chk_at b9; have a10 : ∀ i : Int, 0 ≤ i → i < 6 → gA σ 10 i = 0 := own_chk_at b10; have a11 : ∀ i : Int, 0 ≤ i → i < 6 → gA σ 11 i = 0 := own_chk_at b11; have a12 : ∀ i : Int, 0 ≤ i → i < 6 → gA σ 12 i = 0 := own_chk_at b12; have a13 : ∀ i : Int, 0 ≤ i → i < 36 → gA σ 13 i = 0 := own_chk_at b13; have a14 : ∀ i : Int, 0 ≤ i → i < 6 → gA σ 14 i = 0 := own_chk_at b14; have a15 : ∀ i : Int, 0 ≤ i → i < 6 → gA σ 15 i = 0 := own_chk_at b15; have a16 : ∀ i : Int, 0 ≤ i → i < 6 → gA σ 16 i = 0 := own_chk_at b16; have a18 : ∀ i : Int, 0 ≤ i → i < 8 → gA σ 18 i = 0 := own_chk_at b18; have a19 : ∀ i : Int, 0 ≤ i → i < 8 → gA σ 19 i = 0 := own_chk_at b19; have a20 : ∀ i : Int, 0 ≤ i → i < 8 → gA σ 20 i = 0 := own_chk_at b20; have a21 : ∀ i : Int, 0 ≤ i → i < 8 → gA σ 21 i = 0 := own_chk_at b21; have a22 : ∀ i : Int, 0 ≤ i → i < 32 → gA σ 22 i = 0 := own_chk_at b22; have a23 : ∀ i : Int, 0 ≤ i → i < 48 → gA σ 23 i = 0 := own_chk_at b23
    apply Exists.intro
    apply s_bind
    · rfl
    repeat (first
    | with_reducible refine s_ct ?_
    | with_reducible refine s_cf ?_
    | with_reducible refine s_ite (by simp only [gI_sI, gI_sA, gA_sI, gA_sA, i137, i139, i153, a17_0, a17_1, a17_2, a17_3, a1, a2, a3, a4, a5, a6, a7, a8, a9, a10, a11, a12, a13, a14, a15, a16, a18, a19, a20, a21, a22, a23, hcap, v0, v1, m0, m1, m2, m3, eq_i32, nar0, nar1, ↓reduceIte, Int32.reduceToInt, Int32.reduceLT, Int32.reduceAdd, Int32.reduceSub, Int32.reduceMul, Int32.reduceMod, Int32.reduceDiv, Int.reduceLT, Int.reduceLE, Int.reduceEq, Nat.reduceEqDiff, Nat.reduceAdd, and_true, true_and, and_false, false_and, and_self, if_true, if_false, Int.reduceNeg, decide_true, decide_false, eq_self, not_true_eq_false, not_false_eq_true]; rfl) ?_
    | (with_reducible apply s_bind; · as_aux_lemma => repeat' (first
    | with_reducible apply s_bind
    | with_reducible refine s_ct ?_
    | with_reducible refine s_cf ?_
    | with_reducible refine s_ite (by simp only [gI_sI, gI_sA, gA_sI, gA_sA, i137, i139, i153, a17_0, a17_1, a17_2, a17_3, a1, a2, a3, a4, a5, a6, a7, a8, a9, a10, a11, a12, a13, a14, a15, a16, a18, a19, a20, a21, a22, a23, hcap, v0, v1, m0, m1, m2, m3, eq_i32, nar0, nar1, ↓reduceIte, Int32.reduceToInt, Int32.reduceLT, Int32.reduceAdd, Int32.reduceSub, Int32.reduceMul, Int32.reduceMod, Int32.reduceDiv, Int.reduceLT, Int.reduceLE, Int.reduceEq, Nat.reduceEqDiff, Nat.reduceAdd, and_true, true_and, and_false, false_and, and_self, if_true, if_false, Int.reduceNeg, decide_true, decide_false, eq_self, not_true_eq_false, not_false_eq_true]; rfl) ?_
    | with_reducible exact s_leaf (by simp only [gI_sI, gI_sA, gA_sI, gA_sA, i137, i139, i153, a17_0, a17_1, a17_2, a17_3, a1, a2, a3, a4, a5, a6, a7, a8, a9, a10, a11, a12, a13, a14, a15, a16, a18, a19, a20, a21, a22, a23, hcap, v0, v1, m0, m1, m2, m3, eq_i32, nar0, nar1, ↓reduceIte, Int32.reduceToInt, Int32.reduceLT, Int32.reduceAdd, Int32.reduceSub, Int32.reduceMul, Int32.reduceMod, Int32.reduceDiv, Int.reduceLT, Int.reduceLE, Int.reduceEq, Nat.reduceEqDiff, Nat.reduceAdd, and_true, true_and, and_false, false_and, and_self, if_true, if_false, Int.reduceNeg, decide_true, decide_false, eq_self, not_true_eq_false, not_false_eq_true]; rfl) rfl
    | with_reducible rfl
    | with_reducible refine (M_clamp.eq_1 _ _ _ _).trans ?_
    | with_reducible refine (M_setThreadLast.eq_1 _ _ _ _).trans ?_
    | with_reducible refine (M_clearThreadLast_w2.eq_1 _ _ _ _ _).trans ?_
    | with_reducible refine (s_M_clearThreadLast_l2 _ _ _ _ _).trans ?_
    | with_reducible refine (M_clearThreadLast.eq_1 _ _ _).trans ?_
    | with_reducible refine (M_writeQueueSlot.eq_1 _ _ _ _).trans ?_
    | with_reducible refine (M_clearCellQueue_w2.eq_1 _ _ _ _ _).trans ?_
    | with_reducible refine (s_M_clearCellQueue_l2 _ _ _ _ _).trans ?_
    | with_reducible refine (M_clearCellQueue.eq_1 _ _ _).trans ?_
    | with_reducible refine (M_setCellLast.eq_1 _ _ _ _).trans ?_
    | with_reducible refine (M_clearCellLast_w2.eq_1 _ _ _ _ _).trans ?_
    | with_reducible refine (s_M_clearCellLast_l2 _ _ _ _ _).trans ?_
    | with_reducible refine (M_clearCellLast.eq_1 _ _ _).trans ?_
    | with_reducible refine (M_recordOperation_b36.eq_1 _ _ _ _ _).trans ?_
    | with_reducible refine (M_recordOperation.eq_1 _ _ _ _ _).trans ?_
    | with_reducible refine (M_acceptInvoke.eq_1 _ _ _ _ _).trans ?_
    | with_reducible refine (M_validThread.eq_1 _ _).trans ?_
    | with_reducible refine (M_validKind_b15.eq_1 _).trans ?_
    | with_reducible refine (M_validKind.eq_1 _ _).trans ?_
    | with_reducible refine (M_validEnqValue.eq_1 _ _).trans ?_
    | with_reducible refine (M_invoke_b49.eq_1 _ _ _ _ _).trans ?_
    | with_reducible refine (M_invoke.eq_1 _ _ _ _ _).trans ?_
    | with_reducible refine (M_isId.eq_1 _ _).trans ?_
    | with_reducible refine (M_kindOf.eq_1 _ _).trans ?_
    | with_reducible refine (M_argOf.eq_1 _ _).trans ?_
    | with_reducible refine (M_stepAnnounce.eq_1 _ _).trans ?_
    | with_reducible refine (M_stepReadTail.eq_1 _ _).trans ?_
    | with_reducible refine (M_cellOf.eq_1 _ _).trans ?_
    | with_reducible refine (M_cellHolds.eq_1 _ _).trans ?_
    | with_reducible refine (M_cellLastOf.eq_1 _ _ _).trans ?_
    | with_reducible refine (M_copyLastFromCell_w2.eq_1 _ _ _ _ _ _).trans ?_
    | with_reducible refine (s_M_copyLastFromCell_l2 _ _ _ _ _ _).trans ?_
    | with_reducible refine (M_copyLastFromCell.eq_1 _ _ _ _).trans ?_
    | with_reducible refine (M_snapshotLast.eq_1 _ _ _ _).trans ?_
    | with_reducible refine (M_threadLast.eq_1 _ _ _).trans ?_
    | with_reducible refine (M_ownHeldInSnapshot.eq_1 _ _).trans ?_
    | with_reducible refine (M_completeOwn_b22.eq_1 _ _).trans ?_
    | with_reducible refine (M_completeOwn.eq_1 _ _).trans ?_
    | with_reducible refine (M_stepReadCell.eq_1 _ _ _).trans ?_
    | with_reducible refine (M_helpTarget_b37.eq_1 _ _).trans ?_
    | with_reducible refine (M_helpTarget_b18.eq_1 _ _).trans ?_
    | with_reducible refine (M_helpTarget.eq_1 _ _).trans ?_
    | with_reducible refine (M_stepReadAnn_b66.eq_1 _ _).trans ?_
    | with_reducible refine (M_stepReadAnn.eq_1 _ _).trans ?_
    | with_reducible refine (M_canAppend.eq_1 _ _).trans ?_
    | with_reducible refine (M_readQueueSlot.eq_1 _ _ _).trans ?_
    | with_reducible refine (M_copyCellQueue_w2.eq_1 _ _ _ _ _ _).trans ?_
    | with_reducible refine (s_M_copyCellQueue_l2 _ _ _ _ _ _).trans ?_
    | with_reducible refine (M_copyCellQueue.eq_1 _ _ _ _).trans ?_
    | with_reducible refine (M_copyCellLast_w2.eq_1 _ _ _ _ _ _).trans ?_
    | with_reducible refine (s_M_copyCellLast_l2 _ _ _ _ _ _).trans ?_
    | with_reducible refine (M_copyCellLast.eq_1 _ _ _ _).trans ?_
    | with_reducible refine (M_copyCell.eq_1 _ _ _ _).trans ?_
    | with_reducible refine (M_cellEnqueue.eq_1 _ _ _).trans ?_
    | with_reducible refine (M_cellDequeue_b63.eq_1 _ _ _ _ _).trans ?_
    | with_reducible refine (M_cellDequeue_w23.eq_1 _ _ _ _ _ _ _).trans ?_
    | with_reducible refine (s_M_cellDequeue_l23 _ _ _ _ _ _ _).trans ?_
    | with_reducible refine (M_cellDequeue.eq_1 _ _ _).trans ?_
    | with_reducible refine (M_applyInCell.eq_1 _ _ _ _ _).trans ?_
    | with_reducible refine (M_appendToLog.eq_1 _ _ _).trans ?_
    | with_reducible refine (M_stepCas_b28.eq_1 _ _ _).trans ?_
    | with_reducible refine (M_stepCas.eq_1 _ _ _).trans ?_
    | with_reducible refine (M_dispatch.eq_1 _ _ _ _).trans ?_
    | with_reducible refine (M_step.eq_1 _ _ _).trans ?_
    | with_reducible refine (M_chosenId.eq_1 _ _).trans ?_
    | with_reducible refine (M_statusOf.eq_1 _ _).trans ?_
    | with_reducible refine (M_isHeld_b17.eq_1 _).trans ?_
    | with_reducible refine (M_isHeld.eq_1 _ _).trans ?_
    | with_reducible refine (M_responseOf.eq_1 _ _).trans ?_
    | with_reducible refine (M_currentCell.eq_1 _).trans ?_
    | with_reducible refine (M_queueLength.eq_1 _).trans ?_
    | with_reducible refine (M_queueAt.eq_1 _ _).trans ?_
    | with_reducible refine (M_positionOf.eq_1 _ _).trans ?_
    | with_reducible refine (M_tail.eq_1 _).trans ?_
    | with_reducible refine (M_ownSteps.eq_1 _ _).trans ?_
    | with_reducible refine (M_phase.eq_1 _ _).trans ?_))
    | with_reducible rfl)
theorem law_true (c d w : Int32) : ∃ NF W, LAW NF c d w = some (1, W) := by
  refine ⟨300, ?_⟩
  have hm := c_mask w 32767 15 (by decide) (by decide)
  simp only [Nat.reducePow] at hm
  refine own_law c d w _ ?_ ?_ rfl
  · rw [lt_i]; show ¬ _ < (0 : Int); omega
  · rw [lt_i]; show ¬ (32767 : Int) < _; omega
set_option maxRecDepth 65536 in
set_option maxHeartbeats 40000000 in
theorem comes_1 {Post : Tables → Env → Array Value → State → Outcome → State → Prop} (hpost : ∀ tb e args s v u, (limb_1_1.after args s (.returned v) u = true ∧ limb_1_2.after args s (.returned v) u = true ∧ True) → FrameEnd s (.returned v) u (Jvm.fieldLocs frame_1_writes args s ++ Jvm.arrayLocs frame_1_arrays args s ++ Jvm.staticLocs frame_1_statics s) 56 3456 → Post tb e args s (.returned v) u) :
    Jvm.D.ArmFor flags0 classFile x code maxLocals ret World_1 tables_1 room_1 Calls_1 rest_1 Pre_1 Post := by
  intro l hfl _ _ p e ha hc hk s m args below hf hA hF happ hP
  obtain ⟨hcalls, hrest, hpre⟩ := hP
  obtain ⟨-, -, -, hnamed, -, -, -, hat⟩ := (Spec.applies_iff hf).mp happ
  obtain ⟨hg, hn⟩ := and_e (Cond.before_iff.mp (show (Jvm.Cond.and given_1 narrow_1).before args s = true from hpre))
  have hw : HW args s := fun d (hd : d ∈ tables_1) => atoms_spec (ws := Jvm.Cond.code x code maxLocals ret :: tables_1) hat d (List.mem_cons_of_mem _ hd)
  have hfit : Fit s := fun {y c} hc i hi => by
    obtain ⟨ha, rfl⟩ := Array.getElem?_eq_some_iff.mp hc
    have q := List.all_eq_true.mp ((Array.all_eq_true_iff_forall_mem.mp hF) _ (Array.getElem_mem ha)) i (List.mem_range.mpr hi)
    simpa [Array.getElem?_eq_getElem hi] using q
  obtain ⟨g0, h0⟩ := and_e hg
  obtain ⟨v0, v1, v2, rfl⟩ : ∃ v0 v1 v2 : Value, args = #[v0, v1, v2] := by
    have hs : args.size = 3 := by simpa [Cond.value, given_1] using g0
    obtain ⟨L⟩ := args
    match L, hs with
    | [v0, v1, v2], _ => exact ⟨v0, v1, v2, rfl⟩
  obtain ⟨k0, h1⟩ := and_e h0
  obtain ⟨i0, e0⟩ := is_v k0
  obtain rfl : v0 = (.int i0) := Option.some.inj e0
  obtain ⟨k1, h2⟩ := and_e h1
  obtain ⟨i1, e1⟩ := is_v k1
  obtain rfl : v1 = (.int i1) := Option.some.inj e1
  obtain ⟨i2, e2⟩ := is_v h2
  obtain rfl : v2 = (.int i2) := Option.some.inj e2
  obtain ⟨NF, W, hW⟩ := law_true i0 i1 i2
  obtain ⟨n, o, h1, h2, h3, w, L, rfl, ⟨rfl, N, -⟩, hq⟩ := con_LAW l s _ hw tables_1 0 s.heap hW p e ha hc hk s m _ below hf ((Spec.applies_iff_loose hf).mp happ).1 ⟨rfl, State.Warmed39.refl s, rfl⟩ trivial
  refine ⟨n, _, h1, h2, h3, hpost _ _ _ _ _ _ ⟨Cond.after_iff.mpr rfl, Cond.after_iff.mpr (eq_i res_at (Term.int_eval (1)) rfl), trivial⟩ ⟨hq.1, hq.2.1, (hq.2.2.sift fun y hy => Or.inr (N y hy)).mono (by decide) (by decide)⟩⟩
theorem main_1_1 : Claimed_1_1 := comes_1 fun _ _ _ _ _ _ h hF => ⟨h.1, hF⟩
theorem main_1_2 : Claimed_1_2 := comes_1 fun _ _ _ _ _ _ h hF => ⟨h.2.1, hF⟩
end Jvm.Pilot.@@N@@
namespace Jvm.Pilot.@@N@@
open Jvm Jvm.ClassFile Sem Op Lib Jvm.Free Jvm.Stand Jvm.Pilot.@@N@@.Jvm.D
/-! MADE BY PROGRAM (witnessworld.py) out of the Statement's table words and the real class files: 9 classes; the members and pool entries that the words name. The judged class is class 1, her method 1. -/
namespace start1
open Jvm.ClassFile
def u (s : String) : CpInfo := .utf8 (stringToUtf16 s)
/-- a pool by its gaps: so many unusable entries, then the entry; so many at the end -/
def gap : Nat → List CpInfo → List CpInfo
  | 0, r => r
  | n + 1, r => .unusable :: gap n r
def poolList (es : List (Nat × CpInfo)) (last : Nat) : List CpInfo := es.foldr (fun e r => gap e.1 (e.2 :: r)) (gap last [])
def pool (es : List (Nat × CpInfo)) (last : Nat) : Array CpInfo := ⟨poolList es last⟩
def fileOf (pool : Array CpInfo) (this : Nat) (attrs : Array Attribute := #[]) (ms : Array MethodInfo := #[]) (fl : Nat := 33) (sup : Nat := 0) (ifs : Array Nat := #[]) (fds : Array FieldInfo := #[]) : ClassFile where
  minorVersion := 0
  majorVersion := 65
  constantPool := pool
  accessFlags := fl
  thisClass := this
  superClass := sup
  interfaces := ifs
  fields := fds
  methods := ms
  attributes := attrs
def plain (name : String) (sup : Option ClassId) : Class where
  name := name
  kind := .ordinary
  loader := none
  accessFlags := 33
  super := sup
  interfaces := #[]
  cf := none
  fields := #[]
  methods := #[]
  instanceTypes := #[]
  staticTypes := #[]
  resolved := #[]
  callSites := []
  init := .initialized
  statics := none
  mirror := none

def pool0 : Array CpInfo := pool [(5, u "<init>"), (0, u "()V"), (1, .class_ 10), (1, u "java/lang/Object")] 113

def k0c0 : Code := { maxStack := 0, maxLocals := 1, code := object_method_1_code, exceptionTable := #[], attributes := #[] }
def k0m0 : Method := { name := "<init>", desc := "()V", sig := { parameters := [], returnType := none }, accessFlags := 1, code := some k0c0 }
/-- java/lang/Object -/
def k0 : Class := { plain "java/lang/Object" none with
  accessFlags := 33
  interfaces := #[]
  cf := some (fileOf pool0 8 #[] #[{ accessFlags := 1, nameIndex := 5, descriptorIndex := 6, attributes := #[] }] 33 0 #[] #[])
  fields := #[]
  methods := #[k0m0]
  instanceTypes := #[]
  staticTypes := #[]
  resolved := Array.replicate 124 none
  statics := none }

def pool1 : Array CpInfo := pool [(2, .class_ 4), (1, u "java/lang/Object"), (0, u "<init>"), (0, u "()V"), (0, .class_ 8), (0, u "WaitFreeUniversal"), (0, .methodref 7 10), (0, .nameAndType 5 11), (0, u "(II)V"), (0, .methodref 7 13), (0, .nameAndType 14 15), (0, u "invoke"), (0, u "(III)I"), (0, .methodref 7 17), (0, .nameAndType 18 19), (0, u "step"), (0, u "(I)I"), (0, .methodref 7 21), (0, .nameAndType 22 19), (0, u "chosenId"), (0, .methodref 7 24), (0, .nameAndType 25 19), (0, u "statusOf"), (0, .methodref 7 27), (0, .nameAndType 28 19), (0, u "responseOf"), (0, .methodref 7 30), (0, .nameAndType 31 32), (0, u "queueLength"), (0, u "()I"), (0, .methodref 7 34), (0, .nameAndType 35 19), (0, u "queueAt"), (0, .methodref 7 37), (0, .nameAndType 38 19), (0, u "positionOf"), (0, .methodref 7 40), (0, .nameAndType 41 32), (0, u "tail"), (0, .methodref 7 43), (0, .nameAndType 44 19), (0, u "ownSteps"), (0, .methodref 7 46), (0, .nameAndType 47 19), (0, u "phase"), (0, .class_ 49), (0, u "WaitFreeUniversalL3"), (2, u "law"), (0, u "(III)Z")] 3

def k1m0 : Method := { name := "<init>", desc := "()V", sig := { parameters := [], returnType := none }, accessFlags := 1, code := none }
def k1c1 : Code := { maxStack := 4, maxLocals := 5, code := code, exceptionTable := #[], attributes := #[] }
def k1m1 : Method := { name := "law", desc := "(III)Z", sig := { parameters := [.int, .int, .int], returnType := some .boolean }, accessFlags := 9, code := some k1c1 }
/-- WaitFreeUniversalL3 -/
def k1 : Class := { plain "WaitFreeUniversalL3" (some 0) with
  accessFlags := 33
  interfaces := #[]
  cf := some (fileOf pool1 48 #[] #[{ accessFlags := 1, nameIndex := 5, descriptorIndex := 6, attributes := #[] }, { accessFlags := 9, nameIndex := 52, descriptorIndex := 53, attributes := #[] }] 33 2 #[] #[])
  fields := #[]
  methods := #[k1m0, k1m1]
  instanceTypes := #[]
  staticTypes := #[]
  resolved := Array.replicate 57 none
  statics := none }

def pool2 : Array CpInfo := pool [(1, .methodref 2 3), (0, .class_ 4), (0, .nameAndType 5 6), (0, u "java/lang/Object"), (0, u "<init>"), (0, u "()V"), (0, .fieldref 8 9), (0, .class_ 10), (0, .nameAndType 11 12), (0, u "WaitFreeUniversal"), (0, u "opKind"), (0, u "[I"), (0, .fieldref 8 14), (0, .nameAndType 15 12), (0, u "opArg"), (0, .fieldref 8 17), (0, .nameAndType 18 12), (0, u "opThread"), (0, .fieldref 8 20), (0, .nameAndType 21 12), (0, u "opStatus"), (0, .fieldref 8 23), (0, .nameAndType 24 12), (0, u "opResp"), (0, .fieldref 8 26), (0, .nameAndType 27 12), (0, u "opPos"), (0, .fieldref 8 29), (0, .nameAndType 30 12), (0, u "thPhase"), (0, .fieldref 8 32), (0, .nameAndType 33 12), (0, u "thOwn"), (0, .fieldref 8 35), (0, .nameAndType 36 12), (0, u "thP"), (0, .fieldref 8 38), (0, .nameAndType 39 12), (0, u "thC"), (0, .fieldref 8 41), (0, .nameAndType 42 12), (0, u "thSteps"), (0, .fieldref 8 44), (0, .nameAndType 45 12), (0, u "thHelped"), (0, .fieldref 8 47), (0, .nameAndType 48 12), (0, u "thLast"), (0, .fieldref 8 50), (0, .nameAndType 51 12), (0, u "annId"), (0, .fieldref 8 53), (0, .nameAndType 54 12), (0, u "annKind"), (0, .fieldref 8 56), (0, .nameAndType 57 12), (0, u "annArg"), (0, .fieldref 8 59), (0, .nameAndType 60 12), (0, u "cellPos"), (0, .fieldref 8 62), (0, .nameAndType 63 12), (0, u "cellId"), (0, .fieldref 8 65), (0, .nameAndType 66 12), (0, u "cellResp"), (0, .fieldref 8 68), (0, .nameAndType 69 12), (0, u "cellCounter"), (0, .fieldref 8 71), (0, .nameAndType 72 12), (0, u "cellQLen"), (0, .fieldref 8 74), (0, .nameAndType 75 12), (0, u "cellQ"), (0, .fieldref 8 77), (0, .nameAndType 78 12), (0, u "cellLast"), (0, .methodref 8 80), (0, .nameAndType 81 82), (0, u "clamp"), (0, u "(III)I"), (0, .fieldref 8 84), (0, .nameAndType 85 86), (0, u "n"), (0, u "I"), (0, .fieldref 8 88), (0, .nameAndType 89 86), (0, u "cap"), (0, .fieldref 8 91), (0, .nameAndType 92 86), (0, u "opCount"), (0, .fieldref 8 94), (0, .nameAndType 95 86), (0, u "tailValue"), (0, .methodref 8 97), (0, .nameAndType 98 6), (0, u "resetRecords"), (0, .methodref 8 100), (0, .nameAndType 101 6), (0, u "resetThreads"), (0, .methodref 8 103), (0, .nameAndType 104 6), (0, u "resetAnnounces"), (0, .methodref 8 106), (0, .nameAndType 107 6), (0, u "resetCells"), (0, .methodref 8 109), (0, .nameAndType 110 111), (0, u "validThread"), (0, u "(I)Z"), (0, .methodref 8 113), (0, .nameAndType 114 111), (0, u "validKind"), (0, .methodref 8 116), (0, .nameAndType 117 111), (0, u "validEnqValue"), (0, .methodref 8 119), (0, .nameAndType 120 82), (0, u "acceptInvoke"), (0, .methodref 8 122), (0, .nameAndType 123 124), (0, u "dispatch"), (0, u "(II)I"), (6, u "step"), (0, u "(I)I"), (6, .methodref 8 140), (0, .nameAndType 141 142), (0, u "currentCell"), (0, u "()I"), (0, .methodref 8 144), (0, .nameAndType 145 124), (0, u "readQueueSlot"), (0, .methodref 8 147), (0, .nameAndType 148 111), (0, u "isId"), (0, .methodref 8 150), (0, .nameAndType 151 111), (0, u "isHeld"), (2, .methodref 8 155), (0, .nameAndType 156 157), (0, u "clearThreadLast"), (0, u "(I)V"), (0, .methodref 8 159), (0, .nameAndType 160 157), (0, u "clearCellQueue"), (0, .methodref 8 162), (0, .nameAndType 163 157), (0, u "clearCellLast"), (0, .methodref 8 165), (0, .nameAndType 166 167), (0, u "writeQueueSlot"), (0, u "(III)V"), (0, .methodref 8 169), (0, .nameAndType 170 167), (0, u "setCellLast"), (0, .methodref 8 172), (0, .nameAndType 173 174), (0, u "recordOperation"), (0, u "(IIII)V"), (0, .methodref 8 176), (0, .nameAndType 177 132), (0, u "stepAnnounce"), (0, .methodref 8 179), (0, .nameAndType 180 132), (0, u "stepReadTail"), (0, .methodref 8 182), (0, .nameAndType 183 132), (0, u "stepReadCell"), (0, .methodref 8 185), (0, .nameAndType 186 132), (0, u "stepReadAnn"), (0, .methodref 8 188), (0, .nameAndType 189 132), (0, u "stepCas"), (0, .methodref 8 191), (0, .nameAndType 192 132), (0, u "kindOf"), (0, .methodref 8 194), (0, .nameAndType 195 132), (0, u "argOf"), (0, .methodref 8 197), (0, .nameAndType 198 199), (0, u "snapshotLast"), (0, u "(II)V"), (0, .methodref 8 201), (0, .nameAndType 202 111), (0, u "ownHeldInSnapshot"), (0, .methodref 8 204), (0, .nameAndType 205 157), (0, u "completeOwn"), (0, .methodref 8 207), (0, .nameAndType 208 132), (0, u "helpTarget"), (0, .methodref 8 210), (0, .nameAndType 211 124), (0, u "threadLast"), (0, .methodref 8 213), (0, .nameAndType 214 111), (0, u "canAppend"), (0, .methodref 8 216), (0, .nameAndType 217 157), (0, u "appendToLog"), (0, .methodref 8 219), (0, .nameAndType 220 167), (0, u "setThreadLast"), (0, .methodref 8 222), (0, .nameAndType 223 111), (0, u "cellHolds"), (0, .methodref 8 225), (0, .nameAndType 226 132), (0, u "cellOf"), (0, .methodref 8 228), (0, .nameAndType 229 199), (0, u "copyLastFromCell"), (3, .methodref 8 234), (0, .nameAndType 235 124), (0, u "cellLastOf"), (3, .methodref 8 240), (0, .nameAndType 241 199), (0, u "copyCellQueue"), (0, .methodref 8 243), (0, .nameAndType 244 199), (0, u "copyCellLast"), (0, .methodref 8 246), (0, .nameAndType 247 199), (0, u "copyCell"), (0, .methodref 8 249), (0, .nameAndType 250 82), (0, u "applyInCell"), (3, .methodref 8 255), (0, .nameAndType 256 124), (0, u "cellEnqueue"), (0, .methodref 8 258), (0, .nameAndType 259 132), (0, u "cellDequeue"), (0, u "MIN_THREADS"), (2, u "MAX_THREADS"), (1, u "MIN_CAPACITY"), (1, u "MAX_CAPACITY"), (1, u "MAX_OPS"), (1, u "MAX_ENQ_VALUE"), (1, u "MAX_SCRIPT"), (1, u "OP_ADD"), (0, u "OP_ENQ"), (0, u "OP_DEQ"), (1, u "RESP_EMPTY"), (1, u "RESP_FULL"), (1, u "ERR_THREAD"), (0, u "ERR_BUSY"), (0, u "ERR_KIND"), (1, u "ERR_ARG"), (1, u "ERR_LIMIT"), (1, u "PH_IDLE"), (1, u "PH_ANNOUNCE"), (0, u "PH_READ_TAIL"), (0, u "PH_READ_CELL"), (0, u "PH_READ_ANN"), (0, u "PH_CAS"), (1, u "STEP_IDLE"), (0, u "STEP_ANNOUNCED"), (0, u "STEP_READ_TAIL"), (0, u "STEP_READ_CELL"), (0, u "STEP_DONE"), (0, u "STEP_READ_ANN"), (0, u "STEP_CAS_OK"), (0, u "STEP_CAS_FAIL"), (1, u "STEP_CAS_DONE"), (1, u "ST_NONE"), (0, u "ST_PENDING"), (0, u "ST_APPLIED"), (0, u "ST_DONE"), (2, u "invoke"), (2, u "phase"), (1, u "chosenId"), (1, u "ownSteps"), (0, u "tail"), (1, u "queueLength"), (0, u "queueAt"), (0, u "statusOf"), (0, u "responseOf"), (0, u "positionOf")] 4

def k2c0 : Code := { maxStack := 5, maxLocals := 3, code := prog_1_method_1_code, exceptionTable := #[], attributes := #[] }
def k2m0 : Method := { name := "<init>", desc := "(II)V", sig := { parameters := [.int, .int], returnType := none }, accessFlags := 1, code := some k2c0 }
def k2c1 : Code := { maxStack := 4, maxLocals := 4, code := prog_1_method_2_code, exceptionTable := #[], attributes := #[] }
def k2m1 : Method := { name := "invoke", desc := "(III)I", sig := { parameters := [.int, .int, .int], returnType := some .int }, accessFlags := 1, code := some k2c1 }
def k2c2 : Code := { maxStack := 4, maxLocals := 3, code := prog_1_method_3_code, exceptionTable := #[], attributes := #[] }
def k2m2 : Method := { name := "step", desc := "(I)I", sig := { parameters := [.int], returnType := some .int }, accessFlags := 1, code := some k2c2 }
def k2c3 : Code := { maxStack := 2, maxLocals := 2, code := prog_1_method_5_code, exceptionTable := #[], attributes := #[] }
def k2m3 : Method := { name := "phase", desc := "(I)I", sig := { parameters := [.int], returnType := some .int }, accessFlags := 1, code := some k2c3 }
def k2c4 : Code := { maxStack := 2, maxLocals := 2, code := prog_1_method_7_code, exceptionTable := #[], attributes := #[] }
def k2m4 : Method := { name := "chosenId", desc := "(I)I", sig := { parameters := [.int], returnType := some .int }, accessFlags := 1, code := some k2c4 }
def k2c5 : Code := { maxStack := 2, maxLocals := 2, code := prog_1_method_9_code, exceptionTable := #[], attributes := #[] }
def k2m5 : Method := { name := "ownSteps", desc := "(I)I", sig := { parameters := [.int], returnType := some .int }, accessFlags := 1, code := some k2c5 }
def k2c6 : Code := { maxStack := 1, maxLocals := 1, code := prog_1_method_10_code, exceptionTable := #[], attributes := #[] }
def k2m6 : Method := { name := "tail", desc := "()I", sig := { parameters := [], returnType := some .int }, accessFlags := 1, code := some k2c6 }
def k2c7 : Code := { maxStack := 2, maxLocals := 1, code := prog_1_method_12_code, exceptionTable := #[], attributes := #[] }
def k2m7 : Method := { name := "queueLength", desc := "()I", sig := { parameters := [], returnType := some .int }, accessFlags := 1, code := some k2c7 }
def k2c8 : Code := { maxStack := 3, maxLocals := 4, code := prog_1_method_13_code, exceptionTable := #[], attributes := #[] }
def k2m8 : Method := { name := "queueAt", desc := "(I)I", sig := { parameters := [.int], returnType := some .int }, accessFlags := 1, code := some k2c8 }
def k2c9 : Code := { maxStack := 2, maxLocals := 2, code := prog_1_method_14_code, exceptionTable := #[], attributes := #[] }
def k2m9 : Method := { name := "statusOf", desc := "(I)I", sig := { parameters := [.int], returnType := some .int }, accessFlags := 1, code := some k2c9 }
def k2c10 : Code := { maxStack := 2, maxLocals := 2, code := prog_1_method_15_code, exceptionTable := #[], attributes := #[] }
def k2m10 : Method := { name := "responseOf", desc := "(I)I", sig := { parameters := [.int], returnType := some .int }, accessFlags := 1, code := some k2c10 }
def k2c11 : Code := { maxStack := 2, maxLocals := 2, code := prog_1_method_16_code, exceptionTable := #[], attributes := #[] }
def k2m11 : Method := { name := "positionOf", desc := "(I)I", sig := { parameters := [.int], returnType := some .int }, accessFlags := 1, code := some k2c11 }
def k2c12 : Code := { maxStack := 2, maxLocals := 4, code := prog_1_method_18_code, exceptionTable := #[], attributes := #[] }
def k2m12 : Method := { name := "clamp", desc := "(III)I", sig := { parameters := [.int, .int, .int], returnType := some .int }, accessFlags := 2, code := some k2c12 }
def k2c13 : Code := { maxStack := 2, maxLocals := 2, code := prog_1_method_19_code, exceptionTable := #[], attributes := #[] }
def k2m13 : Method := { name := "validThread", desc := "(I)Z", sig := { parameters := [.int], returnType := some .boolean }, accessFlags := 2, code := some k2c13 }
def k2c14 : Code := { maxStack := 2, maxLocals := 2, code := prog_1_method_20_code, exceptionTable := #[], attributes := #[] }
def k2m14 : Method := { name := "validKind", desc := "(I)Z", sig := { parameters := [.int], returnType := some .boolean }, accessFlags := 2, code := some k2c14 }
def k2c15 : Code := { maxStack := 2, maxLocals := 2, code := prog_1_method_21_code, exceptionTable := #[], attributes := #[] }
def k2m15 : Method := { name := "validEnqValue", desc := "(I)Z", sig := { parameters := [.int], returnType := some .boolean }, accessFlags := 2, code := some k2c15 }
def k2c16 : Code := { maxStack := 2, maxLocals := 2, code := prog_1_method_22_code, exceptionTable := #[], attributes := #[] }
def k2m16 : Method := { name := "isId", desc := "(I)Z", sig := { parameters := [.int], returnType := some .boolean }, accessFlags := 2, code := some k2c16 }
def k2c17 : Code := { maxStack := 2, maxLocals := 3, code := prog_1_method_23_code, exceptionTable := #[], attributes := #[] }
def k2m17 : Method := { name := "isHeld", desc := "(I)Z", sig := { parameters := [.int], returnType := some .boolean }, accessFlags := 2, code := some k2c17 }
def k2c18 : Code := { maxStack := 3, maxLocals := 2, code := prog_1_method_27_code, exceptionTable := #[], attributes := #[] }
def k2m18 : Method := { name := "resetRecords", desc := "()V", sig := { parameters := [], returnType := none }, accessFlags := 2, code := some k2c18 }
def k2c19 : Code := { maxStack := 3, maxLocals := 2, code := prog_1_method_28_code, exceptionTable := #[], attributes := #[] }
def k2m19 : Method := { name := "resetThreads", desc := "()V", sig := { parameters := [], returnType := none }, accessFlags := 2, code := some k2c19 }
def k2c20 : Code := { maxStack := 3, maxLocals := 2, code := prog_1_method_29_code, exceptionTable := #[], attributes := #[] }
def k2m20 : Method := { name := "resetAnnounces", desc := "()V", sig := { parameters := [], returnType := none }, accessFlags := 2, code := some k2c20 }
def k2c21 : Code := { maxStack := 3, maxLocals := 2, code := prog_1_method_30_code, exceptionTable := #[], attributes := #[] }
def k2m21 : Method := { name := "resetCells", desc := "()V", sig := { parameters := [], returnType := none }, accessFlags := 2, code := some k2c21 }
def k2c22 : Code := { maxStack := 4, maxLocals := 3, code := prog_1_method_31_code, exceptionTable := #[], attributes := #[] }
def k2m22 : Method := { name := "clearCellQueue", desc := "(I)V", sig := { parameters := [.int], returnType := none }, accessFlags := 2, code := some k2c22 }
def k2c23 : Code := { maxStack := 4, maxLocals := 3, code := prog_1_method_32_code, exceptionTable := #[], attributes := #[] }
def k2m23 : Method := { name := "clearCellLast", desc := "(I)V", sig := { parameters := [.int], returnType := none }, accessFlags := 2, code := some k2c23 }
def k2c24 : Code := { maxStack := 5, maxLocals := 5, code := prog_1_method_33_code, exceptionTable := #[], attributes := #[] }
def k2m24 : Method := { name := "acceptInvoke", desc := "(III)I", sig := { parameters := [.int, .int, .int], returnType := some .int }, accessFlags := 2, code := some k2c24 }
def k2c25 : Code := { maxStack := 4, maxLocals := 5, code := prog_1_method_34_code, exceptionTable := #[], attributes := #[] }
def k2m25 : Method := { name := "recordOperation", desc := "(IIII)V", sig := { parameters := [.int, .int, .int, .int], returnType := none }, accessFlags := 2, code := some k2c25 }
def k2c26 : Code := { maxStack := 2, maxLocals := 2, code := prog_1_method_35_code, exceptionTable := #[], attributes := #[] }
def k2m26 : Method := { name := "kindOf", desc := "(I)I", sig := { parameters := [.int], returnType := some .int }, accessFlags := 2, code := some k2c26 }
def k2c27 : Code := { maxStack := 2, maxLocals := 2, code := prog_1_method_36_code, exceptionTable := #[], attributes := #[] }
def k2m27 : Method := { name := "argOf", desc := "(I)I", sig := { parameters := [.int], returnType := some .int }, accessFlags := 2, code := some k2c27 }
def k2c28 : Code := { maxStack := 2, maxLocals := 3, code := prog_1_method_37_code, exceptionTable := #[], attributes := #[] }
def k2m28 : Method := { name := "dispatch", desc := "(II)I", sig := { parameters := [.int, .int], returnType := some .int }, accessFlags := 2, code := some k2c28 }
def k2c29 : Code := { maxStack := 4, maxLocals := 3, code := prog_1_method_38_code, exceptionTable := #[], attributes := #[] }
def k2m29 : Method := { name := "stepAnnounce", desc := "(I)I", sig := { parameters := [.int], returnType := some .int }, accessFlags := 2, code := some k2c29 }
def k2c30 : Code := { maxStack := 3, maxLocals := 2, code := prog_1_method_39_code, exceptionTable := #[], attributes := #[] }
def k2m30 : Method := { name := "stepReadTail", desc := "(I)I", sig := { parameters := [.int], returnType := some .int }, accessFlags := 2, code := some k2c30 }
def k2c31 : Code := { maxStack := 3, maxLocals := 3, code := prog_1_method_40_code, exceptionTable := #[], attributes := #[] }
def k2m31 : Method := { name := "stepReadCell", desc := "(I)I", sig := { parameters := [.int], returnType := some .int }, accessFlags := 2, code := some k2c31 }
def k2c32 : Code := { maxStack := 4, maxLocals := 6, code := prog_1_method_41_code, exceptionTable := #[], attributes := #[] }
def k2m32 : Method := { name := "stepReadAnn", desc := "(I)I", sig := { parameters := [.int], returnType := some .int }, accessFlags := 2, code := some k2c32 }
def k2c33 : Code := { maxStack := 3, maxLocals := 3, code := prog_1_method_42_code, exceptionTable := #[], attributes := #[] }
def k2m33 : Method := { name := "stepCas", desc := "(I)I", sig := { parameters := [.int], returnType := some .int }, accessFlags := 2, code := some k2c33 }
def k2c34 : Code := { maxStack := 3, maxLocals := 3, code := prog_1_method_43_code, exceptionTable := #[], attributes := #[] }
def k2m34 : Method := { name := "completeOwn", desc := "(I)V", sig := { parameters := [.int], returnType := none }, accessFlags := 2, code := some k2c34 }
def k2c35 : Code := { maxStack := 2, maxLocals := 3, code := prog_1_method_44_code, exceptionTable := #[], attributes := #[] }
def k2m35 : Method := { name := "helpTarget", desc := "(I)I", sig := { parameters := [.int], returnType := some .int }, accessFlags := 2, code := some k2c35 }
def k2c36 : Code := { maxStack := 4, maxLocals := 3, code := prog_1_method_45_code, exceptionTable := #[], attributes := #[] }
def k2m36 : Method := { name := "clearThreadLast", desc := "(I)V", sig := { parameters := [.int], returnType := none }, accessFlags := 2, code := some k2c36 }
def k2c37 : Code := { maxStack := 3, maxLocals := 3, code := prog_1_method_46_code, exceptionTable := #[], attributes := #[] }
def k2m37 : Method := { name := "threadLast", desc := "(II)I", sig := { parameters := [.int, .int], returnType := some .int }, accessFlags := 2, code := some k2c37 }
def k2c38 : Code := { maxStack := 3, maxLocals := 4, code := prog_1_method_47_code, exceptionTable := #[], attributes := #[] }
def k2m38 : Method := { name := "setThreadLast", desc := "(III)V", sig := { parameters := [.int, .int, .int], returnType := none }, accessFlags := 2, code := some k2c38 }
def k2c39 : Code := { maxStack := 3, maxLocals := 3, code := prog_1_method_49_code, exceptionTable := #[], attributes := #[] }
def k2m39 : Method := { name := "ownHeldInSnapshot", desc := "(I)Z", sig := { parameters := [.int], returnType := some .boolean }, accessFlags := 2, code := some k2c39 }
def k2c40 : Code := { maxStack := 4, maxLocals := 3, code := prog_1_method_50_code, exceptionTable := #[], attributes := #[] }
def k2m40 : Method := { name := "snapshotLast", desc := "(II)V", sig := { parameters := [.int, .int], returnType := none }, accessFlags := 2, code := some k2c40 }
def k2c41 : Code := { maxStack := 4, maxLocals := 5, code := prog_1_method_51_code, exceptionTable := #[], attributes := #[] }
def k2m41 : Method := { name := "copyLastFromCell", desc := "(II)V", sig := { parameters := [.int, .int], returnType := none }, accessFlags := 2, code := some k2c41 }
def k2c42 : Code := { maxStack := 2, maxLocals := 2, code := prog_1_method_53_code, exceptionTable := #[], attributes := #[] }
def k2m42 : Method := { name := "cellOf", desc := "(I)I", sig := { parameters := [.int], returnType := some .int }, accessFlags := 2, code := some k2c42 }
def k2c43 : Code := { maxStack := 2, maxLocals := 1, code := prog_1_method_54_code, exceptionTable := #[], attributes := #[] }
def k2m43 : Method := { name := "currentCell", desc := "()I", sig := { parameters := [], returnType := some .int }, accessFlags := 2, code := some k2c43 }
def k2c44 : Code := { maxStack := 3, maxLocals := 2, code := prog_1_method_55_code, exceptionTable := #[], attributes := #[] }
def k2m44 : Method := { name := "cellHolds", desc := "(I)Z", sig := { parameters := [.int], returnType := some .boolean }, accessFlags := 2, code := some k2c44 }
def k2c45 : Code := { maxStack := 3, maxLocals := 3, code := prog_1_method_56_code, exceptionTable := #[], attributes := #[] }
def k2m45 : Method := { name := "readQueueSlot", desc := "(II)I", sig := { parameters := [.int, .int], returnType := some .int }, accessFlags := 2, code := some k2c45 }
def k2c46 : Code := { maxStack := 3, maxLocals := 4, code := prog_1_method_57_code, exceptionTable := #[], attributes := #[] }
def k2m46 : Method := { name := "writeQueueSlot", desc := "(III)V", sig := { parameters := [.int, .int, .int], returnType := none }, accessFlags := 2, code := some k2c46 }
def k2c47 : Code := { maxStack := 3, maxLocals := 3, code := prog_1_method_58_code, exceptionTable := #[], attributes := #[] }
def k2m47 : Method := { name := "cellLastOf", desc := "(II)I", sig := { parameters := [.int, .int], returnType := some .int }, accessFlags := 2, code := some k2c47 }
def k2c48 : Code := { maxStack := 3, maxLocals := 4, code := prog_1_method_59_code, exceptionTable := #[], attributes := #[] }
def k2m48 : Method := { name := "setCellLast", desc := "(III)V", sig := { parameters := [.int, .int, .int], returnType := none }, accessFlags := 2, code := some k2c48 }
def k2c49 : Code := { maxStack := 4, maxLocals := 3, code := prog_1_method_60_code, exceptionTable := #[], attributes := #[] }
def k2m49 : Method := { name := "copyCell", desc := "(II)V", sig := { parameters := [.int, .int], returnType := none }, accessFlags := 2, code := some k2c49 }
def k2c50 : Code := { maxStack := 4, maxLocals := 5, code := prog_1_method_61_code, exceptionTable := #[], attributes := #[] }
def k2m50 : Method := { name := "copyCellQueue", desc := "(II)V", sig := { parameters := [.int, .int], returnType := none }, accessFlags := 2, code := some k2c50 }
def k2c51 : Code := { maxStack := 4, maxLocals := 5, code := prog_1_method_62_code, exceptionTable := #[], attributes := #[] }
def k2m51 : Method := { name := "copyCellLast", desc := "(II)V", sig := { parameters := [.int, .int], returnType := none }, accessFlags := 2, code := some k2c51 }
def k2c52 : Code := { maxStack := 2, maxLocals := 2, code := prog_1_method_63_code, exceptionTable := #[], attributes := #[] }
def k2m52 : Method := { name := "canAppend", desc := "(I)Z", sig := { parameters := [.int], returnType := some .boolean }, accessFlags := 2, code := some k2c52 }
def k2c53 : Code := { maxStack := 5, maxLocals := 6, code := prog_1_method_64_code, exceptionTable := #[], attributes := #[] }
def k2m53 : Method := { name := "appendToLog", desc := "(I)V", sig := { parameters := [.int], returnType := none }, accessFlags := 2, code := some k2c53 }
def k2c54 : Code := { maxStack := 3, maxLocals := 4, code := prog_1_method_65_code, exceptionTable := #[], attributes := #[] }
def k2m54 : Method := { name := "applyInCell", desc := "(III)I", sig := { parameters := [.int, .int, .int], returnType := some .int }, accessFlags := 2, code := some k2c54 }
def k2c55 : Code := { maxStack := 4, maxLocals := 4, code := prog_1_method_67_code, exceptionTable := #[], attributes := #[] }
def k2m55 : Method := { name := "cellEnqueue", desc := "(II)I", sig := { parameters := [.int, .int], returnType := some .int }, accessFlags := 2, code := some k2c55 }
def k2c56 : Code := { maxStack := 4, maxLocals := 6, code := prog_1_method_68_code, exceptionTable := #[], attributes := #[] }
def k2m56 : Method := { name := "cellDequeue", desc := "(I)I", sig := { parameters := [.int], returnType := some .int }, accessFlags := 2, code := some k2c56 }
/-- WaitFreeUniversal -/
def k2 : Class := { plain "WaitFreeUniversal" (some 0) with
  accessFlags := 49
  interfaces := #[]
  cf := some (fileOf pool2 8 #[] #[{ accessFlags := 1, nameIndex := 5, descriptorIndex := 199, attributes := #[] }, { accessFlags := 1, nameIndex := 316, descriptorIndex := 82, attributes := #[] }, { accessFlags := 1, nameIndex := 131, descriptorIndex := 132, attributes := #[] }, { accessFlags := 1, nameIndex := 319, descriptorIndex := 132, attributes := #[] }, { accessFlags := 1, nameIndex := 321, descriptorIndex := 132, attributes := #[] }, { accessFlags := 1, nameIndex := 323, descriptorIndex := 132, attributes := #[] }, { accessFlags := 1, nameIndex := 324, descriptorIndex := 142, attributes := #[] }, { accessFlags := 1, nameIndex := 326, descriptorIndex := 142, attributes := #[] }, { accessFlags := 1, nameIndex := 327, descriptorIndex := 132, attributes := #[] }, { accessFlags := 1, nameIndex := 328, descriptorIndex := 132, attributes := #[] }, { accessFlags := 1, nameIndex := 329, descriptorIndex := 132, attributes := #[] }, { accessFlags := 1, nameIndex := 330, descriptorIndex := 132, attributes := #[] }, { accessFlags := 2, nameIndex := 81, descriptorIndex := 82, attributes := #[] }, { accessFlags := 2, nameIndex := 110, descriptorIndex := 111, attributes := #[] }, { accessFlags := 2, nameIndex := 114, descriptorIndex := 111, attributes := #[] }, { accessFlags := 2, nameIndex := 117, descriptorIndex := 111, attributes := #[] }, { accessFlags := 2, nameIndex := 148, descriptorIndex := 111, attributes := #[] }, { accessFlags := 2, nameIndex := 151, descriptorIndex := 111, attributes := #[] }, { accessFlags := 2, nameIndex := 98, descriptorIndex := 6, attributes := #[] }, { accessFlags := 2, nameIndex := 101, descriptorIndex := 6, attributes := #[] }, { accessFlags := 2, nameIndex := 104, descriptorIndex := 6, attributes := #[] }, { accessFlags := 2, nameIndex := 107, descriptorIndex := 6, attributes := #[] }, { accessFlags := 2, nameIndex := 160, descriptorIndex := 157, attributes := #[] }, { accessFlags := 2, nameIndex := 163, descriptorIndex := 157, attributes := #[] }, { accessFlags := 2, nameIndex := 120, descriptorIndex := 82, attributes := #[] }, { accessFlags := 2, nameIndex := 173, descriptorIndex := 174, attributes := #[] }, { accessFlags := 2, nameIndex := 192, descriptorIndex := 132, attributes := #[] }, { accessFlags := 2, nameIndex := 195, descriptorIndex := 132, attributes := #[] }, { accessFlags := 2, nameIndex := 123, descriptorIndex := 124, attributes := #[] }, { accessFlags := 2, nameIndex := 177, descriptorIndex := 132, attributes := #[] }, { accessFlags := 2, nameIndex := 180, descriptorIndex := 132, attributes := #[] }, { accessFlags := 2, nameIndex := 183, descriptorIndex := 132, attributes := #[] }, { accessFlags := 2, nameIndex := 186, descriptorIndex := 132, attributes := #[] }, { accessFlags := 2, nameIndex := 189, descriptorIndex := 132, attributes := #[] }, { accessFlags := 2, nameIndex := 205, descriptorIndex := 157, attributes := #[] }, { accessFlags := 2, nameIndex := 208, descriptorIndex := 132, attributes := #[] }, { accessFlags := 2, nameIndex := 156, descriptorIndex := 157, attributes := #[] }, { accessFlags := 2, nameIndex := 211, descriptorIndex := 124, attributes := #[] }, { accessFlags := 2, nameIndex := 220, descriptorIndex := 167, attributes := #[] }, { accessFlags := 2, nameIndex := 202, descriptorIndex := 111, attributes := #[] }, { accessFlags := 2, nameIndex := 198, descriptorIndex := 199, attributes := #[] }, { accessFlags := 2, nameIndex := 229, descriptorIndex := 199, attributes := #[] }, { accessFlags := 2, nameIndex := 226, descriptorIndex := 132, attributes := #[] }, { accessFlags := 2, nameIndex := 141, descriptorIndex := 142, attributes := #[] }, { accessFlags := 2, nameIndex := 223, descriptorIndex := 111, attributes := #[] }, { accessFlags := 2, nameIndex := 145, descriptorIndex := 124, attributes := #[] }, { accessFlags := 2, nameIndex := 166, descriptorIndex := 167, attributes := #[] }, { accessFlags := 2, nameIndex := 235, descriptorIndex := 124, attributes := #[] }, { accessFlags := 2, nameIndex := 170, descriptorIndex := 167, attributes := #[] }, { accessFlags := 2, nameIndex := 247, descriptorIndex := 199, attributes := #[] }, { accessFlags := 2, nameIndex := 241, descriptorIndex := 199, attributes := #[] }, { accessFlags := 2, nameIndex := 244, descriptorIndex := 199, attributes := #[] }, { accessFlags := 2, nameIndex := 214, descriptorIndex := 111, attributes := #[] }, { accessFlags := 2, nameIndex := 217, descriptorIndex := 157, attributes := #[] }, { accessFlags := 2, nameIndex := 250, descriptorIndex := 82, attributes := #[] }, { accessFlags := 2, nameIndex := 256, descriptorIndex := 124, attributes := #[] }, { accessFlags := 2, nameIndex := 259, descriptorIndex := 132, attributes := #[] }] 49 2 #[] #[{ accessFlags := 25, nameIndex := 260, descriptorIndex := 86, attributes := #[] }, { accessFlags := 25, nameIndex := 263, descriptorIndex := 86, attributes := #[] }, { accessFlags := 25, nameIndex := 265, descriptorIndex := 86, attributes := #[] }, { accessFlags := 25, nameIndex := 267, descriptorIndex := 86, attributes := #[] }, { accessFlags := 25, nameIndex := 269, descriptorIndex := 86, attributes := #[] }, { accessFlags := 25, nameIndex := 271, descriptorIndex := 86, attributes := #[] }, { accessFlags := 25, nameIndex := 273, descriptorIndex := 86, attributes := #[] }, { accessFlags := 25, nameIndex := 275, descriptorIndex := 86, attributes := #[] }, { accessFlags := 25, nameIndex := 276, descriptorIndex := 86, attributes := #[] }, { accessFlags := 25, nameIndex := 277, descriptorIndex := 86, attributes := #[] }, { accessFlags := 25, nameIndex := 279, descriptorIndex := 86, attributes := #[] }, { accessFlags := 25, nameIndex := 281, descriptorIndex := 86, attributes := #[] }, { accessFlags := 25, nameIndex := 283, descriptorIndex := 86, attributes := #[] }, { accessFlags := 25, nameIndex := 284, descriptorIndex := 86, attributes := #[] }, { accessFlags := 25, nameIndex := 285, descriptorIndex := 86, attributes := #[] }, { accessFlags := 25, nameIndex := 287, descriptorIndex := 86, attributes := #[] }, { accessFlags := 25, nameIndex := 289, descriptorIndex := 86, attributes := #[] }, { accessFlags := 25, nameIndex := 291, descriptorIndex := 86, attributes := #[] }, { accessFlags := 25, nameIndex := 293, descriptorIndex := 86, attributes := #[] }, { accessFlags := 25, nameIndex := 294, descriptorIndex := 86, attributes := #[] }, { accessFlags := 25, nameIndex := 295, descriptorIndex := 86, attributes := #[] }, { accessFlags := 25, nameIndex := 296, descriptorIndex := 86, attributes := #[] }, { accessFlags := 25, nameIndex := 297, descriptorIndex := 86, attributes := #[] }, { accessFlags := 25, nameIndex := 299, descriptorIndex := 86, attributes := #[] }, { accessFlags := 25, nameIndex := 300, descriptorIndex := 86, attributes := #[] }, { accessFlags := 25, nameIndex := 301, descriptorIndex := 86, attributes := #[] }, { accessFlags := 25, nameIndex := 302, descriptorIndex := 86, attributes := #[] }, { accessFlags := 25, nameIndex := 303, descriptorIndex := 86, attributes := #[] }, { accessFlags := 25, nameIndex := 304, descriptorIndex := 86, attributes := #[] }, { accessFlags := 25, nameIndex := 305, descriptorIndex := 86, attributes := #[] }, { accessFlags := 25, nameIndex := 306, descriptorIndex := 86, attributes := #[] }, { accessFlags := 25, nameIndex := 308, descriptorIndex := 86, attributes := #[] }, { accessFlags := 25, nameIndex := 310, descriptorIndex := 86, attributes := #[] }, { accessFlags := 25, nameIndex := 311, descriptorIndex := 86, attributes := #[] }, { accessFlags := 25, nameIndex := 312, descriptorIndex := 86, attributes := #[] }, { accessFlags := 25, nameIndex := 313, descriptorIndex := 86, attributes := #[] }, { accessFlags := 2, nameIndex := 85, descriptorIndex := 86, attributes := #[] }, { accessFlags := 2, nameIndex := 89, descriptorIndex := 86, attributes := #[] }, { accessFlags := 2, nameIndex := 92, descriptorIndex := 86, attributes := #[] }, { accessFlags := 2, nameIndex := 11, descriptorIndex := 12, attributes := #[] }, { accessFlags := 2, nameIndex := 15, descriptorIndex := 12, attributes := #[] }, { accessFlags := 2, nameIndex := 18, descriptorIndex := 12, attributes := #[] }, { accessFlags := 2, nameIndex := 21, descriptorIndex := 12, attributes := #[] }, { accessFlags := 2, nameIndex := 24, descriptorIndex := 12, attributes := #[] }, { accessFlags := 2, nameIndex := 27, descriptorIndex := 12, attributes := #[] }, { accessFlags := 2, nameIndex := 30, descriptorIndex := 12, attributes := #[] }, { accessFlags := 2, nameIndex := 33, descriptorIndex := 12, attributes := #[] }, { accessFlags := 2, nameIndex := 36, descriptorIndex := 12, attributes := #[] }, { accessFlags := 2, nameIndex := 39, descriptorIndex := 12, attributes := #[] }, { accessFlags := 2, nameIndex := 42, descriptorIndex := 12, attributes := #[] }, { accessFlags := 2, nameIndex := 45, descriptorIndex := 12, attributes := #[] }, { accessFlags := 2, nameIndex := 48, descriptorIndex := 12, attributes := #[] }, { accessFlags := 2, nameIndex := 95, descriptorIndex := 86, attributes := #[] }, { accessFlags := 2, nameIndex := 51, descriptorIndex := 12, attributes := #[] }, { accessFlags := 2, nameIndex := 54, descriptorIndex := 12, attributes := #[] }, { accessFlags := 2, nameIndex := 57, descriptorIndex := 12, attributes := #[] }, { accessFlags := 2, nameIndex := 60, descriptorIndex := 12, attributes := #[] }, { accessFlags := 2, nameIndex := 63, descriptorIndex := 12, attributes := #[] }, { accessFlags := 2, nameIndex := 66, descriptorIndex := 12, attributes := #[] }, { accessFlags := 2, nameIndex := 69, descriptorIndex := 12, attributes := #[] }, { accessFlags := 2, nameIndex := 72, descriptorIndex := 12, attributes := #[] }, { accessFlags := 2, nameIndex := 75, descriptorIndex := 12, attributes := #[] }, { accessFlags := 2, nameIndex := 78, descriptorIndex := 12, attributes := #[] }])
  fields := #[{ name := "MIN_THREADS", type := .int, accessFlags := 25, slot := 0, constantValue := 0 }, { name := "MAX_THREADS", type := .int, accessFlags := 25, slot := 1, constantValue := 0 }, { name := "MIN_CAPACITY", type := .int, accessFlags := 25, slot := 2, constantValue := 0 }, { name := "MAX_CAPACITY", type := .int, accessFlags := 25, slot := 3, constantValue := 0 }, { name := "MAX_OPS", type := .int, accessFlags := 25, slot := 4, constantValue := 0 }, { name := "MAX_ENQ_VALUE", type := .int, accessFlags := 25, slot := 5, constantValue := 0 }, { name := "MAX_SCRIPT", type := .int, accessFlags := 25, slot := 6, constantValue := 0 }, { name := "OP_ADD", type := .int, accessFlags := 25, slot := 7, constantValue := 0 }, { name := "OP_ENQ", type := .int, accessFlags := 25, slot := 8, constantValue := 0 }, { name := "OP_DEQ", type := .int, accessFlags := 25, slot := 9, constantValue := 0 }, { name := "RESP_EMPTY", type := .int, accessFlags := 25, slot := 10, constantValue := 0 }, { name := "RESP_FULL", type := .int, accessFlags := 25, slot := 11, constantValue := 0 }, { name := "ERR_THREAD", type := .int, accessFlags := 25, slot := 12, constantValue := 0 }, { name := "ERR_BUSY", type := .int, accessFlags := 25, slot := 13, constantValue := 0 }, { name := "ERR_KIND", type := .int, accessFlags := 25, slot := 14, constantValue := 0 }, { name := "ERR_ARG", type := .int, accessFlags := 25, slot := 15, constantValue := 0 }, { name := "ERR_LIMIT", type := .int, accessFlags := 25, slot := 16, constantValue := 0 }, { name := "PH_IDLE", type := .int, accessFlags := 25, slot := 17, constantValue := 0 }, { name := "PH_ANNOUNCE", type := .int, accessFlags := 25, slot := 18, constantValue := 0 }, { name := "PH_READ_TAIL", type := .int, accessFlags := 25, slot := 19, constantValue := 0 }, { name := "PH_READ_CELL", type := .int, accessFlags := 25, slot := 20, constantValue := 0 }, { name := "PH_READ_ANN", type := .int, accessFlags := 25, slot := 21, constantValue := 0 }, { name := "PH_CAS", type := .int, accessFlags := 25, slot := 22, constantValue := 0 }, { name := "STEP_IDLE", type := .int, accessFlags := 25, slot := 23, constantValue := 0 }, { name := "STEP_ANNOUNCED", type := .int, accessFlags := 25, slot := 24, constantValue := 0 }, { name := "STEP_READ_TAIL", type := .int, accessFlags := 25, slot := 25, constantValue := 0 }, { name := "STEP_READ_CELL", type := .int, accessFlags := 25, slot := 26, constantValue := 0 }, { name := "STEP_DONE", type := .int, accessFlags := 25, slot := 27, constantValue := 0 }, { name := "STEP_READ_ANN", type := .int, accessFlags := 25, slot := 28, constantValue := 0 }, { name := "STEP_CAS_OK", type := .int, accessFlags := 25, slot := 29, constantValue := 0 }, { name := "STEP_CAS_FAIL", type := .int, accessFlags := 25, slot := 30, constantValue := 0 }, { name := "STEP_CAS_DONE", type := .int, accessFlags := 25, slot := 31, constantValue := 0 }, { name := "ST_NONE", type := .int, accessFlags := 25, slot := 32, constantValue := 0 }, { name := "ST_PENDING", type := .int, accessFlags := 25, slot := 33, constantValue := 0 }, { name := "ST_APPLIED", type := .int, accessFlags := 25, slot := 34, constantValue := 0 }, { name := "ST_DONE", type := .int, accessFlags := 25, slot := 35, constantValue := 0 }, { name := "n", type := .int, accessFlags := 2, slot := 0, constantValue := 0 }, { name := "cap", type := .int, accessFlags := 2, slot := 1, constantValue := 0 }, { name := "opCount", type := .int, accessFlags := 2, slot := 2, constantValue := 0 }, { name := "opKind", type := (.array .int), accessFlags := 2, slot := 3, constantValue := 0 }, { name := "opArg", type := (.array .int), accessFlags := 2, slot := 4, constantValue := 0 }, { name := "opThread", type := (.array .int), accessFlags := 2, slot := 5, constantValue := 0 }, { name := "opStatus", type := (.array .int), accessFlags := 2, slot := 6, constantValue := 0 }, { name := "opResp", type := (.array .int), accessFlags := 2, slot := 7, constantValue := 0 }, { name := "opPos", type := (.array .int), accessFlags := 2, slot := 8, constantValue := 0 }, { name := "thPhase", type := (.array .int), accessFlags := 2, slot := 9, constantValue := 0 }, { name := "thOwn", type := (.array .int), accessFlags := 2, slot := 10, constantValue := 0 }, { name := "thP", type := (.array .int), accessFlags := 2, slot := 11, constantValue := 0 }, { name := "thC", type := (.array .int), accessFlags := 2, slot := 12, constantValue := 0 }, { name := "thSteps", type := (.array .int), accessFlags := 2, slot := 13, constantValue := 0 }, { name := "thHelped", type := (.array .int), accessFlags := 2, slot := 14, constantValue := 0 }, { name := "thLast", type := (.array .int), accessFlags := 2, slot := 15, constantValue := 0 }, { name := "tailValue", type := .int, accessFlags := 2, slot := 16, constantValue := 0 }, { name := "annId", type := (.array .int), accessFlags := 2, slot := 17, constantValue := 0 }, { name := "annKind", type := (.array .int), accessFlags := 2, slot := 18, constantValue := 0 }, { name := "annArg", type := (.array .int), accessFlags := 2, slot := 19, constantValue := 0 }, { name := "cellPos", type := (.array .int), accessFlags := 2, slot := 20, constantValue := 0 }, { name := "cellId", type := (.array .int), accessFlags := 2, slot := 21, constantValue := 0 }, { name := "cellResp", type := (.array .int), accessFlags := 2, slot := 22, constantValue := 0 }, { name := "cellCounter", type := (.array .int), accessFlags := 2, slot := 23, constantValue := 0 }, { name := "cellQLen", type := (.array .int), accessFlags := 2, slot := 24, constantValue := 0 }, { name := "cellQ", type := (.array .int), accessFlags := 2, slot := 25, constantValue := 0 }, { name := "cellLast", type := (.array .int), accessFlags := 2, slot := 26, constantValue := 0 }]
  methods := #[k2m0, k2m1, k2m2, k2m3, k2m4, k2m5, k2m6, k2m7, k2m8, k2m9, k2m10, k2m11, k2m12, k2m13, k2m14, k2m15, k2m16, k2m17, k2m18, k2m19, k2m20, k2m21, k2m22, k2m23, k2m24, k2m25, k2m26, k2m27, k2m28, k2m29, k2m30, k2m31, k2m32, k2m33, k2m34, k2m35, k2m36, k2m37, k2m38, k2m39, k2m40, k2m41, k2m42, k2m43, k2m44, k2m45, k2m46, k2m47, k2m48, k2m49, k2m50, k2m51, k2m52, k2m53, k2m54, k2m55, k2m56]
  instanceTypes := #[.int, .int, .int, (.array .int), (.array .int), (.array .int), (.array .int), (.array .int), (.array .int), (.array .int), (.array .int), (.array .int), (.array .int), (.array .int), (.array .int), (.array .int), .int, (.array .int), (.array .int), (.array .int), (.array .int), (.array .int), (.array .int), (.array .int), (.array .int), (.array .int), (.array .int)]
  staticTypes := #[.int, .int, .int, .int, .int, .int, .int, .int, .int, .int, .int, .int, .int, .int, .int, .int, .int, .int, .int, .int, .int, .int, .int, .int, .int, .int, .int, .int, .int, .int, .int, .int, .int, .int, .int, .int]
  resolved := Array.replicate 335 none
  statics := none }

def pool3 : Array CpInfo := pool [(1, u "java/lang/Cloneable"), (0, .class_ 1), (0, u "java/lang/Object"), (0, .class_ 3)] 3

/-- java/lang/Cloneable -/
def k3 : Class := { plain "java/lang/Cloneable" (some 0) with
  accessFlags := 1537
  interfaces := #[]
  cf := some (fileOf pool3 2 #[] #[] 1537 4 #[] #[])
  fields := #[]
  methods := #[]
  instanceTypes := #[]
  staticTypes := #[]
  resolved := Array.replicate 8 none
  statics := none }

def pool4 : Array CpInfo := pool [(1, u "java/io/Serializable"), (0, .class_ 1), (0, u "java/lang/Object"), (0, .class_ 3)] 3

/-- java/io/Serializable -/
def k4 : Class := { plain "java/io/Serializable" (some 0) with
  accessFlags := 1537
  interfaces := #[]
  cf := some (fileOf pool4 2 #[] #[] 1537 4 #[] #[])
  fields := #[]
  methods := #[]
  instanceTypes := #[]
  staticTypes := #[]
  resolved := Array.replicate 8 none
  statics := none }

/-- the primitive byte -/
def k5 : Class := { plain "byte" none with kind := .primitive 'B', accessFlags := 0x411 }
/-- [B -/
def k6 : Class := { plain "[B" (some 0) with kind := .array 5 .byte, interfaces := #[3, 4], accessFlags := 1041 }

/-- the primitive int -/
def k7 : Class := { plain "int" none with kind := .primitive 'I', accessFlags := 0x411 }
/-- [I -/
def k8 : Class := { plain "[I" (some 0) with kind := .array 7 .int, interfaces := #[3, 4], accessFlags := 1041 }

def heap : Heap := #[]
def classes : Array Class := #[k0, k1, k2, k3, k4, k5, k6, k7, k8]
def interned : List (Array UInt16 × Addr) := []
def slotsUsed : Nat := 0
def theMethod : MethodId := ⟨1, 1⟩
def args0 : Array Value := #[.int 5, .int 5, .int 5]
def aboutOver (below : List Frame) : State where
  vm := { classes := classes, interned := interned.toArray }
  heap := heap
  slotsUsed := slotsUsed
  threads := #[{ frames := .invoking theMethod args0 :: below }]
def below0 : List Frame := [.native { method := ⟨0, 0⟩, args := #[] }]
def about1 : State := aboutOver below0
def p0 : Program := .bare "" "" ""
def e0 : Env := launch0.env 0 0 0
theorem w_frames : about1.frames = Frame.invoking theMethod args0 :: below0 := rfl
set_option maxRecDepth 65536 in
theorem w_args : argsFit about1.vm theMethod args0 = true := by decide +kernel
set_option maxRecDepth 65536 in
theorem w_heap : heapFits about1 = true := by decide +kernel
set_option maxRecDepth 65536 in
theorem w_runnable : about1.curStatus? = some .runnable := by decide +kernel
set_option maxRecDepth 65536 in
theorem w_alone : about1.alone = true := by decide +kernel
set_option maxRecDepth 65536 in
theorem w_named : about1.methodNamed? x = some theMethod := by decide +kernel
set_option maxRecDepth 65536 in
theorem w_hears : about1.hears theMethod below0 = true := by decide +kernel
set_option maxRecDepth 65536 in
theorem w_ripe : about1.ripe theMethod args0 below0 = true := by decide +kernel
theorem w_running : about1.status = .running := rfl
set_option maxRecDepth 65536 in
theorem w_room : about1.hasRoom e0.platform room_1 = true :=
  launch0.hasRoom_least _ room_1 (by decide +kernel) (by decide +kernel) (by decide +kernel) (by decide +kernel) (by decide +kernel) (by decide +kernel)
theorem allAtoms_all (ts : List Jvm.Cond) (a : Array Jvm.Value) (st : Jvm.State) : (allAtoms ts).before a st = ts.all (fun c => c.before a st) := by
  induction ts with
  | nil => rfl
  | cons c t ih =>
    show (Jvm.Cond.and c (allAtoms t)).before a st = _
    rw [Jvm.Cond.before_and, ih, List.all_cons]
def words1 : List Jvm.Cond := Jvm.Cond.code x code maxLocals ret :: tables_1
/-- a 'code' word, met by the world's own term for the bytes: nothing is compared byte by byte -/
theorem code_word {y : MethodName} {bytes : ByteArray} {mx : Nat} {rt : Option FieldType} {a : Array Value} {s : State} {m : MethodId} {meth : Method} {c : Code} (h1 : s.methodNamed? y = some m) (h2 : s.vm.method? m = some meth) (h3 : meth.code = some c) (h4 : c.code = bytes)
    (h5 : (c.maxLocals == mx && c.exceptionTable.isEmpty && decide (c.maxStack ≤ mostOperands) && decide (meth.sig.returnType = rt) && !meth.locks && decide (parseMethodDescriptor y.desc = some meth.sig)) = true) : (Jvm.Cond.code y bytes mx rt).before a s = true := by
  simp only [Bool.and_eq_true, beq_iff_eq, Bool.not_eq_true', decide_eq_true_eq] at h5
  obtain ⟨⟨⟨⟨⟨g1, g2⟩, g3⟩, g4⟩, g5⟩, g6⟩ := h5
  simp [Cond.before, Cond.holds, Cond.value, h1, h2, h3, h4, g1, g2, g3, g4, g5, g6]
def isCode : Jvm.Cond → Bool
  | .code _ _ _ _ => true
  | _ => false
theorem all_split {L : List Jvm.Cond} {P : Jvm.Cond → Bool} (h1 : L.all (fun c => isCode c || P c) = true) (h2 : ∀ c ∈ L.filter isCode, P c = true) : L.all P = true := by
  refine List.all_eq_true.mpr fun c hc => ?_
  have h := List.all_eq_true.mp h1 c hc
  rcases Bool.eq_false_or_eq_true (isCode c) with hi | hi
  · exact h2 c (List.mem_filter.mpr ⟨hc, hi⟩)
  · simpa [hi] using h
set_option maxRecDepth 65536 in
theorem w_c0 : (Jvm.Cond.code x code maxLocals ret).before args0 about1 = true := code_word (m := ⟨1, 1⟩) (meth := k1m1) (c := k1c1) (by decide +kernel) rfl rfl rfl (by decide +kernel)
set_option maxRecDepth 65536 in
theorem w_c1 : (Jvm.Cond.code ({ cls := "WaitFreeUniversal", name := "<init>", desc := "(II)V" } : Jvm.MethodName) prog_1_method_1_code (3 : Nat) (Option.none : Option Jvm.ClassFile.FieldType)).before args0 about1 = true := code_word (m := ⟨2, 0⟩) (meth := k2m0) (c := k2c0) (by decide +kernel) rfl rfl rfl (by decide +kernel)
set_option maxRecDepth 65536 in
theorem w_c2 : (Jvm.Cond.code ({ cls := "java/lang/Object", name := "<init>", desc := "()V" } : Jvm.MethodName) object_method_1_code (1 : Nat) (Option.none : Option Jvm.ClassFile.FieldType)).before args0 about1 = true := code_word (m := ⟨0, 0⟩) (meth := k0m0) (c := k0c0) (by decide +kernel) rfl rfl rfl (by decide +kernel)
set_option maxRecDepth 65536 in
theorem w_c3 : (Jvm.Cond.code ({ cls := "WaitFreeUniversal", name := "clamp", desc := "(III)I" } : Jvm.MethodName) prog_1_method_18_code (4 : Nat) (Option.some Jvm.ClassFile.FieldType.int)).before args0 about1 = true := code_word (m := ⟨2, 12⟩) (meth := k2m12) (c := k2c12) (by decide +kernel) rfl rfl rfl (by decide +kernel)
set_option maxRecDepth 65536 in
theorem w_c4 : (Jvm.Cond.code ({ cls := "WaitFreeUniversal", name := "resetRecords", desc := "()V" } : Jvm.MethodName) prog_1_method_27_code (2 : Nat) (Option.none : Option Jvm.ClassFile.FieldType)).before args0 about1 = true := code_word (m := ⟨2, 18⟩) (meth := k2m18) (c := k2c18) (by decide +kernel) rfl rfl rfl (by decide +kernel)
set_option maxRecDepth 65536 in
theorem w_c5 : (Jvm.Cond.code ({ cls := "WaitFreeUniversal", name := "resetThreads", desc := "()V" } : Jvm.MethodName) prog_1_method_28_code (2 : Nat) (Option.none : Option Jvm.ClassFile.FieldType)).before args0 about1 = true := code_word (m := ⟨2, 19⟩) (meth := k2m19) (c := k2c19) (by decide +kernel) rfl rfl rfl (by decide +kernel)
set_option maxRecDepth 65536 in
theorem w_c6 : (Jvm.Cond.code ({ cls := "WaitFreeUniversal", name := "clearThreadLast", desc := "(I)V" } : Jvm.MethodName) prog_1_method_45_code (3 : Nat) (Option.none : Option Jvm.ClassFile.FieldType)).before args0 about1 = true := code_word (m := ⟨2, 36⟩) (meth := k2m36) (c := k2c36) (by decide +kernel) rfl rfl rfl (by decide +kernel)
set_option maxRecDepth 65536 in
theorem w_c7 : (Jvm.Cond.code ({ cls := "WaitFreeUniversal", name := "setThreadLast", desc := "(III)V" } : Jvm.MethodName) prog_1_method_47_code (4 : Nat) (Option.none : Option Jvm.ClassFile.FieldType)).before args0 about1 = true := code_word (m := ⟨2, 38⟩) (meth := k2m38) (c := k2c38) (by decide +kernel) rfl rfl rfl (by decide +kernel)
set_option maxRecDepth 65536 in
theorem w_c8 : (Jvm.Cond.code ({ cls := "WaitFreeUniversal", name := "resetAnnounces", desc := "()V" } : Jvm.MethodName) prog_1_method_29_code (2 : Nat) (Option.none : Option Jvm.ClassFile.FieldType)).before args0 about1 = true := code_word (m := ⟨2, 20⟩) (meth := k2m20) (c := k2c20) (by decide +kernel) rfl rfl rfl (by decide +kernel)
set_option maxRecDepth 65536 in
theorem w_c9 : (Jvm.Cond.code ({ cls := "WaitFreeUniversal", name := "resetCells", desc := "()V" } : Jvm.MethodName) prog_1_method_30_code (2 : Nat) (Option.none : Option Jvm.ClassFile.FieldType)).before args0 about1 = true := code_word (m := ⟨2, 21⟩) (meth := k2m21) (c := k2c21) (by decide +kernel) rfl rfl rfl (by decide +kernel)
set_option maxRecDepth 65536 in
theorem w_c10 : (Jvm.Cond.code ({ cls := "WaitFreeUniversal", name := "clearCellQueue", desc := "(I)V" } : Jvm.MethodName) prog_1_method_31_code (3 : Nat) (Option.none : Option Jvm.ClassFile.FieldType)).before args0 about1 = true := code_word (m := ⟨2, 22⟩) (meth := k2m22) (c := k2c22) (by decide +kernel) rfl rfl rfl (by decide +kernel)
set_option maxRecDepth 65536 in
theorem w_c11 : (Jvm.Cond.code ({ cls := "WaitFreeUniversal", name := "writeQueueSlot", desc := "(III)V" } : Jvm.MethodName) prog_1_method_57_code (4 : Nat) (Option.none : Option Jvm.ClassFile.FieldType)).before args0 about1 = true := code_word (m := ⟨2, 46⟩) (meth := k2m46) (c := k2c46) (by decide +kernel) rfl rfl rfl (by decide +kernel)
set_option maxRecDepth 65536 in
theorem w_c12 : (Jvm.Cond.code ({ cls := "WaitFreeUniversal", name := "clearCellLast", desc := "(I)V" } : Jvm.MethodName) prog_1_method_32_code (3 : Nat) (Option.none : Option Jvm.ClassFile.FieldType)).before args0 about1 = true := code_word (m := ⟨2, 23⟩) (meth := k2m23) (c := k2c23) (by decide +kernel) rfl rfl rfl (by decide +kernel)
set_option maxRecDepth 65536 in
theorem w_c13 : (Jvm.Cond.code ({ cls := "WaitFreeUniversal", name := "setCellLast", desc := "(III)V" } : Jvm.MethodName) prog_1_method_59_code (4 : Nat) (Option.none : Option Jvm.ClassFile.FieldType)).before args0 about1 = true := code_word (m := ⟨2, 48⟩) (meth := k2m48) (c := k2c48) (by decide +kernel) rfl rfl rfl (by decide +kernel)
set_option maxRecDepth 65536 in
theorem w_c14 : (Jvm.Cond.code ({ cls := "WaitFreeUniversal", name := "invoke", desc := "(III)I" } : Jvm.MethodName) prog_1_method_2_code (4 : Nat) (Option.some Jvm.ClassFile.FieldType.int)).before args0 about1 = true := code_word (m := ⟨2, 1⟩) (meth := k2m1) (c := k2c1) (by decide +kernel) rfl rfl rfl (by decide +kernel)
set_option maxRecDepth 65536 in
theorem w_c15 : (Jvm.Cond.code ({ cls := "WaitFreeUniversal", name := "validThread", desc := "(I)Z" } : Jvm.MethodName) prog_1_method_19_code (2 : Nat) (Option.some Jvm.ClassFile.FieldType.boolean)).before args0 about1 = true := code_word (m := ⟨2, 13⟩) (meth := k2m13) (c := k2c13) (by decide +kernel) rfl rfl rfl (by decide +kernel)
set_option maxRecDepth 65536 in
theorem w_c16 : (Jvm.Cond.code ({ cls := "WaitFreeUniversal", name := "validKind", desc := "(I)Z" } : Jvm.MethodName) prog_1_method_20_code (2 : Nat) (Option.some Jvm.ClassFile.FieldType.boolean)).before args0 about1 = true := code_word (m := ⟨2, 14⟩) (meth := k2m14) (c := k2c14) (by decide +kernel) rfl rfl rfl (by decide +kernel)
set_option maxRecDepth 65536 in
theorem w_c17 : (Jvm.Cond.code ({ cls := "WaitFreeUniversal", name := "acceptInvoke", desc := "(III)I" } : Jvm.MethodName) prog_1_method_33_code (5 : Nat) (Option.some Jvm.ClassFile.FieldType.int)).before args0 about1 = true := code_word (m := ⟨2, 24⟩) (meth := k2m24) (c := k2c24) (by decide +kernel) rfl rfl rfl (by decide +kernel)
set_option maxRecDepth 65536 in
theorem w_c18 : (Jvm.Cond.code ({ cls := "WaitFreeUniversal", name := "recordOperation", desc := "(IIII)V" } : Jvm.MethodName) prog_1_method_34_code (5 : Nat) (Option.none : Option Jvm.ClassFile.FieldType)).before args0 about1 = true := code_word (m := ⟨2, 25⟩) (meth := k2m25) (c := k2c25) (by decide +kernel) rfl rfl rfl (by decide +kernel)
set_option maxRecDepth 65536 in
theorem w_c19 : (Jvm.Cond.code ({ cls := "WaitFreeUniversal", name := "validEnqValue", desc := "(I)Z" } : Jvm.MethodName) prog_1_method_21_code (2 : Nat) (Option.some Jvm.ClassFile.FieldType.boolean)).before args0 about1 = true := code_word (m := ⟨2, 15⟩) (meth := k2m15) (c := k2c15) (by decide +kernel) rfl rfl rfl (by decide +kernel)
set_option maxRecDepth 65536 in
theorem w_c20 : (Jvm.Cond.code ({ cls := "WaitFreeUniversal", name := "step", desc := "(I)I" } : Jvm.MethodName) prog_1_method_3_code (3 : Nat) (Option.some Jvm.ClassFile.FieldType.int)).before args0 about1 = true := code_word (m := ⟨2, 2⟩) (meth := k2m2) (c := k2c2) (by decide +kernel) rfl rfl rfl (by decide +kernel)
set_option maxRecDepth 65536 in
theorem w_c21 : (Jvm.Cond.code ({ cls := "WaitFreeUniversal", name := "dispatch", desc := "(II)I" } : Jvm.MethodName) prog_1_method_37_code (3 : Nat) (Option.some Jvm.ClassFile.FieldType.int)).before args0 about1 = true := code_word (m := ⟨2, 28⟩) (meth := k2m28) (c := k2c28) (by decide +kernel) rfl rfl rfl (by decide +kernel)
set_option maxRecDepth 65536 in
theorem w_c22 : (Jvm.Cond.code ({ cls := "WaitFreeUniversal", name := "stepAnnounce", desc := "(I)I" } : Jvm.MethodName) prog_1_method_38_code (3 : Nat) (Option.some Jvm.ClassFile.FieldType.int)).before args0 about1 = true := code_word (m := ⟨2, 29⟩) (meth := k2m29) (c := k2c29) (by decide +kernel) rfl rfl rfl (by decide +kernel)
set_option maxRecDepth 65536 in
theorem w_c23 : (Jvm.Cond.code ({ cls := "WaitFreeUniversal", name := "kindOf", desc := "(I)I" } : Jvm.MethodName) prog_1_method_35_code (2 : Nat) (Option.some Jvm.ClassFile.FieldType.int)).before args0 about1 = true := code_word (m := ⟨2, 26⟩) (meth := k2m26) (c := k2c26) (by decide +kernel) rfl rfl rfl (by decide +kernel)
set_option maxRecDepth 65536 in
theorem w_c24 : (Jvm.Cond.code ({ cls := "WaitFreeUniversal", name := "isId", desc := "(I)Z" } : Jvm.MethodName) prog_1_method_22_code (2 : Nat) (Option.some Jvm.ClassFile.FieldType.boolean)).before args0 about1 = true := code_word (m := ⟨2, 16⟩) (meth := k2m16) (c := k2c16) (by decide +kernel) rfl rfl rfl (by decide +kernel)
set_option maxRecDepth 65536 in
theorem w_c25 : (Jvm.Cond.code ({ cls := "WaitFreeUniversal", name := "argOf", desc := "(I)I" } : Jvm.MethodName) prog_1_method_36_code (2 : Nat) (Option.some Jvm.ClassFile.FieldType.int)).before args0 about1 = true := code_word (m := ⟨2, 27⟩) (meth := k2m27) (c := k2c27) (by decide +kernel) rfl rfl rfl (by decide +kernel)
set_option maxRecDepth 65536 in
theorem w_c26 : (Jvm.Cond.code ({ cls := "WaitFreeUniversal", name := "stepReadTail", desc := "(I)I" } : Jvm.MethodName) prog_1_method_39_code (2 : Nat) (Option.some Jvm.ClassFile.FieldType.int)).before args0 about1 = true := code_word (m := ⟨2, 30⟩) (meth := k2m30) (c := k2c30) (by decide +kernel) rfl rfl rfl (by decide +kernel)
set_option maxRecDepth 65536 in
theorem w_c27 : (Jvm.Cond.code ({ cls := "WaitFreeUniversal", name := "stepReadCell", desc := "(I)I" } : Jvm.MethodName) prog_1_method_40_code (3 : Nat) (Option.some Jvm.ClassFile.FieldType.int)).before args0 about1 = true := code_word (m := ⟨2, 31⟩) (meth := k2m31) (c := k2c31) (by decide +kernel) rfl rfl rfl (by decide +kernel)
set_option maxRecDepth 65536 in
theorem w_c28 : (Jvm.Cond.code ({ cls := "WaitFreeUniversal", name := "snapshotLast", desc := "(II)V" } : Jvm.MethodName) prog_1_method_50_code (3 : Nat) (Option.none : Option Jvm.ClassFile.FieldType)).before args0 about1 = true := code_word (m := ⟨2, 40⟩) (meth := k2m40) (c := k2c40) (by decide +kernel) rfl rfl rfl (by decide +kernel)
set_option maxRecDepth 65536 in
theorem w_c29 : (Jvm.Cond.code ({ cls := "WaitFreeUniversal", name := "cellHolds", desc := "(I)Z" } : Jvm.MethodName) prog_1_method_55_code (2 : Nat) (Option.some Jvm.ClassFile.FieldType.boolean)).before args0 about1 = true := code_word (m := ⟨2, 44⟩) (meth := k2m44) (c := k2c44) (by decide +kernel) rfl rfl rfl (by decide +kernel)
set_option maxRecDepth 65536 in
theorem w_c30 : (Jvm.Cond.code ({ cls := "WaitFreeUniversal", name := "cellOf", desc := "(I)I" } : Jvm.MethodName) prog_1_method_53_code (2 : Nat) (Option.some Jvm.ClassFile.FieldType.int)).before args0 about1 = true := code_word (m := ⟨2, 42⟩) (meth := k2m42) (c := k2c42) (by decide +kernel) rfl rfl rfl (by decide +kernel)
set_option maxRecDepth 65536 in
theorem w_c31 : (Jvm.Cond.code ({ cls := "WaitFreeUniversal", name := "copyLastFromCell", desc := "(II)V" } : Jvm.MethodName) prog_1_method_51_code (5 : Nat) (Option.none : Option Jvm.ClassFile.FieldType)).before args0 about1 = true := code_word (m := ⟨2, 41⟩) (meth := k2m41) (c := k2c41) (by decide +kernel) rfl rfl rfl (by decide +kernel)
set_option maxRecDepth 65536 in
theorem w_c32 : (Jvm.Cond.code ({ cls := "WaitFreeUniversal", name := "cellLastOf", desc := "(II)I" } : Jvm.MethodName) prog_1_method_58_code (3 : Nat) (Option.some Jvm.ClassFile.FieldType.int)).before args0 about1 = true := code_word (m := ⟨2, 47⟩) (meth := k2m47) (c := k2c47) (by decide +kernel) rfl rfl rfl (by decide +kernel)
set_option maxRecDepth 65536 in
theorem w_c33 : (Jvm.Cond.code ({ cls := "WaitFreeUniversal", name := "ownHeldInSnapshot", desc := "(I)Z" } : Jvm.MethodName) prog_1_method_49_code (3 : Nat) (Option.some Jvm.ClassFile.FieldType.boolean)).before args0 about1 = true := code_word (m := ⟨2, 39⟩) (meth := k2m39) (c := k2c39) (by decide +kernel) rfl rfl rfl (by decide +kernel)
set_option maxRecDepth 65536 in
theorem w_c34 : (Jvm.Cond.code ({ cls := "WaitFreeUniversal", name := "threadLast", desc := "(II)I" } : Jvm.MethodName) prog_1_method_46_code (3 : Nat) (Option.some Jvm.ClassFile.FieldType.int)).before args0 about1 = true := code_word (m := ⟨2, 37⟩) (meth := k2m37) (c := k2c37) (by decide +kernel) rfl rfl rfl (by decide +kernel)
set_option maxRecDepth 65536 in
theorem w_c35 : (Jvm.Cond.code ({ cls := "WaitFreeUniversal", name := "stepReadAnn", desc := "(I)I" } : Jvm.MethodName) prog_1_method_41_code (6 : Nat) (Option.some Jvm.ClassFile.FieldType.int)).before args0 about1 = true := code_word (m := ⟨2, 32⟩) (meth := k2m32) (c := k2c32) (by decide +kernel) rfl rfl rfl (by decide +kernel)
set_option maxRecDepth 65536 in
theorem w_c36 : (Jvm.Cond.code ({ cls := "WaitFreeUniversal", name := "helpTarget", desc := "(I)I" } : Jvm.MethodName) prog_1_method_44_code (3 : Nat) (Option.some Jvm.ClassFile.FieldType.int)).before args0 about1 = true := code_word (m := ⟨2, 35⟩) (meth := k2m35) (c := k2c35) (by decide +kernel) rfl rfl rfl (by decide +kernel)
set_option maxRecDepth 65536 in
theorem w_c37 : (Jvm.Cond.code ({ cls := "WaitFreeUniversal", name := "chosenId", desc := "(I)I" } : Jvm.MethodName) prog_1_method_7_code (2 : Nat) (Option.some Jvm.ClassFile.FieldType.int)).before args0 about1 = true := code_word (m := ⟨2, 4⟩) (meth := k2m4) (c := k2c4) (by decide +kernel) rfl rfl rfl (by decide +kernel)
set_option maxRecDepth 65536 in
theorem w_c38 : (Jvm.Cond.code ({ cls := "WaitFreeUniversal", name := "stepCas", desc := "(I)I" } : Jvm.MethodName) prog_1_method_42_code (3 : Nat) (Option.some Jvm.ClassFile.FieldType.int)).before args0 about1 = true := code_word (m := ⟨2, 33⟩) (meth := k2m33) (c := k2c33) (by decide +kernel) rfl rfl rfl (by decide +kernel)
set_option maxRecDepth 65536 in
theorem w_c39 : (Jvm.Cond.code ({ cls := "WaitFreeUniversal", name := "canAppend", desc := "(I)Z" } : Jvm.MethodName) prog_1_method_63_code (2 : Nat) (Option.some Jvm.ClassFile.FieldType.boolean)).before args0 about1 = true := code_word (m := ⟨2, 52⟩) (meth := k2m52) (c := k2c52) (by decide +kernel) rfl rfl rfl (by decide +kernel)
set_option maxRecDepth 65536 in
theorem w_c40 : (Jvm.Cond.code ({ cls := "WaitFreeUniversal", name := "appendToLog", desc := "(I)V" } : Jvm.MethodName) prog_1_method_64_code (6 : Nat) (Option.none : Option Jvm.ClassFile.FieldType)).before args0 about1 = true := code_word (m := ⟨2, 53⟩) (meth := k2m53) (c := k2c53) (by decide +kernel) rfl rfl rfl (by decide +kernel)
set_option maxRecDepth 65536 in
theorem w_c41 : (Jvm.Cond.code ({ cls := "WaitFreeUniversal", name := "copyCell", desc := "(II)V" } : Jvm.MethodName) prog_1_method_60_code (3 : Nat) (Option.none : Option Jvm.ClassFile.FieldType)).before args0 about1 = true := code_word (m := ⟨2, 49⟩) (meth := k2m49) (c := k2c49) (by decide +kernel) rfl rfl rfl (by decide +kernel)
set_option maxRecDepth 65536 in
theorem w_c42 : (Jvm.Cond.code ({ cls := "WaitFreeUniversal", name := "copyCellQueue", desc := "(II)V" } : Jvm.MethodName) prog_1_method_61_code (5 : Nat) (Option.none : Option Jvm.ClassFile.FieldType)).before args0 about1 = true := code_word (m := ⟨2, 50⟩) (meth := k2m50) (c := k2c50) (by decide +kernel) rfl rfl rfl (by decide +kernel)
set_option maxRecDepth 65536 in
theorem w_c43 : (Jvm.Cond.code ({ cls := "WaitFreeUniversal", name := "readQueueSlot", desc := "(II)I" } : Jvm.MethodName) prog_1_method_56_code (3 : Nat) (Option.some Jvm.ClassFile.FieldType.int)).before args0 about1 = true := code_word (m := ⟨2, 45⟩) (meth := k2m45) (c := k2c45) (by decide +kernel) rfl rfl rfl (by decide +kernel)
set_option maxRecDepth 65536 in
theorem w_c44 : (Jvm.Cond.code ({ cls := "WaitFreeUniversal", name := "copyCellLast", desc := "(II)V" } : Jvm.MethodName) prog_1_method_62_code (5 : Nat) (Option.none : Option Jvm.ClassFile.FieldType)).before args0 about1 = true := code_word (m := ⟨2, 51⟩) (meth := k2m51) (c := k2c51) (by decide +kernel) rfl rfl rfl (by decide +kernel)
set_option maxRecDepth 65536 in
theorem w_c45 : (Jvm.Cond.code ({ cls := "WaitFreeUniversal", name := "applyInCell", desc := "(III)I" } : Jvm.MethodName) prog_1_method_65_code (4 : Nat) (Option.some Jvm.ClassFile.FieldType.int)).before args0 about1 = true := code_word (m := ⟨2, 54⟩) (meth := k2m54) (c := k2c54) (by decide +kernel) rfl rfl rfl (by decide +kernel)
set_option maxRecDepth 65536 in
theorem w_c46 : (Jvm.Cond.code ({ cls := "WaitFreeUniversal", name := "cellEnqueue", desc := "(II)I" } : Jvm.MethodName) prog_1_method_67_code (4 : Nat) (Option.some Jvm.ClassFile.FieldType.int)).before args0 about1 = true := code_word (m := ⟨2, 55⟩) (meth := k2m55) (c := k2c55) (by decide +kernel) rfl rfl rfl (by decide +kernel)
set_option maxRecDepth 65536 in
theorem w_c47 : (Jvm.Cond.code ({ cls := "WaitFreeUniversal", name := "statusOf", desc := "(I)I" } : Jvm.MethodName) prog_1_method_14_code (2 : Nat) (Option.some Jvm.ClassFile.FieldType.int)).before args0 about1 = true := code_word (m := ⟨2, 9⟩) (meth := k2m9) (c := k2c9) (by decide +kernel) rfl rfl rfl (by decide +kernel)
set_option maxRecDepth 65536 in
theorem w_c48 : (Jvm.Cond.code ({ cls := "WaitFreeUniversal", name := "responseOf", desc := "(I)I" } : Jvm.MethodName) prog_1_method_15_code (2 : Nat) (Option.some Jvm.ClassFile.FieldType.int)).before args0 about1 = true := code_word (m := ⟨2, 10⟩) (meth := k2m10) (c := k2c10) (by decide +kernel) rfl rfl rfl (by decide +kernel)
set_option maxRecDepth 65536 in
theorem w_c49 : (Jvm.Cond.code ({ cls := "WaitFreeUniversal", name := "isHeld", desc := "(I)Z" } : Jvm.MethodName) prog_1_method_23_code (3 : Nat) (Option.some Jvm.ClassFile.FieldType.boolean)).before args0 about1 = true := code_word (m := ⟨2, 17⟩) (meth := k2m17) (c := k2c17) (by decide +kernel) rfl rfl rfl (by decide +kernel)
set_option maxRecDepth 65536 in
theorem w_c50 : (Jvm.Cond.code ({ cls := "WaitFreeUniversal", name := "queueLength", desc := "()I" } : Jvm.MethodName) prog_1_method_12_code (1 : Nat) (Option.some Jvm.ClassFile.FieldType.int)).before args0 about1 = true := code_word (m := ⟨2, 7⟩) (meth := k2m7) (c := k2c7) (by decide +kernel) rfl rfl rfl (by decide +kernel)
set_option maxRecDepth 65536 in
theorem w_c51 : (Jvm.Cond.code ({ cls := "WaitFreeUniversal", name := "currentCell", desc := "()I" } : Jvm.MethodName) prog_1_method_54_code (1 : Nat) (Option.some Jvm.ClassFile.FieldType.int)).before args0 about1 = true := code_word (m := ⟨2, 43⟩) (meth := k2m43) (c := k2c43) (by decide +kernel) rfl rfl rfl (by decide +kernel)
set_option maxRecDepth 65536 in
theorem w_c52 : (Jvm.Cond.code ({ cls := "WaitFreeUniversal", name := "queueAt", desc := "(I)I" } : Jvm.MethodName) prog_1_method_13_code (4 : Nat) (Option.some Jvm.ClassFile.FieldType.int)).before args0 about1 = true := code_word (m := ⟨2, 8⟩) (meth := k2m8) (c := k2c8) (by decide +kernel) rfl rfl rfl (by decide +kernel)
set_option maxRecDepth 65536 in
theorem w_c53 : (Jvm.Cond.code ({ cls := "WaitFreeUniversal", name := "cellDequeue", desc := "(I)I" } : Jvm.MethodName) prog_1_method_68_code (6 : Nat) (Option.some Jvm.ClassFile.FieldType.int)).before args0 about1 = true := code_word (m := ⟨2, 56⟩) (meth := k2m56) (c := k2c56) (by decide +kernel) rfl rfl rfl (by decide +kernel)
set_option maxRecDepth 65536 in
theorem w_c54 : (Jvm.Cond.code ({ cls := "WaitFreeUniversal", name := "completeOwn", desc := "(I)V" } : Jvm.MethodName) prog_1_method_43_code (3 : Nat) (Option.none : Option Jvm.ClassFile.FieldType)).before args0 about1 = true := code_word (m := ⟨2, 34⟩) (meth := k2m34) (c := k2c34) (by decide +kernel) rfl rfl rfl (by decide +kernel)
set_option maxRecDepth 65536 in
theorem w_c55 : (Jvm.Cond.code ({ cls := "WaitFreeUniversal", name := "positionOf", desc := "(I)I" } : Jvm.MethodName) prog_1_method_16_code (2 : Nat) (Option.some Jvm.ClassFile.FieldType.int)).before args0 about1 = true := code_word (m := ⟨2, 11⟩) (meth := k2m11) (c := k2c11) (by decide +kernel) rfl rfl rfl (by decide +kernel)
set_option maxRecDepth 65536 in
theorem w_c56 : (Jvm.Cond.code ({ cls := "WaitFreeUniversal", name := "tail", desc := "()I" } : Jvm.MethodName) prog_1_method_10_code (1 : Nat) (Option.some Jvm.ClassFile.FieldType.int)).before args0 about1 = true := code_word (m := ⟨2, 6⟩) (meth := k2m6) (c := k2c6) (by decide +kernel) rfl rfl rfl (by decide +kernel)
set_option maxRecDepth 65536 in
theorem w_c57 : (Jvm.Cond.code ({ cls := "WaitFreeUniversal", name := "ownSteps", desc := "(I)I" } : Jvm.MethodName) prog_1_method_9_code (2 : Nat) (Option.some Jvm.ClassFile.FieldType.int)).before args0 about1 = true := code_word (m := ⟨2, 5⟩) (meth := k2m5) (c := k2c5) (by decide +kernel) rfl rfl rfl (by decide +kernel)
set_option maxRecDepth 65536 in
theorem w_c58 : (Jvm.Cond.code ({ cls := "WaitFreeUniversal", name := "phase", desc := "(I)I" } : Jvm.MethodName) prog_1_method_5_code (2 : Nat) (Option.some Jvm.ClassFile.FieldType.int)).before args0 about1 = true := code_word (m := ⟨2, 3⟩) (meth := k2m3) (c := k2c3) (by decide +kernel) rfl rfl rfl (by decide +kernel)
def codes1 : List Jvm.Cond := [Jvm.Cond.code x code maxLocals ret, Jvm.Cond.code ({ cls := "WaitFreeUniversal", name := "<init>", desc := "(II)V" } : Jvm.MethodName) prog_1_method_1_code (3 : Nat) (Option.none : Option Jvm.ClassFile.FieldType), Jvm.Cond.code ({ cls := "java/lang/Object", name := "<init>", desc := "()V" } : Jvm.MethodName) object_method_1_code (1 : Nat) (Option.none : Option Jvm.ClassFile.FieldType), Jvm.Cond.code ({ cls := "WaitFreeUniversal", name := "clamp", desc := "(III)I" } : Jvm.MethodName) prog_1_method_18_code (4 : Nat) (Option.some Jvm.ClassFile.FieldType.int), Jvm.Cond.code ({ cls := "WaitFreeUniversal", name := "resetRecords", desc := "()V" } : Jvm.MethodName) prog_1_method_27_code (2 : Nat) (Option.none : Option Jvm.ClassFile.FieldType), Jvm.Cond.code ({ cls := "WaitFreeUniversal", name := "resetThreads", desc := "()V" } : Jvm.MethodName) prog_1_method_28_code (2 : Nat) (Option.none : Option Jvm.ClassFile.FieldType), Jvm.Cond.code ({ cls := "WaitFreeUniversal", name := "clearThreadLast", desc := "(I)V" } : Jvm.MethodName) prog_1_method_45_code (3 : Nat) (Option.none : Option Jvm.ClassFile.FieldType), Jvm.Cond.code ({ cls := "WaitFreeUniversal", name := "setThreadLast", desc := "(III)V" } : Jvm.MethodName) prog_1_method_47_code (4 : Nat) (Option.none : Option Jvm.ClassFile.FieldType), Jvm.Cond.code ({ cls := "WaitFreeUniversal", name := "resetAnnounces", desc := "()V" } : Jvm.MethodName) prog_1_method_29_code (2 : Nat) (Option.none : Option Jvm.ClassFile.FieldType), Jvm.Cond.code ({ cls := "WaitFreeUniversal", name := "resetCells", desc := "()V" } : Jvm.MethodName) prog_1_method_30_code (2 : Nat) (Option.none : Option Jvm.ClassFile.FieldType), Jvm.Cond.code ({ cls := "WaitFreeUniversal", name := "clearCellQueue", desc := "(I)V" } : Jvm.MethodName) prog_1_method_31_code (3 : Nat) (Option.none : Option Jvm.ClassFile.FieldType), Jvm.Cond.code ({ cls := "WaitFreeUniversal", name := "writeQueueSlot", desc := "(III)V" } : Jvm.MethodName) prog_1_method_57_code (4 : Nat) (Option.none : Option Jvm.ClassFile.FieldType), Jvm.Cond.code ({ cls := "WaitFreeUniversal", name := "clearCellLast", desc := "(I)V" } : Jvm.MethodName) prog_1_method_32_code (3 : Nat) (Option.none : Option Jvm.ClassFile.FieldType), Jvm.Cond.code ({ cls := "WaitFreeUniversal", name := "setCellLast", desc := "(III)V" } : Jvm.MethodName) prog_1_method_59_code (4 : Nat) (Option.none : Option Jvm.ClassFile.FieldType), Jvm.Cond.code ({ cls := "WaitFreeUniversal", name := "invoke", desc := "(III)I" } : Jvm.MethodName) prog_1_method_2_code (4 : Nat) (Option.some Jvm.ClassFile.FieldType.int), Jvm.Cond.code ({ cls := "WaitFreeUniversal", name := "validThread", desc := "(I)Z" } : Jvm.MethodName) prog_1_method_19_code (2 : Nat) (Option.some Jvm.ClassFile.FieldType.boolean), Jvm.Cond.code ({ cls := "WaitFreeUniversal", name := "validKind", desc := "(I)Z" } : Jvm.MethodName) prog_1_method_20_code (2 : Nat) (Option.some Jvm.ClassFile.FieldType.boolean), Jvm.Cond.code ({ cls := "WaitFreeUniversal", name := "acceptInvoke", desc := "(III)I" } : Jvm.MethodName) prog_1_method_33_code (5 : Nat) (Option.some Jvm.ClassFile.FieldType.int), Jvm.Cond.code ({ cls := "WaitFreeUniversal", name := "recordOperation", desc := "(IIII)V" } : Jvm.MethodName) prog_1_method_34_code (5 : Nat) (Option.none : Option Jvm.ClassFile.FieldType), Jvm.Cond.code ({ cls := "WaitFreeUniversal", name := "validEnqValue", desc := "(I)Z" } : Jvm.MethodName) prog_1_method_21_code (2 : Nat) (Option.some Jvm.ClassFile.FieldType.boolean), Jvm.Cond.code ({ cls := "WaitFreeUniversal", name := "step", desc := "(I)I" } : Jvm.MethodName) prog_1_method_3_code (3 : Nat) (Option.some Jvm.ClassFile.FieldType.int), Jvm.Cond.code ({ cls := "WaitFreeUniversal", name := "dispatch", desc := "(II)I" } : Jvm.MethodName) prog_1_method_37_code (3 : Nat) (Option.some Jvm.ClassFile.FieldType.int), Jvm.Cond.code ({ cls := "WaitFreeUniversal", name := "stepAnnounce", desc := "(I)I" } : Jvm.MethodName) prog_1_method_38_code (3 : Nat) (Option.some Jvm.ClassFile.FieldType.int), Jvm.Cond.code ({ cls := "WaitFreeUniversal", name := "kindOf", desc := "(I)I" } : Jvm.MethodName) prog_1_method_35_code (2 : Nat) (Option.some Jvm.ClassFile.FieldType.int), Jvm.Cond.code ({ cls := "WaitFreeUniversal", name := "isId", desc := "(I)Z" } : Jvm.MethodName) prog_1_method_22_code (2 : Nat) (Option.some Jvm.ClassFile.FieldType.boolean), Jvm.Cond.code ({ cls := "WaitFreeUniversal", name := "argOf", desc := "(I)I" } : Jvm.MethodName) prog_1_method_36_code (2 : Nat) (Option.some Jvm.ClassFile.FieldType.int), Jvm.Cond.code ({ cls := "WaitFreeUniversal", name := "stepReadTail", desc := "(I)I" } : Jvm.MethodName) prog_1_method_39_code (2 : Nat) (Option.some Jvm.ClassFile.FieldType.int), Jvm.Cond.code ({ cls := "WaitFreeUniversal", name := "stepReadCell", desc := "(I)I" } : Jvm.MethodName) prog_1_method_40_code (3 : Nat) (Option.some Jvm.ClassFile.FieldType.int), Jvm.Cond.code ({ cls := "WaitFreeUniversal", name := "snapshotLast", desc := "(II)V" } : Jvm.MethodName) prog_1_method_50_code (3 : Nat) (Option.none : Option Jvm.ClassFile.FieldType), Jvm.Cond.code ({ cls := "WaitFreeUniversal", name := "cellHolds", desc := "(I)Z" } : Jvm.MethodName) prog_1_method_55_code (2 : Nat) (Option.some Jvm.ClassFile.FieldType.boolean), Jvm.Cond.code ({ cls := "WaitFreeUniversal", name := "cellOf", desc := "(I)I" } : Jvm.MethodName) prog_1_method_53_code (2 : Nat) (Option.some Jvm.ClassFile.FieldType.int), Jvm.Cond.code ({ cls := "WaitFreeUniversal", name := "copyLastFromCell", desc := "(II)V" } : Jvm.MethodName) prog_1_method_51_code (5 : Nat) (Option.none : Option Jvm.ClassFile.FieldType), Jvm.Cond.code ({ cls := "WaitFreeUniversal", name := "cellLastOf", desc := "(II)I" } : Jvm.MethodName) prog_1_method_58_code (3 : Nat) (Option.some Jvm.ClassFile.FieldType.int), Jvm.Cond.code ({ cls := "WaitFreeUniversal", name := "ownHeldInSnapshot", desc := "(I)Z" } : Jvm.MethodName) prog_1_method_49_code (3 : Nat) (Option.some Jvm.ClassFile.FieldType.boolean), Jvm.Cond.code ({ cls := "WaitFreeUniversal", name := "threadLast", desc := "(II)I" } : Jvm.MethodName) prog_1_method_46_code (3 : Nat) (Option.some Jvm.ClassFile.FieldType.int), Jvm.Cond.code ({ cls := "WaitFreeUniversal", name := "stepReadAnn", desc := "(I)I" } : Jvm.MethodName) prog_1_method_41_code (6 : Nat) (Option.some Jvm.ClassFile.FieldType.int), Jvm.Cond.code ({ cls := "WaitFreeUniversal", name := "helpTarget", desc := "(I)I" } : Jvm.MethodName) prog_1_method_44_code (3 : Nat) (Option.some Jvm.ClassFile.FieldType.int), Jvm.Cond.code ({ cls := "WaitFreeUniversal", name := "chosenId", desc := "(I)I" } : Jvm.MethodName) prog_1_method_7_code (2 : Nat) (Option.some Jvm.ClassFile.FieldType.int), Jvm.Cond.code ({ cls := "WaitFreeUniversal", name := "stepCas", desc := "(I)I" } : Jvm.MethodName) prog_1_method_42_code (3 : Nat) (Option.some Jvm.ClassFile.FieldType.int), Jvm.Cond.code ({ cls := "WaitFreeUniversal", name := "canAppend", desc := "(I)Z" } : Jvm.MethodName) prog_1_method_63_code (2 : Nat) (Option.some Jvm.ClassFile.FieldType.boolean), Jvm.Cond.code ({ cls := "WaitFreeUniversal", name := "appendToLog", desc := "(I)V" } : Jvm.MethodName) prog_1_method_64_code (6 : Nat) (Option.none : Option Jvm.ClassFile.FieldType), Jvm.Cond.code ({ cls := "WaitFreeUniversal", name := "copyCell", desc := "(II)V" } : Jvm.MethodName) prog_1_method_60_code (3 : Nat) (Option.none : Option Jvm.ClassFile.FieldType), Jvm.Cond.code ({ cls := "WaitFreeUniversal", name := "copyCellQueue", desc := "(II)V" } : Jvm.MethodName) prog_1_method_61_code (5 : Nat) (Option.none : Option Jvm.ClassFile.FieldType), Jvm.Cond.code ({ cls := "WaitFreeUniversal", name := "readQueueSlot", desc := "(II)I" } : Jvm.MethodName) prog_1_method_56_code (3 : Nat) (Option.some Jvm.ClassFile.FieldType.int), Jvm.Cond.code ({ cls := "WaitFreeUniversal", name := "copyCellLast", desc := "(II)V" } : Jvm.MethodName) prog_1_method_62_code (5 : Nat) (Option.none : Option Jvm.ClassFile.FieldType), Jvm.Cond.code ({ cls := "WaitFreeUniversal", name := "applyInCell", desc := "(III)I" } : Jvm.MethodName) prog_1_method_65_code (4 : Nat) (Option.some Jvm.ClassFile.FieldType.int), Jvm.Cond.code ({ cls := "WaitFreeUniversal", name := "cellEnqueue", desc := "(II)I" } : Jvm.MethodName) prog_1_method_67_code (4 : Nat) (Option.some Jvm.ClassFile.FieldType.int), Jvm.Cond.code ({ cls := "WaitFreeUniversal", name := "statusOf", desc := "(I)I" } : Jvm.MethodName) prog_1_method_14_code (2 : Nat) (Option.some Jvm.ClassFile.FieldType.int), Jvm.Cond.code ({ cls := "WaitFreeUniversal", name := "responseOf", desc := "(I)I" } : Jvm.MethodName) prog_1_method_15_code (2 : Nat) (Option.some Jvm.ClassFile.FieldType.int), Jvm.Cond.code ({ cls := "WaitFreeUniversal", name := "isHeld", desc := "(I)Z" } : Jvm.MethodName) prog_1_method_23_code (3 : Nat) (Option.some Jvm.ClassFile.FieldType.boolean), Jvm.Cond.code ({ cls := "WaitFreeUniversal", name := "queueLength", desc := "()I" } : Jvm.MethodName) prog_1_method_12_code (1 : Nat) (Option.some Jvm.ClassFile.FieldType.int), Jvm.Cond.code ({ cls := "WaitFreeUniversal", name := "currentCell", desc := "()I" } : Jvm.MethodName) prog_1_method_54_code (1 : Nat) (Option.some Jvm.ClassFile.FieldType.int), Jvm.Cond.code ({ cls := "WaitFreeUniversal", name := "queueAt", desc := "(I)I" } : Jvm.MethodName) prog_1_method_13_code (4 : Nat) (Option.some Jvm.ClassFile.FieldType.int), Jvm.Cond.code ({ cls := "WaitFreeUniversal", name := "cellDequeue", desc := "(I)I" } : Jvm.MethodName) prog_1_method_68_code (6 : Nat) (Option.some Jvm.ClassFile.FieldType.int), Jvm.Cond.code ({ cls := "WaitFreeUniversal", name := "completeOwn", desc := "(I)V" } : Jvm.MethodName) prog_1_method_43_code (3 : Nat) (Option.none : Option Jvm.ClassFile.FieldType), Jvm.Cond.code ({ cls := "WaitFreeUniversal", name := "positionOf", desc := "(I)I" } : Jvm.MethodName) prog_1_method_16_code (2 : Nat) (Option.some Jvm.ClassFile.FieldType.int), Jvm.Cond.code ({ cls := "WaitFreeUniversal", name := "tail", desc := "()I" } : Jvm.MethodName) prog_1_method_10_code (1 : Nat) (Option.some Jvm.ClassFile.FieldType.int), Jvm.Cond.code ({ cls := "WaitFreeUniversal", name := "ownSteps", desc := "(I)I" } : Jvm.MethodName) prog_1_method_9_code (2 : Nat) (Option.some Jvm.ClassFile.FieldType.int), Jvm.Cond.code ({ cls := "WaitFreeUniversal", name := "phase", desc := "(I)I" } : Jvm.MethodName) prog_1_method_5_code (2 : Nat) (Option.some Jvm.ClassFile.FieldType.int)]
set_option maxRecDepth 65536 in
theorem codes_eq : words1.filter isCode = codes1 := rfl
theorem w_codes : ∀ c ∈ words1.filter isCode, c.before args0 about1 = true := by
  rw [codes_eq]
  intro c hc
  simp only [codes1, List.mem_cons, List.not_mem_nil, or_false] at hc
  rcases hc with rfl | rfl | rfl | rfl | rfl | rfl | rfl | rfl | rfl | rfl | rfl | rfl | rfl | rfl | rfl | rfl | rfl | rfl | rfl | rfl | rfl | rfl | rfl | rfl | rfl | rfl | rfl | rfl | rfl | rfl | rfl | rfl | rfl | rfl | rfl | rfl | rfl | rfl | rfl | rfl | rfl | rfl | rfl | rfl | rfl | rfl | rfl | rfl | rfl | rfl | rfl | rfl | rfl | rfl | rfl | rfl | rfl | rfl | rfl
  · exact w_c0
  · exact w_c1
  · exact w_c2
  · exact w_c3
  · exact w_c4
  · exact w_c5
  · exact w_c6
  · exact w_c7
  · exact w_c8
  · exact w_c9
  · exact w_c10
  · exact w_c11
  · exact w_c12
  · exact w_c13
  · exact w_c14
  · exact w_c15
  · exact w_c16
  · exact w_c17
  · exact w_c18
  · exact w_c19
  · exact w_c20
  · exact w_c21
  · exact w_c22
  · exact w_c23
  · exact w_c24
  · exact w_c25
  · exact w_c26
  · exact w_c27
  · exact w_c28
  · exact w_c29
  · exact w_c30
  · exact w_c31
  · exact w_c32
  · exact w_c33
  · exact w_c34
  · exact w_c35
  · exact w_c36
  · exact w_c37
  · exact w_c38
  · exact w_c39
  · exact w_c40
  · exact w_c41
  · exact w_c42
  · exact w_c43
  · exact w_c44
  · exact w_c45
  · exact w_c46
  · exact w_c47
  · exact w_c48
  · exact w_c49
  · exact w_c50
  · exact w_c51
  · exact w_c52
  · exact w_c53
  · exact w_c54
  · exact w_c55
  · exact w_c56
  · exact w_c57
  · exact w_c58
set_option maxRecDepth 65536 in
theorem w_t1 : (words1.take 24).all (fun c => isCode c || c.before args0 about1) = true := by decide +kernel
set_option maxRecDepth 65536 in
theorem w_t2 : ((words1.drop 24).take 24).all (fun c => isCode c || c.before args0 about1) = true := by decide +kernel
set_option maxRecDepth 65536 in
theorem w_t3 : (((words1.drop 24).drop 24).take 24).all (fun c => isCode c || c.before args0 about1) = true := by decide +kernel
set_option maxRecDepth 65536 in
theorem w_t4 : ((((words1.drop 24).drop 24).drop 24).take 24).all (fun c => isCode c || c.before args0 about1) = true := by decide +kernel
set_option maxRecDepth 65536 in
theorem w_t5 : (((((words1.drop 24).drop 24).drop 24).drop 24).take 24).all (fun c => isCode c || c.before args0 about1) = true := by decide +kernel
set_option maxRecDepth 65536 in
theorem w_t6 : ((((((words1.drop 24).drop 24).drop 24).drop 24).drop 24).take 24).all (fun c => isCode c || c.before args0 about1) = true := by decide +kernel
set_option maxRecDepth 65536 in
theorem w_t7 : (((((((words1.drop 24).drop 24).drop 24).drop 24).drop 24).drop 24).take 24).all (fun c => isCode c || c.before args0 about1) = true := by decide +kernel
set_option maxRecDepth 65536 in
theorem w_t8 : ((((((((words1.drop 24).drop 24).drop 24).drop 24).drop 24).drop 24).drop 24).take 24).all (fun c => isCode c || c.before args0 about1) = true := by decide +kernel
set_option maxRecDepth 65536 in
theorem w_t9 : (((((((((words1.drop 24).drop 24).drop 24).drop 24).drop 24).drop 24).drop 24).drop 24).take 24).all (fun c => isCode c || c.before args0 about1) = true := by decide +kernel
set_option maxRecDepth 65536 in
theorem w_t10 : ((((((((((words1.drop 24).drop 24).drop 24).drop 24).drop 24).drop 24).drop 24).drop 24).drop 24).take 24).all (fun c => isCode c || c.before args0 about1) = true := by decide +kernel
set_option maxRecDepth 65536 in
theorem w_t11 : (((((((((((words1.drop 24).drop 24).drop 24).drop 24).drop 24).drop 24).drop 24).drop 24).drop 24).drop 24).take 24).all (fun c => isCode c || c.before args0 about1) = true := by decide +kernel
set_option maxRecDepth 65536 in
theorem w_t12 : ((((((((((((words1.drop 24).drop 24).drop 24).drop 24).drop 24).drop 24).drop 24).drop 24).drop 24).drop 24).drop 24).take 24).all (fun c => isCode c || c.before args0 about1) = true := by decide +kernel
set_option maxRecDepth 65536 in
theorem w_t13 : ((((((((((((words1.drop 24).drop 24).drop 24).drop 24).drop 24).drop 24).drop 24).drop 24).drop 24).drop 24).drop 24).drop 24).all (fun c => isCode c || c.before args0 about1) = true := by decide +kernel
theorem w_tables : (allAtoms (Jvm.Cond.code x code maxLocals ret :: tables_1)).before args0 about1 = true := by
  rw [allAtoms_all]
  show words1.all (fun c => c.before args0 about1) = true
  refine all_split ?_ w_codes
  rw [← List.take_append_drop 24 words1, List.all_append, w_t1, ← List.take_append_drop 24 (words1.drop 24), List.all_append, w_t2, ← List.take_append_drop 24 ((words1.drop 24).drop 24), List.all_append, w_t3, ← List.take_append_drop 24 (((words1.drop 24).drop 24).drop 24), List.all_append, w_t4, ← List.take_append_drop 24 ((((words1.drop 24).drop 24).drop 24).drop 24), List.all_append, w_t5, ← List.take_append_drop 24 (((((words1.drop 24).drop 24).drop 24).drop 24).drop 24), List.all_append, w_t6, ← List.take_append_drop 24 ((((((words1.drop 24).drop 24).drop 24).drop 24).drop 24).drop 24), List.all_append, w_t7, ← List.take_append_drop 24 (((((((words1.drop 24).drop 24).drop 24).drop 24).drop 24).drop 24).drop 24), List.all_append, w_t8, ← List.take_append_drop 24 ((((((((words1.drop 24).drop 24).drop 24).drop 24).drop 24).drop 24).drop 24).drop 24), List.all_append, w_t9, ← List.take_append_drop 24 (((((((((words1.drop 24).drop 24).drop 24).drop 24).drop 24).drop 24).drop 24).drop 24).drop 24), List.all_append, w_t10, ← List.take_append_drop 24 ((((((((((words1.drop 24).drop 24).drop 24).drop 24).drop 24).drop 24).drop 24).drop 24).drop 24).drop 24), List.all_append, w_t11, ← List.take_append_drop 24 (((((((((((words1.drop 24).drop 24).drop 24).drop 24).drop 24).drop 24).drop 24).drop 24).drop 24).drop 24).drop 24), List.all_append, w_t12, w_t13]
  rfl
set_option maxRecDepth 65536 in
theorem w_case : (Jvm.Cond.and given_1 narrow_1).before args0 about1 = true := by decide +kernel
theorem w_applies : (headSpec (Jvm.Cond.code x code maxLocals ret :: tables_1) room_1).applies x e0.platform about1 = true :=
  (Spec.applies_iff w_frames).mpr ⟨w_running, w_runnable, w_alone, w_named, w_hears, w_ripe, w_room, w_tables⟩
theorem atStart : AtStart classFile x code maxLocals ret World_1 tables_1 room_1 Calls_1 rest_1 Pre_1 launch0 p0 e0 about1 theMethod args0 below0 :=
  ⟨lists_1, trivial, launch0.admits_env _ _ _, launch0.least_env, fairChoices_fair.cas, fairChoices_fair.clock, w_frames, w_args, w_heap, w_applies, trivial, trivial, w_case⟩
end start1
theorem witness_1 : WitnessClaimed_1 := ⟨start1.p0, start1.e0, start1.about1, start1.theMethod, start1.args0, start1.below0, start1.atStart⟩
end Jvm.Pilot.@@N@@
