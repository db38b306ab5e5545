import JvmDerived
import JvmDerived.Pilot.@@N@@Statement
import JvmDerived.Pilot.@@N@@Code
set_option linter.unusedVariables false
set_option linter.unusedSimpArgs false
namespace Jvm.OwnFlat
open Jvm Jvm.ClassFile Sem Op Lib Jvm.Free Jvm.Stand Jvm.LawKit Jvm.RoadKit
/-! ## 1. the abstract object: int-like fields, longs, arrays of int-like values -/
abbrev St : Type := (Nat → Int32) × (Nat → Int64) × (Nat → Int → Int32)
def gI (σ : St) (k : Nat) : Int32 := σ.1 k
def gL (σ : St) (k : Nat) : Int64 := σ.2.1 k
def gA (σ : St) (k : Nat) (i : Int) : Int32 := σ.2.2 k i
def sI (σ : St) (k : Nat) (v : Int32) : St := (fun q => if q = k then v else σ.1 q, σ.2.1, σ.2.2)
def sL (σ : St) (k : Nat) (v : Int64) : St := (σ.1, fun q => if q = k then v else σ.2.1 q, σ.2.2)
def sA (σ : St) (k : Nat) (i : Int) (v : Int32) : St := (σ.1, σ.2.1, fun q j => if q = k ∧ j = i then v else σ.2.2 q j)
def z0 : St := (fun _ => 0, fun _ => 0, fun _ _ => 0)
theorem gI_sI (σ : St) (k q : Nat) (v : Int32) : gI (sI σ k v) q = if q = k then v else gI σ q := rfl
theorem gI_sL (σ : St) (k q : Nat) (v : Int64) : gI (sL σ k v) q = gI σ q := rfl
theorem gI_sA (σ : St) (k q : Nat) (i : Int) (v : Int32) : gI (sA σ k i v) q = gI σ q := rfl
theorem gL_sI (σ : St) (k q : Nat) (v : Int32) : gL (sI σ k v) q = gL σ q := rfl
theorem gL_sL (σ : St) (k q : Nat) (v : Int64) : gL (sL σ k v) q = if q = k then v else gL σ q := rfl
theorem gL_sA (σ : St) (k q : Nat) (i : Int) (v : Int32) : gL (sA σ k i v) q = gL σ q := rfl
theorem gA_sI (σ : St) (k q : Nat) (j : Int) (v : Int32) : gA (sI σ k v) q j = gA σ q j := rfl
theorem gA_sL (σ : St) (k q : Nat) (j : Int) (v : Int64) : gA (sL σ k v) q j = gA σ q j := rfl
theorem gA_sA (σ : St) (k q : Nat) (i j : Int) (v : Int32) : gA (sA σ k i v) q j = if q = k ∧ j = i then v else gA σ q j := rfl
/-! ## 2. values and local variables -/
def up (ad : Nat → Addr) : Value → Value
  | .ref k => .ref (ad k)
  | v => v
theorem up_cat (ad : Nat → Addr) (v : Value) : (up ad v).category = v.category := by cases v <;> rfl
theorem up_cats (ad : Nat → Addr) (st : List Value) : ((st.map (up ad)).map fun v => v.category) = st.map fun v => v.category := by
  rw [List.map_map]; exact List.map_congr_left fun v _ => up_cat ad v
def WF (A : Array Slot) : Prop := (∀ i : Nat, A[i]? = some Slot.second → ∃ (j : Nat) (w : Value), i = j + 1 ∧ A[j]? = some (Slot.val w) ∧ w.category = 2) ∧ ∀ (i : Nat) (w : Value), A[i]? = some (Slot.val w) → w.category = 2 → A[i + 1]? = some Slot.second
def LocOK (ad : Nat → Addr) (L : List (Option Value)) (A : Array Slot) : Prop := A.size = L.length ∧ WF A ∧ ∀ (i : Nat) (v : Value), L[i]? = some (some v) → A[i]? = some (Slot.val (up ad v))
def isL2 : Option (Option Value) → Bool
  | some (some v) => v.category == 2
  | _ => false
def st1 (L : List (Option Value)) (i : Nat) (v : Value) : List (Option Value) := (bif isL2 L[i - 1]? then L.set (i - 1) none else L).set i (some v)
def st2 (L : List (Option Value)) (i : Nat) (v : Value) : List (Option Value) := (st1 L i v).set (i + 1) none
theorem cat12 (v : Value) : v.category = 1 ∨ v.category = 2 := by cases v <;> simp [Value.category]
theorem store_c1 {A : Array Slot} {i : Nat} {v : Value} (hw : WF A) (hi : i < A.size) (hv : v.category = 1) :
    ∃ A', storeLocals A i v = some A' ∧ A'.size = A.size ∧ A'[i]? = some (Slot.val v) ∧ WF A' ∧
      ∀ k, k ≠ i → A'[k]? = A[k]? ∨ (k + 1 = i ∧ A[i]? = some .second) ∨ A[k]? = some .second := by
  obtain ⟨w1, w2⟩ := hw
  have hA : A[i]? = some A[i] := Array.getElem?_eq_getElem hi
  cases hc : A[i] with
  | second =>
    rw [hc] at hA
    obtain ⟨j, w, rfl, hj, hw2⟩ := w1 i hA
    have hj' : j < A.size := by omega
    refine ⟨(A.setIfInBounds j .unset).setIfInBounds (j + 1) (.val v), ?_, by simp, by simp [hi], ⟨fun k hk => ?_, fun k u hk hu => ?_⟩, fun k hk => ?_⟩
    · simp [storeLocals, storeSelf, setAt, hc, hi, hj', hv]
    · by_cases e1 : j + 1 = k
      · subst e1; simp [hi] at hk
      · by_cases e2 : j = k
        · subst e2; simp [hj'] at hk
        · rw [Array.getElem?_setIfInBounds_ne e1, Array.getElem?_setIfInBounds_ne e2] at hk
          obtain ⟨q, u, rfl, h1, h2⟩ := w1 k hk
          refine ⟨q, u, rfl, ?_, h2⟩
          have n1 : j + 1 ≠ q := fun z => by subst z; rw [hA] at h1; cases h1
          have n2 : j ≠ q := fun z => by omega
          rw [Array.getElem?_setIfInBounds_ne n1, Array.getElem?_setIfInBounds_ne n2]; exact h1
    · by_cases e1 : j + 1 = k
      · subst e1; simp [hi] at hk; subst hk; omega
      · by_cases e2 : j = k
        · subst e2; simp [hj'] at hk
        · rw [Array.getElem?_setIfInBounds_ne e1, Array.getElem?_setIfInBounds_ne e2] at hk
          have := w2 k u hk hu
          have n1 : j + 1 ≠ k + 1 := by omega
          have n2 : j ≠ k + 1 := fun z => by subst z; rw [hj] at this; cases this
          rw [Array.getElem?_setIfInBounds_ne n1, Array.getElem?_setIfInBounds_ne n2]; exact this
    · by_cases e2 : j = k
      · subst e2; exact Or.inr (Or.inl ⟨rfl, hA⟩)
      · rw [Array.getElem?_setIfInBounds_ne (Ne.symm hk), Array.getElem?_setIfInBounds_ne e2]; exact Or.inl rfl
  | unset =>
    rw [hc] at hA
    refine ⟨A.setIfInBounds i (.val v), by simp [storeLocals, storeSelf, setAt, hc, hi, hv], by simp, by simp [hi], ⟨fun k hk => ?_, fun k u hk hu => ?_⟩, fun k hk => by rw [Array.getElem?_setIfInBounds_ne (Ne.symm hk)]; exact Or.inl rfl⟩
    · by_cases e1 : i = k
      · subst e1; simp [hi] at hk
      · rw [Array.getElem?_setIfInBounds_ne e1] at hk
        obtain ⟨q, u, rfl, h1, h2⟩ := w1 k hk
        have n1 : i ≠ q := fun z => by subst z; rw [hA] at h1; cases h1
        exact ⟨q, u, rfl, by rw [Array.getElem?_setIfInBounds_ne n1]; exact h1, h2⟩
    · by_cases e1 : i = k
      · subst e1; simp [hi] at hk; subst hk; omega
      · rw [Array.getElem?_setIfInBounds_ne e1] at hk
        have := w2 k u hk hu
        have n1 : i ≠ k + 1 := fun z => by subst z; rw [hA] at this; cases this
        rw [Array.getElem?_setIfInBounds_ne n1]; exact this
  | val old =>
    rw [hc] at hA
    rcases cat12 old with ho | ho
    · refine ⟨A.setIfInBounds i (.val v), by simp [storeLocals, storeSelf, setAt, hc, hi, hv, ho], by simp, by simp [hi], ⟨fun k hk => ?_, fun k u hk hu => ?_⟩, fun k hk => by rw [Array.getElem?_setIfInBounds_ne (Ne.symm hk)]; exact Or.inl rfl⟩
      · by_cases e1 : i = k
        · subst e1; simp [hi] at hk
        · rw [Array.getElem?_setIfInBounds_ne e1] at hk
          obtain ⟨q, u, rfl, h1, h2⟩ := w1 k hk
          have n1 : i ≠ q := fun z => by subst z; rw [hA] at h1; cases h1; omega
          exact ⟨q, u, rfl, by rw [Array.getElem?_setIfInBounds_ne n1]; exact h1, h2⟩
      · by_cases e1 : i = k
        · subst e1; simp [hi] at hk; subst hk; omega
        · rw [Array.getElem?_setIfInBounds_ne e1] at hk
          have := w2 k u hk hu
          have n1 : i ≠ k + 1 := fun z => by subst z; rw [hA] at this; cases this
          rw [Array.getElem?_setIfInBounds_ne n1]; exact this
    · have hs := w2 i old hA ho
      have hi' : i + 1 < A.size := (Array.getElem?_eq_some_iff.mp hs).1
      refine ⟨(A.setIfInBounds (i + 1) .unset).setIfInBounds i (.val v), by simp [storeLocals, storeSelf, setAt, hc, hi, hi', hv, ho], by simp, by simp [hi], ⟨fun k hk => ?_, fun k u hk hu => ?_⟩, fun k hk => ?_⟩
      · by_cases e1 : i = k
        · subst e1; simp [hi] at hk
        · by_cases e2 : i + 1 = k
          · subst e2; rw [Array.getElem?_setIfInBounds_ne e1] at hk; simp [hi'] at hk
          · rw [Array.getElem?_setIfInBounds_ne e1, Array.getElem?_setIfInBounds_ne e2] at hk
            obtain ⟨q, u, rfl, h1, h2⟩ := w1 k hk
            have n1 : i ≠ q := fun z => by omega
            have n2 : i + 1 ≠ q := fun z => by subst z; rw [hs] at h1; cases h1
            exact ⟨q, u, rfl, by rw [Array.getElem?_setIfInBounds_ne n1, Array.getElem?_setIfInBounds_ne n2]; exact h1, h2⟩
      · by_cases e1 : i = k
        · subst e1; simp [hi] at hk; subst hk; omega
        · by_cases e2 : i + 1 = k
          · subst e2; rw [Array.getElem?_setIfInBounds_ne e1] at hk; simp [hi'] at hk
          · rw [Array.getElem?_setIfInBounds_ne e1, Array.getElem?_setIfInBounds_ne e2] at hk
            have := w2 k u hk hu
            have n1 : i ≠ k + 1 := fun z => by subst z; rw [hA] at this; cases this
            have n2 : i + 1 ≠ k + 1 := by omega
            rw [Array.getElem?_setIfInBounds_ne n1, Array.getElem?_setIfInBounds_ne n2]; exact this
      · by_cases e2 : i + 1 = k
        · subst e2; exact Or.inr (Or.inr hs)
        · rw [Array.getElem?_setIfInBounds_ne (Ne.symm hk), Array.getElem?_setIfInBounds_ne e2]; exact Or.inl rfl
theorem st1_get {L : List (Option Value)} {i k : Nat} {v u : Value} (h : (st1 L i v)[k]? = some (some u)) : (k = i ∧ u = v) ∨ (k ≠ i ∧ L[k]? = some (some u) ∧ ¬ (k = i - 1 ∧ u.category = 2)) := by
  unfold st1 at h
  by_cases e : k = i
  · subst e
    refine Or.inl ⟨rfl, ?_⟩
    have hl := (List.getElem?_eq_some_iff.mp h).1
    rw [List.getElem?_set_self (by simpa using hl)] at h
    exact (Option.some.inj (Option.some.inj h)).symm
  · refine Or.inr ⟨e, ?_⟩
    rw [List.getElem?_set_ne (Ne.symm e)] at h
    by_cases e2 : k = i - 1
    · subst e2
      cases hb : isL2 L[i - 1]? with
      | true =>
        rw [hb] at h
        have hl := (List.getElem?_eq_some_iff.mp h).1
        rw [cond_true] at h hl
        rw [List.getElem?_set_self (by simpa using hl)] at h
        cases Option.some.inj h
      | false =>
        rw [hb, cond_false] at h
        refine ⟨h, fun q => ?_⟩
        rw [h] at hb
        simp [isL2, q.2] at hb
    · cases hb : isL2 L[i - 1]? with
      | true => rw [hb, cond_true, List.getElem?_set_ne (Ne.symm e2)] at h; exact ⟨h, fun q => e2 q.1⟩
      | false => rw [hb, cond_false] at h; exact ⟨h, fun q => e2 q.1⟩
theorem st1_len (L : List (Option Value)) (i : Nat) (v : Value) : (st1 L i v).length = L.length := by
  unfold st1; cases isL2 L[i - 1]? <;> simp
theorem loc_st1 {ad : Nat → Addr} {L : List (Option Value)} {A : Array Slot} (H : LocOK ad L A) {i : Nat} (hi : i < L.length) {v : Value} (hv : v.category = 1) :
    ∃ A', storeLocals A i (up ad v) = some A' ∧ LocOK ad (st1 L i v) A' := by
  obtain ⟨h1, h2, h3⟩ := H
  obtain ⟨A', q1, q2, q3, q4, q5⟩ := store_c1 h2 (by omega : i < A.size) ((up_cat ad v).trans hv)
  refine ⟨A', q1, by rw [q2, st1_len]; exact h1, q4, fun k u hu => ?_⟩
  rcases st1_get hu with ⟨rfl, rfl⟩ | ⟨e, hL, hn⟩
  · exact q3
  · have ha := h3 k u hL
    rcases q5 k e with q | ⟨q, q'⟩ | q
    · rw [q]; exact ha
    · obtain ⟨j, w, g1, g2, g3⟩ := h2.1 i q'
      have : j = k := by omega
      subst this
      rw [ha] at g2; cases g2
      rw [up_cat] at g3
      exact absurd ⟨by omega, g3⟩ hn
    · rw [ha] at q; cases q
theorem store_c2 {A : Array Slot} {i : Nat} {v : Value} (hw : WF A) (hi : i + 1 < A.size) (hv : v.category = 2) :
    ∃ A', storeLocals A i v = some A' ∧ A'.size = A.size ∧ A'[i]? = some (Slot.val v) ∧ A'[i + 1]? = some Slot.second ∧ WF A' ∧
      ∀ k, k ≠ i → k ≠ i + 1 → A'[k]? = A[k]? ∨ (k + 1 = i ∧ A[i]? = some .second) ∨ A[k]? = some .second := by
  -- first as if a word of one slot were stored, then the second half
  obtain ⟨B, b1, b2, b3, b4, b5⟩ := store_c1 (v := .int 0) hw (by omega : i < A.size) rfl
  have hB : ∀ w : Value, w.category = 2 → storeLocals A i w = storeSelf B i w := by
    intro w hw2
    have hi0 : i < A.size := by omega
    cases hc : A[i] with
    | second =>
      simp [storeLocals, storeSelf, setAt, hc, hi0, Value.category] at b1
      obtain ⟨j, u, rfl, hj, hu⟩ := hw.1 i (by rw [Array.getElem?_eq_getElem hi0, hc])
      have hj' : j < A.size := by omega
      simp [hj'] at b1
      obtain ⟨-, rfl⟩ := b1
      simp [storeLocals, storeSelf, setAt, hc, hi0, hj', hw2, Array.setIfInBounds_setIfInBounds]
    | unset =>
      simp [storeLocals, storeSelf, setAt, hc, hi0, Value.category] at b1
      subst b1
      simp [storeLocals, storeSelf, setAt, hc, hi0, hw2, Array.setIfInBounds_setIfInBounds]
    | val old =>
      rcases cat12 old with ho | ho
      · simp [storeLocals, storeSelf, setAt, hc, hi0, Value.category] at b1
        have : ¬ old.category = 2 := by omega
        simp only [Value.category] at this
        simp [this] at b1
        subst b1
        simp [storeLocals, storeSelf, setAt, hc, hi0, hw2, ho, Array.setIfInBounds_setIfInBounds]
      · have hs := hw.2 i old (by rw [Array.getElem?_eq_getElem hi0, hc]) ho
        simp [storeLocals, storeSelf, setAt, hc, hi0, ho, hi] at b1
        simp [Value.category] at b1
        subst b1
        simp [storeLocals, storeSelf, setAt, hc, hi0, hi, hw2, ho, Array.setIfInBounds_setIfInBounds]
  obtain ⟨w1, w2⟩ := b4
  have hiB : i < B.size := by omega
  have hiB' : i + 1 < B.size := by omega
  have hn : B[i + 1]? ≠ some .second := fun z => by
    obtain ⟨j, u, e, g1, g2⟩ := w1 _ z
    have : j = i := by omega
    subst this
    rw [b3] at g1; cases g1; simp [Value.category] at g2
  have hA1 : B[i + 1]? = some B[i + 1] := Array.getElem?_eq_getElem hiB'
  -- the array with both halves, and what else was cleared
  have key : ∀ C : Array Slot, C.size = B.size → C[i]? = some (.val v) → C[i + 1]? = some .second → (∀ k, k ≠ i → k ≠ i + 1 → C[k]? = B[k]? ∨ (C[k]? = some .unset ∧ B[k]? = some .second ∧ k = i + 2)) → (∀ u, B[i + 1]? = some (.val u) → u.category = 2 → C[i + 2]? = some .unset) →
      C.size = A.size ∧ C[i]? = some (.val v) ∧ C[i + 1]? = some .second ∧ WF C ∧ ∀ k, k ≠ i → k ≠ i + 1 → C[k]? = A[k]? ∨ (k + 1 = i ∧ A[i]? = some .second) ∨ A[k]? = some .second := by
    intro C c1 c2 c3 c4 c5
    refine ⟨by omega, c2, c3, ⟨fun k hk => ?_, fun k u hk hu => ?_⟩, fun k k1 k2 => ?_⟩
    · by_cases e1 : k = i
      · subst e1; rw [c2] at hk; cases hk
      · by_cases e2 : k = i + 1
        · exact ⟨i, v, e2, c2, hv⟩
        · rcases c4 k e1 e2 with q | ⟨q, -, -⟩
          · rw [q] at hk
            obtain ⟨j, u, rfl, g1, g2⟩ := w1 k hk
            have n1 : j ≠ i := fun z => by omega
            have n2 : j ≠ i + 1 := fun z => by
              subst z
              have := c5 u g1 g2
              rw [q, hk] at this; cases this
            rcases c4 j n1 n2 with q' | ⟨q', q'', -⟩
            · exact ⟨j, u, rfl, by rw [q']; exact g1, g2⟩
            · rw [g1] at q''; cases q''
          · rw [q] at hk; cases hk
    · by_cases e1 : k = i
      · subst e1; exact c3
      · by_cases e2 : k = i + 1
        · subst e2; rw [c3] at hk; cases hk
        · rcases c4 k e1 e2 with q | ⟨q, -, -⟩
          · rw [q] at hk
            have g := w2 k u hk hu
            have n1 : k + 1 ≠ i := fun z => by rw [z] at g; rw [b3] at g; cases g
            have n2 : k + 1 ≠ i + 1 := fun z => by omega
            rcases c4 (k + 1) n1 n2 with q' | ⟨-, -, q''⟩
            · rw [q']; exact g
            · omega
          · rw [q] at hk; cases hk
    · rcases c4 k k1 k2 with q | ⟨-, q, q'⟩
      · rcases b5 k k1 with z | z | z
        · exact Or.inl (q.trans z)
        · exact Or.inr (Or.inl z)
        · exact Or.inr (Or.inr z)
      · rcases b5 k k1 with z | z | z
        · exact Or.inr (Or.inr (z.symm.trans q))
        · exact Or.inr (Or.inl z)
        · exact Or.inr (Or.inr z)
  cases hc : B[i + 1] with
  | second => rw [hc] at hA1; exact absurd hA1 hn
  | unset =>
    rw [hc] at hA1
    refine ⟨(B.setIfInBounds i (.val v)).setIfInBounds (i + 1) .second, ?_, key _ (by simp) (by simp [hiB]) (by simp [hiB']) (fun k k1 k2 => Or.inl (by rw [Array.getElem?_setIfInBounds_ne (Ne.symm k2), Array.getElem?_setIfInBounds_ne (Ne.symm k1)])) (fun u hu => by rw [hA1] at hu; cases hu)⟩
    rw [hB v hv]; simp [storeSelf, setAt, hiB, hiB', hv, hc, Array.getElem_setIfInBounds]
  | val old =>
    rw [hc] at hA1
    rcases cat12 old with ho | ho
    · refine ⟨(B.setIfInBounds i (.val v)).setIfInBounds (i + 1) .second, ?_, key _ (by simp) (by simp [hiB]) (by simp [hiB']) (fun k k1 k2 => Or.inl (by rw [Array.getElem?_setIfInBounds_ne (Ne.symm k2), Array.getElem?_setIfInBounds_ne (Ne.symm k1)])) (fun u hu hu2 => by rw [hA1] at hu; cases hu; omega)⟩
      rw [hB v hv]; simp [storeSelf, setAt, hiB, hiB', hv, hc, ho, Array.getElem_setIfInBounds]
    · have hs := w2 _ old hA1 ho
      have hi2 : i + 2 < B.size := (Array.getElem?_eq_some_iff.mp hs).1
      refine ⟨((B.setIfInBounds i (.val v)).setIfInBounds (i + 2) .unset).setIfInBounds (i + 1) .second, ?_, key _ (by simp) ?_ (by simp [hiB']) (fun k k1 k2 => ?_) (fun u hu hu2 => ?_)⟩
      · rw [hB v hv]; simp [storeSelf, setAt, hiB, hiB', hi2, hv, hc, ho, Array.getElem_setIfInBounds]
      · rw [Array.getElem?_setIfInBounds_ne (by omega), Array.getElem?_setIfInBounds_ne (by omega)]; simp [hiB]
      · rw [Array.getElem?_setIfInBounds_ne (Ne.symm k2)]
        by_cases e : i + 2 = k
        · subst e; exact Or.inr ⟨by simp [hi2], hs, rfl⟩
        · rw [Array.getElem?_setIfInBounds_ne e, Array.getElem?_setIfInBounds_ne (Ne.symm k1)]; exact Or.inl rfl
      · rw [Array.getElem?_setIfInBounds_ne (by omega)]; simp [hi2]
theorem loc_st2 {ad : Nat → Addr} {L : List (Option Value)} {A : Array Slot} (H : LocOK ad L A) {i : Nat} (hi : i + 1 < L.length) {v : Value} (hv : v.category = 2) :
    ∃ A', storeLocals A i (up ad v) = some A' ∧ LocOK ad (st2 L i v) A' := by
  obtain ⟨h1, h2, h3⟩ := H
  obtain ⟨A', q1, q2, q3, q3', q4, q5⟩ := store_c2 h2 (by omega : i + 1 < A.size) ((up_cat ad v).trans hv)
  refine ⟨A', q1, by rw [q2]; unfold st2; rw [List.length_set, st1_len]; exact h1, q4, fun k u hu => ?_⟩
  unfold st2 at hu
  by_cases e2 : k = i + 1
  · subst e2
    rw [List.getElem?_set_self (by rw [st1_len]; omega)] at hu; cases Option.some.inj hu
  · rw [List.getElem?_set_ne (Ne.symm e2)] at hu
    rcases st1_get hu with ⟨rfl, rfl⟩ | ⟨e, hL, hn⟩
    · exact q3
    · have ha := h3 k u hL
      rcases q5 k e e2 with q | ⟨q, q'⟩ | q
      · rw [q]; exact ha
      · obtain ⟨j, w, g1, g2, g3⟩ := h2.1 i q'
        have : j = k := by omega
        subst this
        rw [ha] at g2; cases g2
        rw [up_cat] at g3
        exact absurd ⟨by omega, g3⟩ hn
      · rw [ha] at q; cases q
/-- fewer known variables -/
def Less (L' L : List (Option Value)) : Prop := L'.length = L.length ∧ ∀ (i : Nat) (v : Value), L'[i]? = some (some v) → L[i]? = some (some v)
def lessB : List (Option Value) → List (Option Value) → Prop
  | [], [] => True
  | a :: r, b :: q => (a = none ∨ a = b) ∧ lessB r q
  | _, _ => False
theorem ls {a : Option Value} {r q : List (Option Value)} (h : lessB r q) : lessB (a :: r) (a :: q) := ⟨Or.inr rfl, h⟩
theorem ln {b : Option Value} {r q : List (Option Value)} (h : lessB r q) : lessB (none :: r) (b :: q) := ⟨Or.inl rfl, h⟩
theorem l0 : lessB [] [] := trivial
theorem lessB.less : ∀ {L' L : List (Option Value)}, lessB L' L → Less L' L
  | [], [], _ => ⟨rfl, fun i v h => by simp at h⟩
  | a :: r, b :: q, h => by
    obtain ⟨h1, h2⟩ := lessB.less h.2
    refine ⟨by simp [h1], fun i v hv => ?_⟩
    cases i with
    | zero =>
      simp only [List.getElem?_cons_zero, Option.some.injEq] at hv ⊢
      rcases h.1 with e | e
      · rw [e] at hv; cases hv
      · rw [← e]; exact hv
    | succ i => simp only [List.getElem?_cons_succ] at hv ⊢; exact h2 i v hv
  | [], _ :: _, h => h.elim
  | _ :: _, [], h => h.elim
theorem LocOK.less {ad : Nat → Addr} {L L' : List (Option Value)} {A : Array Slot} (H : LocOK ad L A) (q : Less L' L) : LocOK ad L' A := ⟨by rw [q.1]; exact H.1, H.2.1, fun i v h => H.2.2 i v (q.2 i v h)⟩
/-! ### the entry frame -/
def ent1 (v : Value) : List (Option Value) := if v.category = 2 then [some v, none] else [some v]
def ent (vs : List Value) (ml : Nat) : List (Option Value) := let q := vs.flatMap ent1; q ++ List.replicate (ml - q.length) none
def entS1 (v : Value) : List Slot := if v.category = 2 then [.val v, .second] else [.val v]
theorem args_list (vs : List Value) : ∀ acc : Array Slot, (vs.foldl (fun acc v => if v.category = 2 then (acc.push (.val v)).push .second else acc.push (.val v)) acc).toList = acc.toList ++ vs.flatMap entS1 := by
  induction vs with
  | nil => intro acc; simp
  | cons v r ih =>
    intro acc
    rw [List.foldl_cons, ih, List.flatMap_cons]
    by_cases h : v.category = 2 <;> simp [h, entS1]
theorem wf_ent (vs : List Value) (n : Nat) : WF (vs.flatMap entS1 ++ List.replicate n Slot.unset).toArray := by
  suffices h : ∀ (q : List Slot), q = vs.flatMap entS1 ++ List.replicate n Slot.unset → (∀ i : Nat, q[i]? = some Slot.second → ∃ (j : Nat) (w : Value), i = j + 1 ∧ q[j]? = some (Slot.val w) ∧ w.category = 2) ∧ ∀ (i : Nat) (w : Value), q[i]? = some (Slot.val w) → w.category = 2 → q[i + 1]? = some Slot.second by
    have := h _ rfl
    simpa [WF] using this
  induction vs with
  | nil =>
    intro q hq
    subst hq
    refine ⟨fun i hi => ?_, fun i w hi => ?_⟩ <;> simp [List.getElem?_replicate] at hi
  | cons v r ih =>
    intro q hq
    obtain ⟨g1, g2⟩ := ih _ rfl
    subst hq
    by_cases h : v.category = 2
    · simp only [List.flatMap_cons, entS1, h, if_true, List.cons_append, List.nil_append]
      refine ⟨fun i hi => ?_, fun i w hi hw => ?_⟩
      · match i with
        | 0 => simp at hi
        | 1 => exact ⟨0, v, rfl, rfl, h⟩
        | i + 2 =>
          obtain ⟨j, w, e, e1, e2⟩ := g1 i (by simpa using hi)
          exact ⟨j + 2, w, by omega, by simpa using e1, e2⟩
      · match i with
        | 0 => rfl
        | 1 => simp at hi
        | i + 2 => simpa using g2 i w (by simpa using hi) hw
    · simp only [List.flatMap_cons, entS1, h, if_false, List.cons_append, List.nil_append]
      refine ⟨fun i hi => ?_, fun i w hi hw => ?_⟩
      · match i with
        | 0 => simp at hi
        | i + 1 =>
          obtain ⟨j, w, e, e1, e2⟩ := g1 i (by simpa using hi)
          exact ⟨j + 1, w, by omega, by simpa using e1, e2⟩
      · match i with
        | 0 => simp at hi; subst hi; exact absurd hw h
        | i + 1 => simpa using g2 i w (by simpa using hi) hw
theorem ent_get (ad : Nat → Addr) (vs : List Value) : ∀ (n : Nat) (i : Nat) (u : Value), (vs.flatMap ent1 ++ List.replicate n none)[i]? = some (some u) → ((vs.map (up ad)).flatMap entS1 ++ List.replicate n Slot.unset)[i]? = some (.val (up ad u)) := by
  induction vs with
  | nil => intro n i u h; simp [List.getElem?_replicate] at h
  | cons v r ih =>
    intro n i u h
    by_cases hc : v.category = 2
    · have hc' : (up ad v).category = 2 := (up_cat ad v).trans hc
      simp only [List.flatMap_cons, List.map_cons, ent1, entS1, hc, hc', if_true, List.cons_append, List.nil_append] at h ⊢
      match i with
      | 0 => simp at h ⊢; rw [h]
      | 1 => simp at h
      | i + 2 => simpa using ih n i u (by simpa using h)
    · have hc' : ¬ (up ad v).category = 2 := by rw [up_cat]; exact hc
      simp only [List.flatMap_cons, List.map_cons, ent1, entS1, hc, hc', if_false, List.cons_append, List.nil_append] at h ⊢
      match i with
      | 0 => simp at h ⊢; rw [h]
      | i + 1 => simpa using ih n i u (by simpa using h)
theorem ent_len (ad : Nat → Addr) (vs : List Value) : ((vs.map (up ad)).flatMap entS1).length = (vs.flatMap ent1).length := by
  induction vs with
  | nil => rfl
  | cons v r ih =>
    have := up_cat ad v
    by_cases hc : v.category = 2 <;> simp [ent1, entS1, hc, this, ih]
theorem loc_ent (ad : Nat → Addr) (vs : List Value) (ml : Nat) : LocOK ad (ent vs ml) (argsToLocals (vs.map (up ad)).toArray ml) := by
  have e : argsToLocals (vs.map (up ad)).toArray ml = ((vs.map (up ad)).flatMap entS1 ++ List.replicate (ml - (vs.flatMap ent1).length) Slot.unset).toArray := by
    have q := args_list (vs.map (up ad)) #[]
    simp only [List.nil_append] at q
    have q3 : ((vs.map (up ad)).toArray.foldl (fun acc v => if v.category = 2 then (acc.push (Slot.val v)).push Slot.second else acc.push (Slot.val v)) #[]) = ((vs.map (up ad)).flatMap entS1).toArray := by
      apply Array.ext'
      rw [List.foldl_toArray]; simpa using q
    unfold argsToLocals
    simp only [q3]
    rw [List.size_toArray, ent_len]
    simp
  rw [e]
  refine ⟨by simp only [ent, List.size_toArray, List.length_append, List.length_replicate, ent_len], wf_ent _ _, fun i u h => ?_⟩
  have := ent_get ad vs (ml - (vs.flatMap ent1).length) i u (by simpa [ent] using h)
  simpa using this
/-! ## small things -/
theorem ifs {α : Type} {c : Prop} [Decidable c] {a b r : α} (h : (if c then a else b) = r) : (c ∧ a = r) ∨ (¬ c ∧ b = r) := by
  by_cases q : c
  · exact Or.inl ⟨q, (if_pos q).symm.trans h⟩
  · exact Or.inr ⟨q, (if_neg q).symm.trans h⟩
theorem ifn {α : Type} {c : Prop} [Decidable c] {a : Option α} {r : α} (h : (if c then a else none) = some r) : c ∧ a = some r := by
  by_cases q : c
  · exact ⟨q, (if_pos q).symm.trans h⟩
  · cases (if_neg q).symm.trans h
theorem ifz {α : Type} {c : Prop} [Decidable c] {a : Option α} {r : α} (h : (if c then none else a) = some r) : ¬ c ∧ a = some r := by
  by_cases q : c
  · cases (if_pos q).symm.trans h
  · exact ⟨q, (if_neg q).symm.trans h⟩
theorem ble {a b : Nat} (h : Nat.ble a b = true) : a ≤ b := Nat.le_of_ble_eq_true h
theorem blt {a b : Nat} (h : Nat.blt a b = true) : a < b := Nat.le_of_ble_eq_true h
theorem cl_lt {x y : Int64} : XT.cmpL x y < 0 ↔ x < y := by
  unfold XT.cmpL; split <;> (try split) <;> simp_all [Int64.lt_iff_toInt_lt, ← Int64.toInt_inj] <;> omega
theorem cl_gt {x y : Int64} : 0 < XT.cmpL x y ↔ y < x := by
  unfold XT.cmpL; split <;> (try split) <;> simp_all [Int64.lt_iff_toInt_lt, ← Int64.toInt_inj] <;> omega
theorem cl_eq {x y : Int64} : XT.cmpL x y = 0 ↔ x = y := by
  unfold XT.cmpL; split <;> (try split) <;> simp_all [Int64.lt_iff_toInt_lt, ← Int64.toInt_inj] <;> omega
/-! ## 3. the machine -/
abbrev Cx (S : Type) : Type := Program × Launch × Env × Room × State × MethodId × Array Value × List Frame × Method × Code × (Nat → Addr) × (S → Heap → Prop) × (S → Nat × Nat) × Nat × Nat × Nat
/-- from here the run ends, returning r -/
def Go {S : Type} (X : Cx S) (r : Option Value × S) (pc : Nat) (L : List (Option Value)) (st : List Value) (x : S) : Prop :=
  match X with
  | (p, l, e, R, s, m, args, below, meth, c, ad, INV, CE, n0, kc, ks) =>
    ∀ (T : State) (locs : List Loc) (A : Array Slot), Stand p l e R s m args below meth c T locs (CE x).1 (CE x).2 → Fr n0 locs → INV x T.heap → LocOK ad L A →
      ∃ s₂, Steps p.tables e below (T.setTop (mkF m pc A (st.map (up ad)))) s₂ ∧ s₂.status = .running ∧ Ended s₂ below (.returned (r.1.map (up ad))) ∧ INV r.2 s₂.heap ∧
        ∃ L', Fr n0 L' ∧ s.WarmedH s₂.vm ∧ s.sameButNew ({ s₂ with vm := s.vm } : State) L' kc ks
def Ctx {S : Type} (X : Cx S) (Z : State) (own nm : String) (code : ByteArray) (ml : Nat) (ret : Option FieldType) : Prop :=
  match X with
  | (p, l, e, R, s, m, args, below, meth, c, ad, INV, CE, n0, kc, ks) =>
    p.tables.exec = Jvm.exec ∧ c.code = code ∧ c.maxLocals = ml ∧ s.vm.findClass own = some m.cls ∧ Z.Warmed39 s.vm ∧ meth.sig.returnType = ret ∧ meth.locks = false ∧ meth.name = nm
def hsz {S : Type} (X : Cx S) : Nat := X.2.2.2.2.1.heap.size
section Rules
variable {S : Type} {X : Cx S} {Z : State} {own nm : String} {code : ByteArray} {ml : Nat} {ret : Option FieldType} {r : Option Value × S} {pc : Nat} {L L' : List (Option Value)} {st : List Value} {x : S}
theorem g_iloadN (K : Ctx X Z own nm code ml ret) {k : Fin 4} {v : Int32} (hd : decode code pc = .ok (.iload_n k, 1)) (hl : L[k.val]? = some (some (.int v))) (h : Go X r (pc + 1) L (.int v :: st) x) : Go X r pc L (st) x := by
  obtain ⟨p, l, e, R, s, m, args, below, meth, c, ad, INV, CE, n0, kc, ks⟩ := X
  obtain ⟨hx, hby, -⟩ := K
  intro T locs A Y N I LO
  obtain ⟨s₂, h1, h2⟩ := h T locs A Y N I LO
  exact ⟨s₂, XS.iloadN Y.here hx rfl (hb hby hd) (LO.2.2 _ _ hl) h1, h2⟩
theorem g_iload (K : Ctx X Z own nm code ml ret) {k : Nat} {v : Int32} (hd : decode code pc = .ok (.iload k, 2)) (hl : L[k]? = some (some (.int v))) (h : Go X r (pc + 2) L (.int v :: st) x) : Go X r pc L (st) x := by
  obtain ⟨p, l, e, R, s, m, args, below, meth, c, ad, INV, CE, n0, kc, ks⟩ := X
  obtain ⟨hx, hby, -⟩ := K
  intro T locs A Y N I LO
  obtain ⟨s₂, h1, h2⟩ := h T locs A Y N I LO
  exact ⟨s₂, XS.iload Y.here hx rfl (hb hby hd) (LO.2.2 _ _ hl) h1, h2⟩
theorem g_aloadN (K : Ctx X Z own nm code ml ret) {k : Fin 4} {v : Nat} (hd : decode code pc = .ok (.aload_n k, 1)) (hl : L[k.val]? = some (some (.ref v))) (h : Go X r (pc + 1) L (.ref v :: st) x) : Go X r pc L (st) x := by
  obtain ⟨p, l, e, R, s, m, args, below, meth, c, ad, INV, CE, n0, kc, ks⟩ := X
  obtain ⟨hx, hby, -⟩ := K
  intro T locs A Y N I LO
  obtain ⟨s₂, h1, h2⟩ := h T locs A Y N I LO
  exact ⟨s₂, XS.aloadN Y.here hx rfl (hb hby hd) (LO.2.2 _ _ hl) rfl h1, h2⟩
theorem g_aload (K : Ctx X Z own nm code ml ret) {k : Nat} {v : Nat} (hd : decode code pc = .ok (.aload k, 2)) (hl : L[k]? = some (some (.ref v))) (h : Go X r (pc + 2) L (.ref v :: st) x) : Go X r pc L (st) x := by
  obtain ⟨p, l, e, R, s, m, args, below, meth, c, ad, INV, CE, n0, kc, ks⟩ := X
  obtain ⟨hx, hby, -⟩ := K
  intro T locs A Y N I LO
  obtain ⟨s₂, h1, h2⟩ := h T locs A Y N I LO
  exact ⟨s₂, XS.aload Y.here hx rfl (hb hby hd) (LO.2.2 _ _ hl) rfl h1, h2⟩
theorem g_lloadN (K : Ctx X Z own nm code ml ret) {k : Fin 4} {v : Int64} (hd : decode code pc = .ok (.lload_n k, 1)) (hl : L[k.val]? = some (some (.long v))) (h : Go X r (pc + 1) L (.long v :: st) x) : Go X r pc L (st) x := by
  obtain ⟨p, l, e, R, s, m, args, below, meth, c, ad, INV, CE, n0, kc, ks⟩ := X
  obtain ⟨hx, hby, -⟩ := K
  intro T locs A Y N I LO
  obtain ⟨s₂, h1, h2⟩ := h T locs A Y N I LO
  exact ⟨s₂, XT.lloadN Y.here hx rfl (hb hby hd) (LO.2.2 _ _ hl) h1, h2⟩
theorem g_lload (K : Ctx X Z own nm code ml ret) {k : Nat} {v : Int64} (hd : decode code pc = .ok (.lload k, 2)) (hl : L[k]? = some (some (.long v))) (h : Go X r (pc + 2) L (.long v :: st) x) : Go X r pc L (st) x := by
  obtain ⟨p, l, e, R, s, m, args, below, meth, c, ad, INV, CE, n0, kc, ks⟩ := X
  obtain ⟨hx, hby, -⟩ := K
  intro T locs A Y N I LO
  obtain ⟨s₂, h1, h2⟩ := h T locs A Y N I LO
  exact ⟨s₂, XT.lload Y.here hx rfl (hb hby hd) (LO.2.2 _ _ hl) h1, h2⟩
theorem g_iconst (K : Ctx X Z own nm code ml ret) {i : Int} {v : Int32} (hd : decode code pc = .ok (.iconst i, 1)) (hv : Int32.ofInt i = v) (h : Go X r (pc + 1) L (.int v :: st) x) : Go X r pc L (st) x := by
  obtain ⟨p, l, e, R, s, m, args, below, meth, c, ad, INV, CE, n0, kc, ks⟩ := X
  obtain ⟨hx, hby, -⟩ := K
  intro T locs A Y N I LO
  subst hv
  have LO₁ := LO
  have ⟨A₁, hA₁⟩ : ∃ A₁, A₁ = A := ⟨_, rfl⟩
  subst hA₁
  obtain ⟨s₂, h1, h2⟩ := h T locs A₁ Y N I LO₁
  exact ⟨s₂, XS.iconst Y.here hx rfl (hb hby hd) h1, h2⟩
theorem g_bipush (K : Ctx X Z own nm code ml ret) {i : Int} {v : Int32} (hd : decode code pc = .ok (.bipush i, 2)) (hv : (Int8.ofInt i).toInt32 = v) (h : Go X r (pc + 2) L (.int v :: st) x) : Go X r pc L (st) x := by
  obtain ⟨p, l, e, R, s, m, args, below, meth, c, ad, INV, CE, n0, kc, ks⟩ := X
  obtain ⟨hx, hby, -⟩ := K
  intro T locs A Y N I LO
  subst hv
  have LO₁ := LO
  have ⟨A₁, hA₁⟩ : ∃ A₁, A₁ = A := ⟨_, rfl⟩
  subst hA₁
  obtain ⟨s₂, h1, h2⟩ := h T locs A₁ Y N I LO₁
  exact ⟨s₂, XS.bipush Y.here hx rfl (hb hby hd) h1, h2⟩
theorem g_sipush (K : Ctx X Z own nm code ml ret) {i : Int} {v : Int32} (hd : decode code pc = .ok (.sipush i, 3)) (hv : (Int16.ofInt i).toInt32 = v) (h : Go X r (pc + 3) L (.int v :: st) x) : Go X r pc L (st) x := by
  obtain ⟨p, l, e, R, s, m, args, below, meth, c, ad, INV, CE, n0, kc, ks⟩ := X
  obtain ⟨hx, hby, -⟩ := K
  intro T locs A Y N I LO
  subst hv
  have LO₁ := LO
  have ⟨A₁, hA₁⟩ : ∃ A₁, A₁ = A := ⟨_, rfl⟩
  subst hA₁
  obtain ⟨s₂, h1, h2⟩ := h T locs A₁ Y N I LO₁
  exact ⟨s₂, XS.sipush Y.here hx rfl (hb hby hd) h1, h2⟩
theorem g_lconst (K : Ctx X Z own nm code ml ret) {k : Fin 2} {v : Int64} (hd : decode code pc = .ok (.lconst k, 1)) (hv : Int64.ofNat k = v) (h : Go X r (pc + 1) L (.long v :: st) x) : Go X r pc L (st) x := by
  obtain ⟨p, l, e, R, s, m, args, below, meth, c, ad, INV, CE, n0, kc, ks⟩ := X
  obtain ⟨hx, hby, -⟩ := K
  intro T locs A Y N I LO
  subst hv
  have LO₁ := LO
  have ⟨A₁, hA₁⟩ : ∃ A₁, A₁ = A := ⟨_, rfl⟩
  subst hA₁
  obtain ⟨s₂, h1, h2⟩ := h T locs A₁ Y N I LO₁
  exact ⟨s₂, XT.lconst Y.here hx rfl (hb hby hd) h1, h2⟩
theorem g_iadd (K : Ctx X Z own nm code ml ret) {v w : Int32} (hd : decode code pc = .ok (.iadd, 1)) (h : Go X r (pc + 1) L (.int (v + w) :: st) x) : Go X r pc L (.int w :: .int v :: st) x := by
  obtain ⟨p, l, e, R, s, m, args, below, meth, c, ad, INV, CE, n0, kc, ks⟩ := X
  obtain ⟨hx, hby, -⟩ := K
  intro T locs A Y N I LO
  obtain ⟨s₂, h1, h2⟩ := h T locs A Y N I LO
  exact ⟨s₂, XS.iadd Y.here hx rfl (hb hby hd) rfl h1, h2⟩
theorem g_isub (K : Ctx X Z own nm code ml ret) {v w : Int32} (hd : decode code pc = .ok (.isub, 1)) (h : Go X r (pc + 1) L (.int (v - w) :: st) x) : Go X r pc L (.int w :: .int v :: st) x := by
  obtain ⟨p, l, e, R, s, m, args, below, meth, c, ad, INV, CE, n0, kc, ks⟩ := X
  obtain ⟨hx, hby, -⟩ := K
  intro T locs A Y N I LO
  obtain ⟨s₂, h1, h2⟩ := h T locs A Y N I LO
  exact ⟨s₂, XS.isub Y.here hx rfl (hb hby hd) rfl h1, h2⟩
theorem g_imul (K : Ctx X Z own nm code ml ret) {v w : Int32} (hd : decode code pc = .ok (.imul, 1)) (h : Go X r (pc + 1) L (.int (v * w) :: st) x) : Go X r pc L (.int w :: .int v :: st) x := by
  obtain ⟨p, l, e, R, s, m, args, below, meth, c, ad, INV, CE, n0, kc, ks⟩ := X
  obtain ⟨hx, hby, -⟩ := K
  intro T locs A Y N I LO
  obtain ⟨s₂, h1, h2⟩ := h T locs A Y N I LO
  exact ⟨s₂, XS.imul Y.here hx rfl (hb hby hd) rfl h1, h2⟩
theorem g_iand (K : Ctx X Z own nm code ml ret) {v w : Int32} (hd : decode code pc = .ok (.iand, 1)) (h : Go X r (pc + 1) L (.int (v &&& w) :: st) x) : Go X r pc L (.int w :: .int v :: st) x := by
  obtain ⟨p, l, e, R, s, m, args, below, meth, c, ad, INV, CE, n0, kc, ks⟩ := X
  obtain ⟨hx, hby, -⟩ := K
  intro T locs A Y N I LO
  obtain ⟨s₂, h1, h2⟩ := h T locs A Y N I LO
  exact ⟨s₂, XS.iand Y.here hx rfl (hb hby hd) rfl h1, h2⟩
theorem g_ior (K : Ctx X Z own nm code ml ret) {v w : Int32} (hd : decode code pc = .ok (.ior, 1)) (h : Go X r (pc + 1) L (.int (v ||| w) :: st) x) : Go X r pc L (.int w :: .int v :: st) x := by
  obtain ⟨p, l, e, R, s, m, args, below, meth, c, ad, INV, CE, n0, kc, ks⟩ := X
  obtain ⟨hx, hby, -⟩ := K
  intro T locs A Y N I LO
  obtain ⟨s₂, h1, h2⟩ := h T locs A Y N I LO
  exact ⟨s₂, XT.ior Y.here hx rfl (hb hby hd) rfl h1, h2⟩
theorem g_ixor (K : Ctx X Z own nm code ml ret) {v w : Int32} (hd : decode code pc = .ok (.ixor, 1)) (h : Go X r (pc + 1) L (.int (v ^^^ w) :: st) x) : Go X r pc L (.int w :: .int v :: st) x := by
  obtain ⟨p, l, e, R, s, m, args, below, meth, c, ad, INV, CE, n0, kc, ks⟩ := X
  obtain ⟨hx, hby, -⟩ := K
  intro T locs A Y N I LO
  obtain ⟨s₂, h1, h2⟩ := h T locs A Y N I LO
  exact ⟨s₂, XT.ixor Y.here hx rfl (hb hby hd) rfl h1, h2⟩
theorem g_ishl (K : Ctx X Z own nm code ml ret) {v w : Int32} (hd : decode code pc = .ok (.ishl, 1)) (h : Go X r (pc + 1) L (.int (v <<< (w &&& 31)) :: st) x) : Go X r pc L (.int w :: .int v :: st) x := by
  obtain ⟨p, l, e, R, s, m, args, below, meth, c, ad, INV, CE, n0, kc, ks⟩ := X
  obtain ⟨hx, hby, -⟩ := K
  intro T locs A Y N I LO
  obtain ⟨s₂, h1, h2⟩ := h T locs A Y N I LO
  exact ⟨s₂, XT.ishl Y.here hx rfl (hb hby hd) rfl h1, h2⟩
theorem g_ishr (K : Ctx X Z own nm code ml ret) {v w : Int32} (hd : decode code pc = .ok (.ishr, 1)) (h : Go X r (pc + 1) L (.int (v >>> (w &&& 31)) :: st) x) : Go X r pc L (.int w :: .int v :: st) x := by
  obtain ⟨p, l, e, R, s, m, args, below, meth, c, ad, INV, CE, n0, kc, ks⟩ := X
  obtain ⟨hx, hby, -⟩ := K
  intro T locs A Y N I LO
  obtain ⟨s₂, h1, h2⟩ := h T locs A Y N I LO
  exact ⟨s₂, XT.ishr Y.here hx rfl (hb hby hd) rfl h1, h2⟩
theorem g_iushr (K : Ctx X Z own nm code ml ret) {v w : Int32} (hd : decode code pc = .ok (.iushr, 1)) (h : Go X r (pc + 1) L (.int (XT.ushr v w) :: st) x) : Go X r pc L (.int w :: .int v :: st) x := by
  obtain ⟨p, l, e, R, s, m, args, below, meth, c, ad, INV, CE, n0, kc, ks⟩ := X
  obtain ⟨hx, hby, -⟩ := K
  intro T locs A Y N I LO
  obtain ⟨s₂, h1, h2⟩ := h T locs A Y N I LO
  exact ⟨s₂, XT.iushr Y.here hx rfl (hb hby hd) rfl h1, h2⟩
theorem g_idiv (K : Ctx X Z own nm code ml ret) {v w : Int32} (hd : decode code pc = .ok (.idiv, 1)) (hw : w ≠ 0) (h : Go X r (pc + 1) L (.int (v / w) :: st) x) : Go X r pc L (.int w :: .int v :: st) x := by
  obtain ⟨p, l, e, R, s, m, args, below, meth, c, ad, INV, CE, n0, kc, ks⟩ := X
  obtain ⟨hx, hby, -⟩ := K
  intro T locs A Y N I LO
  obtain ⟨s₂, h1, h2⟩ := h T locs A Y N I LO
  exact ⟨s₂, XS.idiv Y.here hx rfl (hb hby hd) rfl hw h1, h2⟩
theorem g_irem (K : Ctx X Z own nm code ml ret) {v w : Int32} (hd : decode code pc = .ok (.irem, 1)) (hw : w ≠ 0) (h : Go X r (pc + 1) L (.int (v % w) :: st) x) : Go X r pc L (.int w :: .int v :: st) x := by
  obtain ⟨p, l, e, R, s, m, args, below, meth, c, ad, INV, CE, n0, kc, ks⟩ := X
  obtain ⟨hx, hby, -⟩ := K
  intro T locs A Y N I LO
  obtain ⟨s₂, h1, h2⟩ := h T locs A Y N I LO
  exact ⟨s₂, iremM Y hx rfl (hb hby hd) rfl hw h1, h2⟩
theorem g_ineg (K : Ctx X Z own nm code ml ret) {v : Int32} (hd : decode code pc = .ok (.ineg, 1)) (h : Go X r (pc + 1) L (.int (-v) :: st) x) : Go X r pc L (.int v :: st) x := by
  obtain ⟨p, l, e, R, s, m, args, below, meth, c, ad, INV, CE, n0, kc, ks⟩ := X
  obtain ⟨hx, hby, -⟩ := K
  intro T locs A Y N I LO
  obtain ⟨s₂, h1, h2⟩ := h T locs A Y N I LO
  exact ⟨s₂, XS.ineg Y.here hx rfl (hb hby hd) rfl h1, h2⟩
theorem g_ladd (K : Ctx X Z own nm code ml ret) {v w : Int64} (hd : decode code pc = .ok (.ladd, 1)) (h : Go X r (pc + 1) L (.long (v + w) :: st) x) : Go X r pc L (.long w :: .long v :: st) x := by
  obtain ⟨p, l, e, R, s, m, args, below, meth, c, ad, INV, CE, n0, kc, ks⟩ := X
  obtain ⟨hx, hby, -⟩ := K
  intro T locs A Y N I LO
  obtain ⟨s₂, h1, h2⟩ := h T locs A Y N I LO
  exact ⟨s₂, XT.ladd Y.here hx rfl (hb hby hd) rfl h1, h2⟩
theorem g_lsub (K : Ctx X Z own nm code ml ret) {v w : Int64} (hd : decode code pc = .ok (.lsub, 1)) (h : Go X r (pc + 1) L (.long (v - w) :: st) x) : Go X r pc L (.long w :: .long v :: st) x := by
  obtain ⟨p, l, e, R, s, m, args, below, meth, c, ad, INV, CE, n0, kc, ks⟩ := X
  obtain ⟨hx, hby, -⟩ := K
  intro T locs A Y N I LO
  obtain ⟨s₂, h1, h2⟩ := h T locs A Y N I LO
  exact ⟨s₂, XT.lsub Y.here hx rfl (hb hby hd) rfl h1, h2⟩
theorem g_lmul (K : Ctx X Z own nm code ml ret) {v w : Int64} (hd : decode code pc = .ok (.lmul, 1)) (h : Go X r (pc + 1) L (.long (v * w) :: st) x) : Go X r pc L (.long w :: .long v :: st) x := by
  obtain ⟨p, l, e, R, s, m, args, below, meth, c, ad, INV, CE, n0, kc, ks⟩ := X
  obtain ⟨hx, hby, -⟩ := K
  intro T locs A Y N I LO
  obtain ⟨s₂, h1, h2⟩ := h T locs A Y N I LO
  exact ⟨s₂, XT.lmul Y.here hx rfl (hb hby hd) rfl h1, h2⟩
theorem g_land (K : Ctx X Z own nm code ml ret) {v w : Int64} (hd : decode code pc = .ok (.land, 1)) (h : Go X r (pc + 1) L (.long (v &&& w) :: st) x) : Go X r pc L (.long w :: .long v :: st) x := by
  obtain ⟨p, l, e, R, s, m, args, below, meth, c, ad, INV, CE, n0, kc, ks⟩ := X
  obtain ⟨hx, hby, -⟩ := K
  intro T locs A Y N I LO
  obtain ⟨s₂, h1, h2⟩ := h T locs A Y N I LO
  exact ⟨s₂, XT.land Y.here hx rfl (hb hby hd) rfl h1, h2⟩
theorem g_lor (K : Ctx X Z own nm code ml ret) {v w : Int64} (hd : decode code pc = .ok (.lor, 1)) (h : Go X r (pc + 1) L (.long (v ||| w) :: st) x) : Go X r pc L (.long w :: .long v :: st) x := by
  obtain ⟨p, l, e, R, s, m, args, below, meth, c, ad, INV, CE, n0, kc, ks⟩ := X
  obtain ⟨hx, hby, -⟩ := K
  intro T locs A Y N I LO
  obtain ⟨s₂, h1, h2⟩ := h T locs A Y N I LO
  exact ⟨s₂, XT.lor Y.here hx rfl (hb hby hd) rfl h1, h2⟩
theorem g_lxor (K : Ctx X Z own nm code ml ret) {v w : Int64} (hd : decode code pc = .ok (.lxor, 1)) (h : Go X r (pc + 1) L (.long (v ^^^ w) :: st) x) : Go X r pc L (.long w :: .long v :: st) x := by
  obtain ⟨p, l, e, R, s, m, args, below, meth, c, ad, INV, CE, n0, kc, ks⟩ := X
  obtain ⟨hx, hby, -⟩ := K
  intro T locs A Y N I LO
  obtain ⟨s₂, h1, h2⟩ := h T locs A Y N I LO
  exact ⟨s₂, XT.lxor Y.here hx rfl (hb hby hd) rfl h1, h2⟩
theorem g_lshl (K : Ctx X Z own nm code ml ret) {v : Int64} {w : Int32} (hd : decode code pc = .ok (.lshl, 1)) (h : Go X r (pc + 1) L (.long (v <<< (w.toInt64 &&& 63)) :: st) x) : Go X r pc L (.int w :: .long v :: st) x := by
  obtain ⟨p, l, e, R, s, m, args, below, meth, c, ad, INV, CE, n0, kc, ks⟩ := X
  obtain ⟨hx, hby, -⟩ := K
  intro T locs A Y N I LO
  obtain ⟨s₂, h1, h2⟩ := h T locs A Y N I LO
  exact ⟨s₂, XT.lshl Y.here hx rfl (hb hby hd) rfl h1, h2⟩
theorem g_lshr (K : Ctx X Z own nm code ml ret) {v : Int64} {w : Int32} (hd : decode code pc = .ok (.lshr, 1)) (h : Go X r (pc + 1) L (.long (v >>> (w.toInt64 &&& 63)) :: st) x) : Go X r pc L (.int w :: .long v :: st) x := by
  obtain ⟨p, l, e, R, s, m, args, below, meth, c, ad, INV, CE, n0, kc, ks⟩ := X
  obtain ⟨hx, hby, -⟩ := K
  intro T locs A Y N I LO
  obtain ⟨s₂, h1, h2⟩ := h T locs A Y N I LO
  exact ⟨s₂, XT.lshr Y.here hx rfl (hb hby hd) rfl h1, h2⟩
theorem g_lushr (K : Ctx X Z own nm code ml ret) {v : Int64} {w : Int32} (hd : decode code pc = .ok (.lushr, 1)) (h : Go X r (pc + 1) L (.long (XT.ushrL v w) :: st) x) : Go X r pc L (.int w :: .long v :: st) x := by
  obtain ⟨p, l, e, R, s, m, args, below, meth, c, ad, INV, CE, n0, kc, ks⟩ := X
  obtain ⟨hx, hby, -⟩ := K
  intro T locs A Y N I LO
  obtain ⟨s₂, h1, h2⟩ := h T locs A Y N I LO
  exact ⟨s₂, XT.lushr Y.here hx rfl (hb hby hd) rfl h1, h2⟩
theorem g_ldiv (K : Ctx X Z own nm code ml ret) {v w : Int64} (hd : decode code pc = .ok (.ldiv, 1)) (hw : w ≠ 0) (h : Go X r (pc + 1) L (.long (v / w) :: st) x) : Go X r pc L (.long w :: .long v :: st) x := by
  obtain ⟨p, l, e, R, s, m, args, below, meth, c, ad, INV, CE, n0, kc, ks⟩ := X
  obtain ⟨hx, hby, -⟩ := K
  intro T locs A Y N I LO
  obtain ⟨s₂, h1, h2⟩ := h T locs A Y N I LO
  exact ⟨s₂, XT.ldiv Y.here hx rfl (hb hby hd) rfl hw h1, h2⟩
theorem g_lrem (K : Ctx X Z own nm code ml ret) {v w : Int64} (hd : decode code pc = .ok (.lrem, 1)) (hw : w ≠ 0) (h : Go X r (pc + 1) L (.long (v % w) :: st) x) : Go X r pc L (.long w :: .long v :: st) x := by
  obtain ⟨p, l, e, R, s, m, args, below, meth, c, ad, INV, CE, n0, kc, ks⟩ := X
  obtain ⟨hx, hby, -⟩ := K
  intro T locs A Y N I LO
  obtain ⟨s₂, h1, h2⟩ := h T locs A Y N I LO
  exact ⟨s₂, XT.lrem Y.here hx rfl (hb hby hd) rfl hw (lrem_mod v w ▸ h1), h2⟩
theorem g_lneg (K : Ctx X Z own nm code ml ret) {v : Int64} (hd : decode code pc = .ok (.lneg, 1)) (h : Go X r (pc + 1) L (.long (-v) :: st) x) : Go X r pc L (.long v :: st) x := by
  obtain ⟨p, l, e, R, s, m, args, below, meth, c, ad, INV, CE, n0, kc, ks⟩ := X
  obtain ⟨hx, hby, -⟩ := K
  intro T locs A Y N I LO
  obtain ⟨s₂, h1, h2⟩ := h T locs A Y N I LO
  exact ⟨s₂, XT.lneg Y.here hx rfl (hb hby hd) rfl h1, h2⟩
theorem g_i2l (K : Ctx X Z own nm code ml ret) {v : Int32} (hd : decode code pc = .ok (.i2l, 1)) (h : Go X r (pc + 1) L (.long v.toInt64 :: st) x) : Go X r pc L (.int v :: st) x := by
  obtain ⟨p, l, e, R, s, m, args, below, meth, c, ad, INV, CE, n0, kc, ks⟩ := X
  obtain ⟨hx, hby, -⟩ := K
  intro T locs A Y N I LO
  obtain ⟨s₂, h1, h2⟩ := h T locs A Y N I LO
  exact ⟨s₂, XT.i2l Y.here hx rfl (hb hby hd) rfl h1, h2⟩
theorem g_l2i (K : Ctx X Z own nm code ml ret) {v : Int64} (hd : decode code pc = .ok (.l2i, 1)) (h : Go X r (pc + 1) L (.int v.toInt32 :: st) x) : Go X r pc L (.long v :: st) x := by
  obtain ⟨p, l, e, R, s, m, args, below, meth, c, ad, INV, CE, n0, kc, ks⟩ := X
  obtain ⟨hx, hby, -⟩ := K
  intro T locs A Y N I LO
  obtain ⟨s₂, h1, h2⟩ := h T locs A Y N I LO
  exact ⟨s₂, XT.l2i Y.here hx rfl (hb hby hd) rfl h1, h2⟩
theorem g_i2b (K : Ctx X Z own nm code ml ret) {v : Int32} (hd : decode code pc = .ok (.i2b, 1)) (h : Go X r (pc + 1) L (.int (nar .byte v) :: st) x) : Go X r pc L (.int v :: st) x := by
  obtain ⟨p, l, e, R, s, m, args, below, meth, c, ad, INV, CE, n0, kc, ks⟩ := X
  obtain ⟨hx, hby, -⟩ := K
  intro T locs A Y N I LO
  obtain ⟨s₂, h1, h2⟩ := h T locs A Y N I LO
  exact ⟨s₂, XT.i2b Y.here hx rfl (hb hby hd) rfl h1, h2⟩
theorem g_i2c (K : Ctx X Z own nm code ml ret) {v : Int32} (hd : decode code pc = .ok (.i2c, 1)) (h : Go X r (pc + 1) L (.int (nar .char v) :: st) x) : Go X r pc L (.int v :: st) x := by
  obtain ⟨p, l, e, R, s, m, args, below, meth, c, ad, INV, CE, n0, kc, ks⟩ := X
  obtain ⟨hx, hby, -⟩ := K
  intro T locs A Y N I LO
  obtain ⟨s₂, h1, h2⟩ := h T locs A Y N I LO
  exact ⟨s₂, XT.i2c Y.here hx rfl (hb hby hd) rfl h1, h2⟩
theorem g_lcmp (K : Ctx X Z own nm code ml ret) {v w : Int64} (hd : decode code pc = .ok (.lcmp, 1)) (h : Go X r (pc + 1) L (.int (XT.cmpL v w) :: st) x) : Go X r pc L (.long w :: .long v :: st) x := by
  obtain ⟨p, l, e, R, s, m, args, below, meth, c, ad, INV, CE, n0, kc, ks⟩ := X
  obtain ⟨hx, hby, -⟩ := K
  intro T locs A Y N I LO
  obtain ⟨s₂, h1, h2⟩ := h T locs A Y N I LO
  exact ⟨s₂, XT.lcmp Y.here hx rfl (hb hby hd) rfl h1, h2⟩
theorem g_pop (K : Ctx X Z own nm code ml ret) {v : Value} (hd : decode code pc = .ok (.pop, 1)) (hc : v.category = 1) (h : Go X r (pc + 1) L (st) x) : Go X r pc L (v :: st) x := by
  obtain ⟨p, l, e, R, s, m, args, below, meth, c, ad, INV, CE, n0, kc, ks⟩ := X
  obtain ⟨hx, hby, -⟩ := K
  intro T locs A Y N I LO
  obtain ⟨s₂, h1, h2⟩ := h T locs A Y N I LO
  exact ⟨s₂, XT.pop Y.here hx rfl (hb hby hd) rfl ((up_cat _ _).trans hc) h1, h2⟩
theorem g_dup (K : Ctx X Z own nm code ml ret) {v : Value} (hd : decode code pc = .ok (.dup, 1)) (hc : v.category = 1) (h : Go X r (pc + 1) L (v :: v :: st) x) : Go X r pc L (v :: st) x := by
  obtain ⟨p, l, e, R, s, m, args, below, meth, c, ad, INV, CE, n0, kc, ks⟩ := X
  obtain ⟨hx, hby, -⟩ := K
  intro T locs A Y N I LO
  obtain ⟨s₂, h1, h2⟩ := h T locs A Y N I LO
  exact ⟨s₂, XS.dup Y.here hx rfl (hb hby hd) rfl ((up_cat _ _).trans hc) h1, h2⟩
theorem g_dup2 (K : Ctx X Z own nm code ml ret) {v w : Value} (hd : decode code pc = .ok (.dup2, 1)) (hc : v.category = 1) (hc' : w.category = 1) (h : Go X r (pc + 1) L (v :: w :: v :: w :: st) x) : Go X r pc L (v :: w :: st) x := by
  obtain ⟨p, l, e, R, s, m, args, below, meth, c, ad, INV, CE, n0, kc, ks⟩ := X
  obtain ⟨hx, hby, -⟩ := K
  intro T locs A Y N I LO
  obtain ⟨s₂, h1, h2⟩ := h T locs A Y N I LO
  exact ⟨s₂, XT.dup2 Y.here hx rfl (hb hby hd) rfl ((up_cat _ _).trans hc) ((up_cat _ _).trans hc') h1, h2⟩
theorem g_istoreN (K : Ctx X Z own nm code ml ret) {k : Fin 4} {v : Int32} (hd : decode code pc = .ok (.istore_n k, 1)) (hk : k.val < L.length) (hL : st1 L k.val (.int v) = L') (h : Go X r (pc + 1) L' (st) x) : Go X r pc L (.int v :: st) x := by
  obtain ⟨p, l, e, R, s, m, args, below, meth, c, ad, INV, CE, n0, kc, ks⟩ := X
  obtain ⟨hx, hby, -⟩ := K
  intro T locs A Y N I LO
  subst hL
  obtain ⟨A₁, hA₁, LO₁⟩ := loc_st1 LO hk (v := .int v) rfl
  obtain ⟨s₂, h1, h2⟩ := h T locs A₁ Y N I LO₁
  exact ⟨s₂, XS.istoreN Y.here hx rfl (hb hby hd) rfl hA₁ h1, h2⟩
theorem g_istore (K : Ctx X Z own nm code ml ret) {k : Nat} {v : Int32} (hd : decode code pc = .ok (.istore k, 2)) (hk : k < L.length) (hL : st1 L k (.int v) = L') (h : Go X r (pc + 2) L' (st) x) : Go X r pc L (.int v :: st) x := by
  obtain ⟨p, l, e, R, s, m, args, below, meth, c, ad, INV, CE, n0, kc, ks⟩ := X
  obtain ⟨hx, hby, -⟩ := K
  intro T locs A Y N I LO
  subst hL
  obtain ⟨A₁, hA₁, LO₁⟩ := loc_st1 LO hk (v := .int v) rfl
  obtain ⟨s₂, h1, h2⟩ := h T locs A₁ Y N I LO₁
  exact ⟨s₂, XS.istore Y.here hx rfl (hb hby hd) rfl hA₁ h1, h2⟩
theorem g_astoreN (K : Ctx X Z own nm code ml ret) {k : Fin 4} {v : Nat} (hd : decode code pc = .ok (.astore_n k, 1)) (hk : k.val < L.length) (hL : st1 L k.val (.ref v) = L') (h : Go X r (pc + 1) L' (st) x) : Go X r pc L (.ref v :: st) x := by
  obtain ⟨p, l, e, R, s, m, args, below, meth, c, ad, INV, CE, n0, kc, ks⟩ := X
  obtain ⟨hx, hby, -⟩ := K
  intro T locs A Y N I LO
  subst hL
  obtain ⟨A₁, hA₁, LO₁⟩ := loc_st1 LO hk (v := .ref v) rfl
  obtain ⟨s₂, h1, h2⟩ := h T locs A₁ Y N I LO₁
  exact ⟨s₂, XS.astoreN Y.here hx rfl (hb hby hd) rfl rfl hA₁ h1, h2⟩
theorem g_astore (K : Ctx X Z own nm code ml ret) {k : Nat} {v : Nat} (hd : decode code pc = .ok (.astore k, 2)) (hk : k < L.length) (hL : st1 L k (.ref v) = L') (h : Go X r (pc + 2) L' (st) x) : Go X r pc L (.ref v :: st) x := by
  obtain ⟨p, l, e, R, s, m, args, below, meth, c, ad, INV, CE, n0, kc, ks⟩ := X
  obtain ⟨hx, hby, -⟩ := K
  intro T locs A Y N I LO
  subst hL
  obtain ⟨A₁, hA₁, LO₁⟩ := loc_st1 LO hk (v := .ref v) rfl
  obtain ⟨s₂, h1, h2⟩ := h T locs A₁ Y N I LO₁
  exact ⟨s₂, XS.astore Y.here hx rfl (hb hby hd) rfl rfl hA₁ h1, h2⟩
theorem g_lstoreN (K : Ctx X Z own nm code ml ret) {k : Fin 4} {v : Int64} (hd : decode code pc = .ok (.lstore_n k, 1)) (hk : k.val + 1 < L.length) (hL : st2 L k.val (.long v) = L') (h : Go X r (pc + 1) L' (st) x) : Go X r pc L (.long v :: st) x := by
  obtain ⟨p, l, e, R, s, m, args, below, meth, c, ad, INV, CE, n0, kc, ks⟩ := X
  obtain ⟨hx, hby, -⟩ := K
  intro T locs A Y N I LO
  subst hL
  obtain ⟨A₁, hA₁, LO₁⟩ := loc_st2 LO hk (v := .long v) rfl
  obtain ⟨s₂, h1, h2⟩ := h T locs A₁ Y N I LO₁
  exact ⟨s₂, XT.lstoreN Y.here hx rfl (hb hby hd) rfl hA₁ h1, h2⟩
theorem g_lstore (K : Ctx X Z own nm code ml ret) {k : Nat} {v : Int64} (hd : decode code pc = .ok (.lstore k, 2)) (hk : k + 1 < L.length) (hL : st2 L k (.long v) = L') (h : Go X r (pc + 2) L' (st) x) : Go X r pc L (.long v :: st) x := by
  obtain ⟨p, l, e, R, s, m, args, below, meth, c, ad, INV, CE, n0, kc, ks⟩ := X
  obtain ⟨hx, hby, -⟩ := K
  intro T locs A Y N I LO
  subst hL
  obtain ⟨A₁, hA₁, LO₁⟩ := loc_st2 LO hk (v := .long v) rfl
  obtain ⟨s₂, h1, h2⟩ := h T locs A₁ Y N I LO₁
  exact ⟨s₂, XT.lstore Y.here hx rfl (hb hby hd) rfl hA₁ h1, h2⟩
theorem g_iinc (K : Ctx X Z own nm code ml ret) {k : Nat} {i : Int} {v w : Int32} (hd : decode code pc = .ok (.iinc k i, 3)) (hl : L[k]? = some (some (.int v))) (hv : Int32.ofInt i = w) (hL : st1 L k (.int (v + w)) = L') (h : Go X r (pc + 3) L' (st) x) : Go X r pc L (st) x := by
  obtain ⟨p, l, e, R, s, m, args, below, meth, c, ad, INV, CE, n0, kc, ks⟩ := X
  obtain ⟨hx, hby, -⟩ := K
  intro T locs A Y N I LO
  subst hL
  subst hv
  obtain ⟨A₁, hA₁, LO₁⟩ := loc_st1 LO (List.getElem?_eq_some_iff.mp hl).1 (v := .int (v + Int32.ofInt i)) rfl
  obtain ⟨s₂, h1, h2⟩ := h T locs A₁ Y N I LO₁
  exact ⟨s₂, XS.iinc Y.here hx rfl (hb hby hd) (LO.2.2 _ _ hl) hA₁ h1, h2⟩
theorem g_goto (K : Ctx X Z own nm code ml ret) {o : Int} {pc' : Nat} (hd : decode code pc = .ok (.goto o, 3)) (hp : (pc : Int) + o = (pc' : Nat)) (h : Go X r (pc') L (st) x) : Go X r pc L (st) x := by
  obtain ⟨p, l, e, R, s, m, args, below, meth, c, ad, INV, CE, n0, kc, ks⟩ := X
  obtain ⟨hx, hby, -⟩ := K
  intro T locs A Y N I LO
  have ho : 0 ≤ (pc : Int) + o := by omega
  have hq : ((pc : Int) + o).toNat = pc' := by omega
  have LO₁ := LO
  have ⟨A₁, hA₁⟩ : ∃ A₁, A₁ = A := ⟨_, rfl⟩
  subst hA₁
  obtain ⟨s₂, h1, h2⟩ := h T locs A₁ Y N I LO₁
  exact ⟨s₂, XS.goto Y.here hx rfl rfl (hb hby hd) ho hq h1, h2⟩
theorem g_ifT (K : Ctx X Z own nm code ml ret) {cd : ClassFile.Cond} {v : Int32} {o : Int} {pc' : Nat} (hd : decode code pc = .ok (.ifCond cd o, 3)) (hp : (pc : Int) + o = (pc' : Nat)) (hc : ifCond.holds cd v = true) (h : Go X r (pc') L (st) x) : Go X r pc L (.int v :: st) x := by
  obtain ⟨p, l, e, R, s, m, args, below, meth, c, ad, INV, CE, n0, kc, ks⟩ := X
  obtain ⟨hx, hby, -⟩ := K
  intro T locs A Y N I LO
  have ho : 0 ≤ (pc : Int) + o := by omega
  have hq : ((pc : Int) + o).toNat = pc' := by omega
  have LO₁ := LO
  have ⟨A₁, hA₁⟩ : ∃ A₁, A₁ = A := ⟨_, rfl⟩
  subst hA₁
  obtain ⟨s₂, h1, h2⟩ := h T locs A₁ Y N I LO₁
  exact ⟨s₂, XS.ifYes Y.here hx rfl rfl (hb hby hd) rfl hc ho hq h1, h2⟩
theorem g_ifF (K : Ctx X Z own nm code ml ret) {cd : ClassFile.Cond} {v : Int32} {o : Int} (hd : decode code pc = .ok (.ifCond cd o, 3)) (hc : ifCond.holds cd v = false) (h : Go X r (pc + 3) L (st) x) : Go X r pc L (.int v :: st) x := by
  obtain ⟨p, l, e, R, s, m, args, below, meth, c, ad, INV, CE, n0, kc, ks⟩ := X
  obtain ⟨hx, hby, -⟩ := K
  intro T locs A Y N I LO
  obtain ⟨s₂, h1, h2⟩ := h T locs A Y N I LO
  exact ⟨s₂, XS.ifNo Y.here hx rfl (hb hby hd) rfl hc h1, h2⟩
theorem g_icT (K : Ctx X Z own nm code ml ret) {cd : ClassFile.Cond} {v w : Int32} {o : Int} {pc' : Nat} (hd : decode code pc = .ok (.if_icmp cd o, 3)) (hp : (pc : Int) + o = (pc' : Nat)) (hc : if_icmp.holds cd v w = true) (h : Go X r (pc') L (st) x) : Go X r pc L (.int w :: .int v :: st) x := by
  obtain ⟨p, l, e, R, s, m, args, below, meth, c, ad, INV, CE, n0, kc, ks⟩ := X
  obtain ⟨hx, hby, -⟩ := K
  intro T locs A Y N I LO
  have ho : 0 ≤ (pc : Int) + o := by omega
  have hq : ((pc : Int) + o).toNat = pc' := by omega
  have LO₁ := LO
  have ⟨A₁, hA₁⟩ : ∃ A₁, A₁ = A := ⟨_, rfl⟩
  subst hA₁
  obtain ⟨s₂, h1, h2⟩ := h T locs A₁ Y N I LO₁
  exact ⟨s₂, XS.icmpYes Y.here hx rfl rfl (hb hby hd) rfl hc ho hq h1, h2⟩
theorem g_icF (K : Ctx X Z own nm code ml ret) {cd : ClassFile.Cond} {v w : Int32} {o : Int} (hd : decode code pc = .ok (.if_icmp cd o, 3)) (hc : if_icmp.holds cd v w = false) (h : Go X r (pc + 3) L (st) x) : Go X r pc L (.int w :: .int v :: st) x := by
  obtain ⟨p, l, e, R, s, m, args, below, meth, c, ad, INV, CE, n0, kc, ks⟩ := X
  obtain ⟨hx, hby, -⟩ := K
  intro T locs A Y N I LO
  obtain ⟨s₂, h1, h2⟩ := h T locs A Y N I LO
  exact ⟨s₂, XS.icmpNo Y.here hx rfl (hb hby hd) rfl hc h1, h2⟩
theorem g_tswIn (K : Ctx X Z own nm code ml ret) {df lo hi : Int} {offs : Array Int} {len : Nat} {v : Int32} {o : Int} {pc' : Nat} (hd : decode code pc = .ok (.tableswitch df lo hi offs, len)) (hi' : ¬ (v.toInt < lo ∨ v.toInt > hi)) (hoff : offs[(v.toInt - lo).toNat]? = some o) (hp : (pc : Int) + o = (pc' : Nat)) (h : Go X r (pc') L (st) x) : Go X r pc L (.int v :: st) x := by
  obtain ⟨p, l, e, R, s, m, args, below, meth, c, ad, INV, CE, n0, kc, ks⟩ := X
  obtain ⟨hx, hby, -⟩ := K
  intro T locs A Y N I LO
  have ho : 0 ≤ (pc : Int) + o := by omega
  have hq : ((pc : Int) + o).toNat = pc' := by omega
  have LO₁ := LO
  have ⟨A₁, hA₁⟩ : ∃ A₁, A₁ = A := ⟨_, rfl⟩
  subst hA₁
  obtain ⟨s₂, h1, h2⟩ := h T locs A₁ Y N I LO₁
  exact ⟨s₂, XS.tswIn Y.here hx rfl rfl (hb hby hd) rfl hi' hoff ho hq h1, h2⟩
theorem g_tswOut (K : Ctx X Z own nm code ml ret) {df lo hi : Int} {offs : Array Int} {len : Nat} {v : Int32} {pc' : Nat} (hd : decode code pc = .ok (.tableswitch df lo hi offs, len)) (hi' : v.toInt < lo ∨ v.toInt > hi) (hp : (pc : Int) + df = (pc' : Nat)) (h : Go X r (pc') L (st) x) : Go X r pc L (.int v :: st) x := by
  obtain ⟨p, l, e, R, s, m, args, below, meth, c, ad, INV, CE, n0, kc, ks⟩ := X
  obtain ⟨hx, hby, -⟩ := K
  intro T locs A Y N I LO
  have ho : 0 ≤ (pc : Int) + df := by omega
  have hq : ((pc : Int) + df).toNat = pc' := by omega
  have LO₁ := LO
  have ⟨A₁, hA₁⟩ : ∃ A₁, A₁ = A := ⟨_, rfl⟩
  subst hA₁
  obtain ⟨s₂, h1, h2⟩ := h T locs A₁ Y N I LO₁
  exact ⟨s₂, XS.tswOut Y.here hx rfl rfl (hb hby hd) rfl hi' ho hq h1, h2⟩
end Rules
section Rules2
variable {S : Type} {X : Cx S} {Z : State} {own nm : String} {code : ByteArray} {ml : Nat} {ret : Option FieldType} {r : Option Value × S} {pc : Nat} {L L' : List (Option Value)} {st : List Value} {x : S}
theorem g_less (h : Go X r pc L' st x) (q : lessB L' L) : Go X r pc L st x := by
  obtain ⟨p, l, e, R, s, m, args, below, meth, c, ad, INV, CE, n0, kc, ks⟩ := X
  intro T locs A Y N I LO
  exact h T locs A Y N I (LO.less q.less)
theorem retI {p : Program} {l : Launch} {e : Env} {R : Room} {s : State} {m : MethodId} {args : Array Value} {below : List Frame} {meth : Method} {c : Code} {T : State} {locs : List Loc} {cells slots : Nat}
    (X : Stand p l e R s m args below meth c T locs cells slots) (hx : p.tables.exec = Jvm.exec) {pc : Nat} {Ls : Array Slot} {z : Int32} {rest : List Value} (hret : meth.sig.returnType = some .int) (hd : decode c.code pc = .ok (.ireturn, 1)) {fs : List Frame}
    (hl : ∀ (f : JFrame) (acts : List Action), f.method = m → f.locked = none → f.entered = [] → (doReturn e (T.setTop f) acts (some (.int z))).1 = T.setFrames fs) : Steps p.tables e below (T.setTop (mkF m pc Ls (.int z :: rest))) (T.setFrames fs) := by
  have hm' : T.vm.method? m = some meth := X.method'
  have hn : narrow .int (.int z) = .int z := rfl
  show Steps p.tables e below (T.setTop { method := m, pc := pc, locals := Ls, stack := _ :: rest, locked := none }) _
  jvm_step X.here [X.here.top, hx, hd, hm', hret, hn]
  first | (intro acts; rw [hl _ acts rfl rfl rfl]) | rw [hl _ _ rfl rfl rfl]
  exact Steps.refl _
/-- the figures of the frame -/
def Cap (X : Cx S) (x : S) : Prop :=
  match X with
  | (p, l, e, R, s, m, args, below, meth, c, ad, INV, CE, n0, kc, ks) => (CE x).1 ≤ kc ∧ (CE x).2 ≤ ks
theorem g_ireturn (K : Ctx X Z own nm code ml (some .int)) {v : Int32} (hd : decode code pc = .ok (.ireturn, 1)) (hk : Cap X x) : Go X (some (.int v), x) pc L (.int v :: st) x := by
  obtain ⟨p, l, e, R, s, m, args, below, meth, c, ad, INV, CE, n0, kc, ks⟩ := X
  obtain ⟨hx, hby, -, -, -, hret, hlk, -⟩ := K
  intro T locs A Y N I LO
  obtain ⟨fs, hr, hrun, hended, hW, hsame⟩ := Y.leave (v := some (.int v)) (fun h => by rw [hret] at h; cases h) hlk
  exact ⟨_, retI Y hx hret (hb hby hd) hr, hrun, hended, I, locs, N, hW, hsame.mono hk.1 hk.2⟩
theorem g_ireturnN (K : Ctx X Z own nm code ml ret) {v w : Int32} {t : FieldType} (hret' : ret = some t) (ht : t = .boolean ∨ t = .byte ∨ t = .char ∨ t = .short) (hd : decode code pc = .ok (.ireturn, 1)) (hw : nar t v = w) (hk : Cap X x) : Go X (some (.int w), x) pc L (.int v :: st) x := by
  obtain ⟨p, l, e, R, s, m, args, below, meth, c, ad, INV, CE, n0, kc, ks⟩ := X
  subst hret'
  subst hw
  obtain ⟨hx, hby, -, -, -, hret, hlk, -⟩ := K
  intro T locs A Y N I LO
  obtain ⟨fs, hr, hrun, hended, hW, hsame⟩ := Y.leave (v := some (.int (nar t v))) (fun h => by rw [hret] at h; cases h) hlk
  exact ⟨_, retN Y hx hret ht (hb hby hd) hr, hrun, hended, I, locs, N, hW, hsame.mono hk.1 hk.2⟩
theorem g_lreturn (K : Ctx X Z own nm code ml (some .long)) {v : Int64} (hd : decode code pc = .ok (.lreturn, 1)) (hk : Cap X x) : Go X (some (.long v), x) pc L [.long v] x := by
  obtain ⟨p, l, e, R, s, m, args, below, meth, c, ad, INV, CE, n0, kc, ks⟩ := X
  obtain ⟨hx, hby, -, -, -, hret, hlk, -⟩ := K
  intro T locs A Y N I LO
  obtain ⟨fs, hr, hrun, hended, hW, hsame⟩ := Y.leave (v := some (.long v)) (fun h => by rw [hret] at h; cases h) hlk
  exact ⟨_, Y.lreturnOut hx hret (hb hby hd) hr, hrun, hended, I, locs, N, hW, hsame.mono hk.1 hk.2⟩
theorem g_return (K : Ctx X Z own nm code ml none) (hd : decode code pc = .ok (.return_, 1)) (hk : Cap X x) : Go X (none, x) pc L [] x := by
  obtain ⟨p, l, e, R, s, m, args, below, meth, c, ad, INV, CE, n0, kc, ks⟩ := X
  obtain ⟨hx, hby, -, -, -, hret, hlk, -⟩ := K
  intro T locs A Y N I LO
  obtain ⟨fs, hr, hrun, hended, hW, hsame⟩ := Y.leave (v := none) (fun _ => rfl) hlk
  exact ⟨_, Y.returnOut hx hret (hb hby hd) hr, hrun, hended, I, locs, N, hW, hsame.mono hk.1 hk.2⟩
theorem g_ldc {a0 : Array Value} (K : Ctx X Z own nm code ml ret) {idx : Nat} {v : Int32} (hd : decode code pc = .ok (.ldc idx, 2)) (w : (Cond.constant own idx v).before a0 Z = true) (h : Go X r (pc + 2) L (.int v :: st) x) : Go X r pc L st x := by
  obtain ⟨p, l, e, R, s, m, args, below, meth, c, ad, INV, CE, n0, kc, ks⟩ := X
  obtain ⟨hx, hby, -, hown, hZ, -⟩ := K
  intro T locs A Y N I LO
  obtain ⟨s₂, h1, h2⟩ := h T locs A Y N I LO
  exact ⟨s₂, Y.ldcI hx hown (mv hZ w) rfl (hb hby hd) h1, h2⟩
theorem g_ldcw {a0 : Array Value} (K : Ctx X Z own nm code ml ret) {idx : Nat} {v : Int32} (hd : decode code pc = .ok (.ldc_w idx, 3)) (w : (Cond.constant own idx v).before a0 Z = true) (h : Go X r (pc + 3) L (.int v :: st) x) : Go X r pc L st x := by
  obtain ⟨p, l, e, R, s, m, args, below, meth, c, ad, INV, CE, n0, kc, ks⟩ := X
  obtain ⟨hx, hby, -, hown, hZ, -⟩ := K
  intro T locs A Y N I LO
  obtain ⟨s₂, h1, h2⟩ := h T locs A Y N I LO
  exact ⟨s₂, Y.ldcWI hx hown (mv hZ w) rfl (hb hby hd) h1, h2⟩
theorem g_ldc2 {a0 : Array Value} (K : Ctx X Z own nm code ml ret) {idx : Nat} {v : Int64} (hd : decode code pc = .ok (.ldc2_w idx, 3)) (w : (Cond.constantLong own idx v).before a0 Z = true) (h : Go X r (pc + 3) L (.long v :: st) x) : Go X r pc L st x := by
  obtain ⟨p, l, e, R, s, m, args, below, meth, c, ad, INV, CE, n0, kc, ks⟩ := X
  obtain ⟨hx, hby, -, hown, hZ, -⟩ := K
  intro T locs A Y N I LO
  obtain ⟨s₂, h1, h2⟩ := h T locs A Y N I LO
  exact ⟨s₂, Y.ldc2J hx hown (mv hZ w) rfl (hb hby hd) h1, h2⟩
end Rules2
/-! ## 4. one object: what stands in the heap -/
abbrev FSpec : Type := Nat × String × String × Nat
abbrev ASpec : Type := Nat × FieldType × Nat
def fval (a : Nat) (j : Nat) (σ : St) (f : FSpec) : Value :=
  match f.2.2.2 with
  | 0 => .int (gI σ f.1)
  | 1 => .long (gL σ f.1)
  | _ => if f.1 ≤ j then .ref (a + f.1) else .null
def ArI (Z : State) (h : Heap) (b : Nat) (ty : FieldType) (n : Nat) (g : Int → Int32) : Prop := ∃ c : Cell, Arr Z h b c ty ∧ c.slots.size = n ∧ ∀ i : Nat, i < n → c.slots[i]? = some (.int (g (i : Int)))
def Rep (Z : State) (C : String) (FS : List FSpec) (FA : List ASpec) (a : Nat) (j : Nat) (h : Heap) (σ : St) : Prop :=
  Exa Z h a C ∧ (∀ f ∈ FS, Fld Z h a C f.2.1 f.2.2.1 (fval a j σ f)) ∧ ∀ q ∈ FA, q.1 ≤ j → ArI Z h (a + q.1) q.2.1 q.2.2 (gA σ q.1)
def LayW (Z : State) (a0 : Array Value) (C : String) (FS : List FSpec) (kk : Nat) : Prop := (∀ f ∈ FS, Laid Z a0 C C f.2.1 f.2.2.1) ∧ (Cond.instantiable C kk).before a0 Z = true ∧ (Cond.initialized C).before a0 Z = true
/-- the layout is sound: names and numbers unlike, descriptors read, arrays numbered from 1 -/
def layGood (FS : List FSpec) (FA : List ASpec) (nA : Nat) : Bool :=
  decide ((FS.map fun f => f.2.1).Nodup) && decide ((FS.map fun f => f.1).Nodup) && decide ((FA.map fun q => q.1).Nodup) &&
  FS.all (fun f => decide ((parseFieldDescriptor f.2.2.1).map defaultValue = some (fval 0 0 z0 f)) && (f.2.2.2 != 2 || decide (1 ≤ f.1))) &&
  FA.all (fun q => decide (1 ≤ q.1) && decide (q.1 ≤ nA) && decide (q.2.2 < 2 ^ 31))
theorem nodup_key {α β : Type} {f : α → β} : ∀ {l : List α}, (l.map f).Nodup → ∀ {x y : α}, x ∈ l → y ∈ l → f x = f y → x = y
  | [], _, _, _, hx, _, _ => nomatch hx
  | a :: l, h, x, y, hx, hy, e => by
    rw [List.map_cons, List.nodup_cons] at h
    rcases List.mem_cons.mp hx with rfl | hx' <;> rcases List.mem_cons.mp hy with rfl | hy'
    · rfl
    · exact absurd (List.mem_map.mpr ⟨y, hy', e.symm⟩) h.1
    · exact absurd (List.mem_map.mpr ⟨x, hx', e⟩) h.1
    · exact nodup_key h.2 hx' hy' e
section One
variable {Z : State} {a0 : Array Value} {C : String} {FS : List FSpec} {FA : List ASpec} {a : Nat} {j kk nA : Nat} {h h' : Heap} {σ : St}
theorem lay_names (G : layGood FS FA nA = true) {f g : FSpec} (hf : f ∈ FS) (hg : g ∈ FS) (e : f.2.1 = g.2.1) : f = g := by
  simp only [layGood, Bool.and_eq_true, decide_eq_true_eq] at G
  exact nodup_key G.1.1.1.1 hf hg e
theorem lay_keys (G : layGood FS FA nA = true) {f g : FSpec} (hf : f ∈ FS) (hg : g ∈ FS) (e : f.1 = g.1) : f = g := by
  simp only [layGood, Bool.and_eq_true, decide_eq_true_eq] at G
  exact nodup_key G.1.1.1.2 hf hg e
theorem lay_arr (G : layGood FS FA nA = true) {f g : ASpec} (hf : f ∈ FA) (hg : g ∈ FA) (e : f.1 = g.1) : f = g := by
  simp only [layGood, Bool.and_eq_true, decide_eq_true_eq] at G
  exact nodup_key G.1.1.2 hf hg e
theorem lay_desc (G : layGood FS FA nA = true) {f : FSpec} (hf : f ∈ FS) : ∃ t, parseFieldDescriptor f.2.2.1 = some t ∧ defaultValue t = fval 0 0 z0 f := by
  simp only [layGood, Bool.and_eq_true, decide_eq_true_eq] at G
  have q := List.all_eq_true.mp G.1.2 f hf
  simp only [Bool.and_eq_true, decide_eq_true_eq, Option.map_eq_some_iff] at q
  exact q.1
theorem lay_one (G : layGood FS FA nA = true) {f : FSpec} (hf : f ∈ FS) (hk : f.2.2.2 = 2) : 1 ≤ f.1 := by
  simp only [layGood, Bool.and_eq_true, decide_eq_true_eq] at G
  have q := List.all_eq_true.mp G.1.2 f hf
  simp only [Bool.and_eq_true, Bool.or_eq_true, bne_iff_ne, ne_eq, decide_eq_true_eq] at q
  exact q.2.resolve_left (fun z => z hk)
theorem lay_pos (G : layGood FS FA nA = true) {q : ASpec} (hq : q ∈ FA) : 1 ≤ q.1 ∧ q.1 ≤ nA ∧ q.2.2 < 2 ^ 31 := by
  simp only [layGood, Bool.and_eq_true, decide_eq_true_eq] at G
  have := List.all_eq_true.mp G.2 q hq
  simp only [Bool.and_eq_true, decide_eq_true_eq] at this
  exact ⟨this.1.1, this.1.2, this.2⟩
theorem ArI.other {b : Nat} {ty : FieldType} {n sl : Nat} {v : Value} {g : Int → Int32} {x : Nat} (F : ArI Z h b ty n g) (W : Wr h h' x sl v) (q : b ≠ x) : ArI Z h' b ty n g := by
  obtain ⟨c, A, r⟩ := F; exact ⟨c, A.other W q, r⟩
theorem ArI.keep {b : Nat} {ty : FieldType} {n : Nat} {g : Int → Int32} {ws : List Addr} (F : ArI Z h b ty n g) (K : Keep h h' ws) (q : b ∉ ws) : ArI Z h' b ty n g := by
  obtain ⟨c, A, r⟩ := F; exact ⟨c, ⟨K.2.1 b c A.1 q, A.2⟩, r⟩
theorem ArI.ext {b : Nat} {ty : FieldType} {n : Nat} {g : Int → Int32} (F : ArI Z h b ty n g) (E : Ext h h') : ArI Z h' b ty n g := by
  obtain ⟨c, A, r⟩ := F; exact ⟨c, A.ext E, r⟩
/-- a field is written -/
theorem Rep.put (G : layGood FS FA nA = true) (hL : LayW Z a0 C FS kk) (Rp : Rep Z C FS FA a j h σ) {f : FSpec} (hf : f ∈ FS) {v : Value} (W : Wr h h' a (RoadKit.slotOf Z C f.2.1 f.2.2.1) v) {j' : Nat} {σ' : St}
    (hv : fval a j' σ' f = v) (ho : ∀ g ∈ FS, g ≠ f → fval a j' σ' g = fval a j σ g) (hA : ∀ q ∈ FA, q.1 ≤ j' → ArI Z h (a + q.1) q.2.1 q.2.2 (gA σ' q.1)) : Rep Z C FS FA a j' h' σ' := by
  obtain ⟨r1, r2, r3⟩ := Rp
  refine ⟨r1.wr W, fun g hg => ?_, fun q hq hqj => (hA q hq hqj).other W (by have := (lay_pos G hq).1; omega)⟩
  by_cases e : g = f
  · subst e; rw [hv]; exact (r2 g hg).same W
  · rw [ho g hg e]
    obtain ⟨t, ht, -⟩ := lay_desc G hg
    obtain ⟨t', ht', -⟩ := lay_desc G hf
    exact (r2 g hg).other W (Or.inr (slot_ne (hL.1 g hg) (hL.1 f hf) (fun z => e (lay_names G hg hf z)) ht ht'))
theorem Rep.putI (G : layGood FS FA nA = true) (hL : LayW Z a0 C FS kk) (Rp : Rep Z C FS FA a j h σ) {k : Nat} {n d : String} (hf : (k, n, d, 0) ∈ FS) {v : Int32} (W : Wr h h' a (RoadKit.slotOf Z C n d) (.int v)) : Rep Z C FS FA a j h' (sI σ k v) := by
  refine Rp.put G hL hf W (by simp [fval, gI_sI]) (fun g hg ne => ?_) Rp.2.2
  have hk : g.1 ≠ k := fun z => ne (lay_keys G hg hf z)
  unfold fval
  split <;> simp [gI_sI, gL_sI, hk]
theorem Rep.putL (G : layGood FS FA nA = true) (hL : LayW Z a0 C FS kk) (Rp : Rep Z C FS FA a j h σ) {k : Nat} {n d : String} (hf : (k, n, d, 1) ∈ FS) {v : Int64} (W : Wr h h' a (RoadKit.slotOf Z C n d) (.long v)) : Rep Z C FS FA a j h' (sL σ k v) := by
  refine Rp.put G hL hf W (by simp [fval, gL_sL]) (fun g hg ne => ?_) Rp.2.2
  have hk : g.1 ≠ k := fun z => ne (lay_keys G hg hf z)
  unfold fval
  split <;> simp [gI_sL, gL_sL, hk]
/-- an array's component is written -/
theorem Rep.set (G : layGood FS FA nA = true) (Rp : Rep Z C FS FA a j h σ) {k : Nat} {ty : FieldType} {n : Nat} (hq : (k, ty, n) ∈ FA) (hk : k ≤ j) {i : Int32} (h0 : 0 ≤ i.toInt) (h1 : i.toInt < n) {v : Int32} (W : Wr h h' (a + k) i.toNatClampNeg (.int v)) : Rep Z C FS FA a j h' (sA σ k i.toInt v) := by
  obtain ⟨r1, r2, r3⟩ := Rp
  have hp := (lay_pos G hq).1
  refine ⟨r1.wr W, fun g hg => ?_, fun q hq' hqj => ?_⟩
  · have e : fval a j (sA σ k i.toInt v) g = fval a j σ g := by unfold fval; split <;> simp [gI_sA, gL_sA]
    rw [e]; exact (r2 g hg).other W (Or.inl (Nat.ne_of_lt (Nat.lt_add_of_pos_right hp)))
  · by_cases e : q.1 = k
    · have := lay_arr G hq' hq e
      subst this
      obtain ⟨c, A, s1, s2⟩ := r3 _ hq' hqj
      refine ⟨_, A.same W, by rw [sz_set]; exact s1, fun x hx => ?_⟩
      simp only [gA_sA, true_and]
      have hi : (i.toNatClampNeg : Int) = i.toInt := by simp only [Int32.toNatClampNeg]; omega
      by_cases u : (x : Int) = i.toInt
      · have : i.toNatClampNeg = x := by omega
        subst this
        simp only [hi, if_true]
        simp [Cell.setSlot, s1, hx]
      · have : i.toNatClampNeg ≠ x := by omega
        simp only [u, if_false]
        simp only [Cell.setSlot]
        rw [Array.getElem?_setIfInBounds_ne this]; exact s2 x hx
    · have eq : gA (sA σ k i.toInt v) q.1 = gA σ q.1 := by funext y; simp [gA_sA, e]
      rw [eq]; exact (r3 q hq' hqj).other W (by omega)
theorem Rep.keep (Rp : Rep Z C FS FA a j h σ) {ws : List Addr} (K : Keep h h' ws) (q : ∀ k, a + k ∉ ws) : Rep Z C FS FA a j h' σ := by
  obtain ⟨r1, r2, r3⟩ := Rp
  exact ⟨r1.keep K, fun f hf => (r2 f hf).keep K (q 0), fun x hx hj => (r3 x hx hj).keep K (q _)⟩
theorem Rep.ext (Rp : Rep Z C FS FA a j h σ) (E : Ext h h') : Rep Z C FS FA a j h' σ := by
  obtain ⟨r1, r2, r3⟩ := Rp
  exact ⟨r1.ext E, fun f hf => (r2 f hf).ext E, fun x hx hj => (r3 x hx hj).ext E⟩
theorem Rep.keep' (G : layGood FS FA nA = true) (Rp : Rep Z C FS FA a j h σ) {ws : List Addr} (K : Keep h h' ws) (q : ∀ k, k ≤ nA → a + k ∉ ws) : Rep Z C FS FA a j h' σ := by
  obtain ⟨r1, r2, r3⟩ := Rp
  exact ⟨r1.keep K, fun f hf => (r2 f hf).keep K (q 0 (Nat.zero_le _)), fun x hx hj => (r3 x hx hj).keep K (q _ (lay_pos G hx).2.1)⟩
end One
/-! ## 5. the rules of a method's body that works on its own object ('this' is reference 0, its arrays 1, 2 ..) -/
def wsOf (a : Nat) (nA : Nat) : List Addr := (List.range (nA + 1)).map fun k => a + k
theorem mem_ws {a : Nat} {nA k : Nat} (h : k ≤ nA) : a + k ∈ wsOf a nA := List.mem_map.mpr ⟨k, List.mem_range.mpr (by omega), rfl⟩
theorem of_ws {a x : Nat} {nA : Nat} (h : x ∈ wsOf a nA) : a ≤ x ∧ x ≤ a + nA := by
  obtain ⟨k, hk, rfl⟩ := List.mem_map.mp h
  have := List.mem_range.mp hk; omega
def INVc (Z : State) (C : String) (FS : List FSpec) (FA : List ASpec) (nA : Nat) (a : Nat) (h0 : Heap) (ce : Nat → Nat × Nat) : St × Nat → Heap → Prop := fun x h => Rep Z C FS FA a x.2 h x.1 ∧ Keep h0 h (wsOf a nA) ∧ h.size = h0.size + (ce x.2).1
def CtxC (X : Cx (St × Nat)) (Z : State) (a0 : Array Value) (C : String) (FS : List FSpec) (FA : List ASpec) (nA kk : Nat) (l0 : Launch) (n1 : Nat) (a : Nat) (h0 : Heap) (ce : Nat → Nat × Nat) (rm : Room) (nm : String) (code : ByteArray) (ml : Nat) (ret : Option FieldType) : Prop :=
  Ctx X Z C nm code ml ret ∧ LayW Z a0 C FS kk ∧ layGood FS FA nA = true ∧
  match X with
  | (p, l, e, R, s, m, args, below, meth, c, ad, INV, CE, n0, kc, ks) => ad = (fun k => a + k) ∧ INV = INVc Z C FS FA nA a h0 ce ∧ CE = (fun x => ce x.2) ∧ n0 = n1 ∧ n1 ≤ a ∧ l = l0 ∧ R = rm ∧ kc = rm.cells ∧ ks = rm.slots ∧ ce nA = (rm.cells, rm.slots) ∧ s.heap = h0
theorem fits_int (v : Int32) : fits .int (.int v) = true := rfl
theorem fits_bool (v : Int32) : fits .boolean (.int (nar .boolean v)) = true := by
  simp only [fits, nar, Bool.or_eq_true, beq_iff_eq]
  have h := c_mask v 1 1 (by decide) (by decide)
  have h2 : v.toInt % 2 = 0 ∨ v.toInt % 2 = 1 := by omega
  rcases h2 with q | q
  · left; apply Int32.toInt_inj.mp; rw [h]; simpa using q
  · right; apply Int32.toInt_inj.mp; rw [h]; simpa using q
section RulesC
variable {X : Cx (St × Nat)} {Z : State} {a0 : Array Value} {C : String} {FS : List FSpec} {FA : List ASpec} {nA kk : Nat} {l0 : Launch} {n1 : Nat} {a : Nat} {h0 : Heap} {ce : Nat → Nat × Nat} {rm : Room} {nm : String} {code : ByteArray} {ml : Nat} {ret : Option FieldType} {r : Option Value × (St × Nat)} {pc : Nat} {L : List (Option Value)} {st : List Value} {σ : St} {j : Nat}
theorem capC (K : CtxC X Z a0 C FS FA nA kk l0 n1 a h0 ce rm nm code ml ret) : Cap X (σ, nA) := by
  obtain ⟨p, l, e, R, s, m, args, below, meth, c, ad, INV, CE, n0, kc, ks⟩ := X
  obtain ⟨-, -, -, rfl, rfl, rfl, rfl, -, rfl, rfl, rfl, rfl, hce, hs0⟩ := K
  show (ce nA).1 ≤ _ ∧ (ce nA).2 ≤ _
  rw [hce]; exact ⟨Nat.le_refl _, Nat.le_refl _⟩
theorem ctx_le (K : CtxC X Z a0 C FS FA nA kk l0 n1 a h0 ce rm nm code ml ret) : n1 ≤ a := by
  obtain ⟨p, l, e, R, s, m, args, below, meth, c, ad, INV, CE, n0, kc, ks⟩ := X
  obtain ⟨-, -, -, rfl, rfl, rfl, rfl, hn, -⟩ := K
  exact hn
theorem g_getX (K : CtxC X Z a0 C FS FA nA kk l0 n1 a h0 ce rm nm code ml ret) {idx k : Nat} {n d : String} {q : Nat} (hd : decode code pc = .ok (.getfield idx, 3)) (w : (Cond.fieldLink C idx C n d).before a0 Z = true) (hf : (k, n, d, q) ∈ FS) {v : Value} (hv : up (fun k => a + k) v = fval a j σ (k, n, d, q))
    (h : Go X r (pc + 3) L (v :: st) (σ, j)) : Go X r pc L (.ref 0 :: st) (σ, j) := by
  obtain ⟨p, l, e, R, s, m, args, below, meth, c, ad, INV, CE, n0, kc, ks⟩ := X
  obtain ⟨⟨hx, hby, -, hown, hZ, -⟩, hL, G, rfl, rfl, rfl, rfl, hn, rfl, rfl, rfl, rfl, hce, hs0⟩ := K
  intro T locs A Y N I LO
  obtain ⟨T', Y', e', st'⟩ := getF Y hx hZ hown (host := "") (Or.inl w) Via.refl rfl (I.1.2.1 _ hf) (g := mkF m pc A ((Value.ref 0 :: st).map (up fun k => a + k))) rfl rfl (hb hby hd)
  obtain ⟨s₂, h1, h2⟩ := h T' locs A Y' N (by rw [e']; exact I) LO
  refine ⟨s₂, st' _ ?_, h2⟩
  rw [List.map_cons, hv] at h1
  exact h1
theorem g_getI (K : CtxC X Z a0 C FS FA nA kk l0 n1 a h0 ce rm nm code ml ret) {idx k : Nat} {n d : String} (hd : decode code pc = .ok (.getfield idx, 3)) (w : (Cond.fieldLink C idx C n d).before a0 Z = true) (hf : (k, n, d, 0) ∈ FS)
    (h : Go X r (pc + 3) L (.int (gI σ k) :: st) (σ, j)) : Go X r pc L (.ref 0 :: st) (σ, j) := g_getX K hd w hf rfl h
theorem g_getL (K : CtxC X Z a0 C FS FA nA kk l0 n1 a h0 ce rm nm code ml ret) {idx k : Nat} {n d : String} (hd : decode code pc = .ok (.getfield idx, 3)) (w : (Cond.fieldLink C idx C n d).before a0 Z = true) (hf : (k, n, d, 1) ∈ FS)
    (h : Go X r (pc + 3) L (.long (gL σ k) :: st) (σ, j)) : Go X r pc L (.ref 0 :: st) (σ, j) := g_getX K hd w hf rfl h
theorem g_getA (K : CtxC X Z a0 C FS FA nA kk l0 n1 a h0 ce rm nm code ml ret) {idx k : Nat} {n d : String} (hd : decode code pc = .ok (.getfield idx, 3)) (w : (Cond.fieldLink C idx C n d).before a0 Z = true) (hf : (k, n, d, 2) ∈ FS) (hk : Nat.ble k j = true)
    (h : Go X r (pc + 3) L (.ref k :: st) (σ, j)) : Go X r pc L (.ref 0 :: st) (σ, j) := g_getX K hd w hf (by simp [up, fval, Nat.le_of_ble_eq_true hk]) h
theorem g_putI (K : CtxC X Z a0 C FS FA nA kk l0 n1 a h0 ce rm nm code ml ret) {idx k : Nat} {n d : String} {t : FieldType} (hd : decode code pc = .ok (.putfield idx, 3)) (w : (Cond.fieldLink C idx C n d).before a0 Z = true) (hf : (k, n, d, 0) ∈ FS)
    (wl : (Cond.lays C C n d).before a0 Z = true ∨ ((Cond.laysFinal C C n d).before a0 Z = true ∧ nm = "<init>")) (ht : parseFieldDescriptor d = some t) {v v' : Int32} (hn : narrow t (.int v) = .int v') (hfi : fits t (.int v') = true)
    (h : Go X r (pc + 3) L st (sI σ k v', j)) : Go X r pc L (.int v :: .ref 0 :: st) (σ, j) := by
  obtain ⟨p, l, e, R, s, m, args, below, meth, c, ad, INV, CE, n0, kc, ks⟩ := X
  obtain ⟨⟨hx, hby, -, hown, hZ, -, -, hnm⟩, hL, G, rfl, rfl, rfl, rfl, hge, rfl, rfl, rfl, rfl, hce, hs0⟩ := K
  intro T locs A Y N I LO
  obtain ⟨T', h', Y', e', W, st'⟩ := putFN Y hx hZ hown w Via.refl rfl (I.1.2.1 _ hf) I.1.1 (wl.imp id fun q => ⟨q.1, rfl, hnm.trans q.2⟩) hL.2.1 ht hn hfi (g := mkF m pc A ((Value.int v :: .ref 0 :: st).map (up fun k => a + k))) rfl rfl (hb hby hd)
  obtain ⟨s₂, h1, h2⟩ := h T' _ A Y' (N.app fun y hy => by cases List.mem_singleton.mp hy; exact hge) (by rw [e']; exact ⟨I.1.putI G hL hf W, I.2.1.wr W (Or.inl (mem_ws (k := 0) (Nat.zero_le _))), by rw [W.size]; exact I.2.2⟩) LO
  exact ⟨s₂, st' _ h1, h2⟩
theorem g_putL (K : CtxC X Z a0 C FS FA nA kk l0 n1 a h0 ce rm nm code ml ret) {idx k : Nat} {n d : String} (hd : decode code pc = .ok (.putfield idx, 3)) (w : (Cond.fieldLink C idx C n d).before a0 Z = true) (hf : (k, n, d, 1) ∈ FS)
    (wl : (Cond.lays C C n d).before a0 Z = true ∨ ((Cond.laysFinal C C n d).before a0 Z = true ∧ nm = "<init>")) (ht : parseFieldDescriptor d = some .long) {v : Int64}
    (h : Go X r (pc + 3) L st (sL σ k v, j)) : Go X r pc L (.long v :: .ref 0 :: st) (σ, j) := by
  obtain ⟨p, l, e, R, s, m, args, below, meth, c, ad, INV, CE, n0, kc, ks⟩ := X
  obtain ⟨⟨hx, hby, -, hown, hZ, -, -, hnm⟩, hL, G, rfl, rfl, rfl, rfl, hge, rfl, rfl, rfl, rfl, hce, hs0⟩ := K
  intro T locs A Y N I LO
  obtain ⟨T', h', Y', e', W, st'⟩ := putFN Y hx hZ hown w Via.refl rfl (I.1.2.1 _ hf) I.1.1 (wl.imp id fun q => ⟨q.1, rfl, hnm.trans q.2⟩) hL.2.1 ht (v := .long v) (v' := .long v) rfl rfl (g := mkF m pc A ((Value.long v :: .ref 0 :: st).map (up fun k => a + k))) rfl rfl (hb hby hd)
  obtain ⟨s₂, h1, h2⟩ := h T' _ A Y' (N.app fun y hy => by cases List.mem_singleton.mp hy; exact hge) (by rw [e']; exact ⟨I.1.putL G hL hf W, I.2.1.wr W (Or.inl (mem_ws (k := 0) (Nat.zero_le _))), by rw [W.size]; exact I.2.2⟩) LO
  exact ⟨s₂, st' _ h1, h2⟩
theorem inb {c : Cell} {n : Nat} {i : Int32} (S : c.slots.size = n) (h0 : 0 ≤ i.toInt) (h1 : i.toInt < n) : ¬ (i < 0 ∨ c.slots.size ≤ i.toNatClampNeg) := by
  have e0 : (0 : Int32).toInt = 0 := rfl
  rw [S, Int32.lt_iff_toInt_lt, e0]; simp only [Int32.toNatClampNeg]; omega
theorem at_arr {c : Cell} {n : Nat} {g : Int → Int32} (H : ∀ i : Nat, i < n → c.slots[i]? = some (.int (g (i : Int)))) {i : Int32} (h0 : 0 ≤ i.toInt) (h1 : i.toInt < n) : c.slots[i.toNatClampNeg]? = some (.int (g i.toInt)) := by
  have e : (i.toNatClampNeg : Int) = i.toInt := by simp only [Int32.toNatClampNeg]; omega
  have := H i.toNatClampNeg (by omega)
  rw [e] at this; exact this
theorem g_iaload (K : CtxC X Z a0 C FS FA nA kk l0 n1 a h0 ce rm nm code ml ret) {k n : Nat} {i : Int32} (hd : decode code pc = .ok (.iaload, 1)) (hq : (k, .int, n) ∈ FA) (hk : Nat.ble k j = true) (hi : 0 ≤ i.toInt ∧ i.toInt < (n : Nat))
    (h : Go X r (pc + 1) L (.int (gA σ k i.toInt) :: st) (σ, j)) : Go X r pc L (.int i :: .ref k :: st) (σ, j) := by
  obtain ⟨p, l, e, R, s, m, args, below, meth, c, ad, INV, CE, n0, kc, ks⟩ := X
  obtain ⟨⟨hx, hby, -, hown, hZ, -⟩, hL, G, rfl, rfl, rfl, rfl, hn, rfl, rfl, rfl, rfl, hce, hs0⟩ := K
  intro T locs A Y N I LO
  obtain ⟨cl, F1, F2, F3⟩ := I.1.2.2 _ hq (Nat.le_of_ble_eq_true hk)
  obtain ⟨s₂, h1, h2⟩ := h T locs A Y N I LO
  exact ⟨s₂, Y.iaload hx F1.1 (State.isArrayOf_alike hZ.alike F1.2.1) F1.2.2 (inb F2 hi.1 hi.2) (at_arr F3 hi.1 hi.2) (g := mkF m pc A ((Value.int i :: .ref k :: st).map (up fun k => a + k))) rfl rfl (hb hby hd) _ h1, h2⟩
theorem g_baload (K : CtxC X Z a0 C FS FA nA kk l0 n1 a h0 ce rm nm code ml ret) {k n : Nat} {i : Int32} (hd : decode code pc = .ok (.baload, 1)) (hq : (k, .boolean, n) ∈ FA) (hk : Nat.ble k j = true) (hi : 0 ≤ i.toInt ∧ i.toInt < (n : Nat))
    (h : Go X r (pc + 1) L (.int (gA σ k i.toInt) :: st) (σ, j)) : Go X r pc L (.int i :: .ref k :: st) (σ, j) := by
  obtain ⟨p, l, e, R, s, m, args, below, meth, c, ad, INV, CE, n0, kc, ks⟩ := X
  obtain ⟨⟨hx, hby, -, hown, hZ, -⟩, hL, G, rfl, rfl, rfl, rfl, hn, rfl, rfl, rfl, rfl, hce, hs0⟩ := K
  intro T locs A Y N I LO
  obtain ⟨cl, F1, F2, F3⟩ := I.1.2.2 _ hq (Nat.le_of_ble_eq_true hk)
  obtain ⟨s₂, h1, h2⟩ := h T locs A Y N I LO
  exact ⟨s₂, Y.baloadBooleans hx F1.1 (State.isArrayOf_alike hZ.alike F1.2.1) F1.2.2 (inb F2 hi.1 hi.2) (at_arr F3 hi.1 hi.2) (g := mkF m pc A ((Value.int i :: .ref k :: st).map (up fun k => a + k))) rfl rfl (hb hby hd) _ h1, h2⟩
theorem g_caload (K : CtxC X Z a0 C FS FA nA kk l0 n1 a h0 ce rm nm code ml ret) {k n : Nat} {i : Int32} (hd : decode code pc = .ok (.caload, 1)) (hq : (k, .char, n) ∈ FA) (hk : Nat.ble k j = true) (hi : 0 ≤ i.toInt ∧ i.toInt < (n : Nat))
    (h : Go X r (pc + 1) L (.int (gA σ k i.toInt) :: st) (σ, j)) : Go X r pc L (.int i :: .ref k :: st) (σ, j) := by
  obtain ⟨p, l, e, R, s, m, args, below, meth, c, ad, INV, CE, n0, kc, ks⟩ := X
  obtain ⟨⟨hx, hby, -, hown, hZ, -⟩, hL, G, rfl, rfl, rfl, rfl, hn, rfl, rfl, rfl, rfl, hce, hs0⟩ := K
  intro T locs A Y N I LO
  obtain ⟨cl, F1, F2, F3⟩ := I.1.2.2 _ hq (Nat.le_of_ble_eq_true hk)
  obtain ⟨s₂, h1, h2⟩ := h T locs A Y N I LO
  exact ⟨s₂, Y.caload hx F1.1 (State.isArrayOf_alike hZ.alike F1.2.1) F1.2.2 (inb F2 hi.1 hi.2) (at_arr F3 hi.1 hi.2) (g := mkF m pc A ((Value.int i :: .ref k :: st).map (up fun k => a + k))) rfl rfl (hb hby hd) _ h1, h2⟩
theorem g_arraylength (K : CtxC X Z a0 C FS FA nA kk l0 n1 a h0 ce rm nm code ml ret) {k n : Nat} {ty : FieldType} {v : Int32} (hd : decode code pc = .ok (.arraylength, 1)) (hq : (k, ty, n) ∈ FA) (hk : Nat.ble k j = true) (hv : n.toInt32 = v)
    (h : Go X r (pc + 1) L (.int v :: st) (σ, j)) : Go X r pc L (.ref k :: st) (σ, j) := by
  obtain ⟨p, l, e, R, s, m, args, below, meth, c, ad, INV, CE, n0, kc, ks⟩ := X
  obtain ⟨⟨hx, hby, -, hown, hZ, -⟩, hL, G, rfl, rfl, rfl, rfl, hn, rfl, rfl, rfl, rfl, hce, hs0⟩ := K
  intro T locs A Y N I LO
  obtain ⟨cl, F1, F2, F3⟩ := I.1.2.2 _ hq (Nat.le_of_ble_eq_true hk)
  obtain ⟨s₂, h1, h2⟩ := h T locs A Y N I LO
  subst hv
  simp only at F2
  subst F2
  exact ⟨s₂, Y.arraylength hx F1.1 (State.isArrayOf_alike hZ.alike F1.2.1) (g := mkF m pc A ((Value.ref k :: st).map (up fun k => a + k))) rfl rfl (hb hby hd) _ h1, h2⟩
theorem g_iastore (K : CtxC X Z a0 C FS FA nA kk l0 n1 a h0 ce rm nm code ml ret) {k n : Nat} {i v : Int32} (hd : decode code pc = .ok (.iastore, 1)) (hq : (k, .int, n) ∈ FA) (hk : Nat.ble k j = true) (hi : 0 ≤ i.toInt ∧ i.toInt < (n : Nat))
    (h : Go X r (pc + 1) L st (sA σ k i.toInt v, j)) : Go X r pc L (.int v :: .int i :: .ref k :: st) (σ, j) := by
  obtain ⟨p, l, e, R, s, m, args, below, meth, c, ad, INV, CE, n0, kc, ks⟩ := X
  obtain ⟨⟨hx, hby, -, hown, hZ, -⟩, hL, G, rfl, rfl, rfl, rfl, hge, rfl, rfl, rfl, rfl, hce, hs0⟩ := K
  intro T locs A Y N I LO
  obtain ⟨cl, F1, F2, F3⟩ := I.1.2.2 _ hq (Nat.le_of_ble_eq_true hk)
  obtain ⟨T', h', Y', e', W, st'⟩ := stI Y hx hZ rfl F1 (x := v) (inb F2 hi.1 hi.2) (g := mkF m pc A ((Value.int v :: .int i :: .ref k :: st).map (up fun k => a + k))) rfl rfl (hb hby hd)
  obtain ⟨s₂, h1, h2⟩ := h T' _ A Y' (N.app fun y hy => by cases List.mem_singleton.mp hy; exact Nat.le_trans hge (Nat.le_add_right _ _)) (by rw [e']; exact ⟨I.1.set G hq (Nat.le_of_ble_eq_true hk) hi.1 hi.2 W, I.2.1.wr W (Or.inl (mem_ws (lay_pos G hq).2.1)), by rw [W.size]; exact I.2.2⟩) LO
  exact ⟨s₂, st' _ h1, h2⟩
theorem g_bastore (K : CtxC X Z a0 C FS FA nA kk l0 n1 a h0 ce rm nm code ml ret) {k n : Nat} {i v v' : Int32} (hd : decode code pc = .ok (.bastore, 1)) (hq : (k, .boolean, n) ∈ FA) (hk : Nat.ble k j = true) (hi : 0 ≤ i.toInt ∧ i.toInt < (n : Nat)) (hv : nar .boolean v = v')
    (h : Go X r (pc + 1) L st (sA σ k i.toInt v', j)) : Go X r pc L (.int v :: .int i :: .ref k :: st) (σ, j) := by
  obtain ⟨p, l, e, R, s, m, args, below, meth, c, ad, INV, CE, n0, kc, ks⟩ := X
  obtain ⟨⟨hx, hby, -, hown, hZ, -⟩, hL, G, rfl, rfl, rfl, rfl, hge, rfl, rfl, rfl, rfl, hce, hs0⟩ := K
  subst hv
  intro T locs A Y N I LO
  obtain ⟨cl, F1, F2, F3⟩ := I.1.2.2 _ hq (Nat.le_of_ble_eq_true hk)
  obtain ⟨T', h', Y', e', W, st'⟩ := stZ Y hx hZ rfl F1 (x := v) (inb F2 hi.1 hi.2) (g := mkF m pc A ((Value.int v :: .int i :: .ref k :: st).map (up fun k => a + k))) rfl rfl (hb hby hd)
  obtain ⟨s₂, h1, h2⟩ := h T' _ A Y' (N.app fun y hy => by cases List.mem_singleton.mp hy; exact Nat.le_trans hge (Nat.le_add_right _ _)) (by rw [e']; exact ⟨I.1.set G hq (Nat.le_of_ble_eq_true hk) hi.1 hi.2 W, I.2.1.wr W (Or.inl (mem_ws (lay_pos G hq).2.1)), by rw [W.size]; exact I.2.2⟩) LO
  exact ⟨s₂, st' _ h1, h2⟩
theorem g_castore (K : CtxC X Z a0 C FS FA nA kk l0 n1 a h0 ce rm nm code ml ret) {k n : Nat} {i v v' : Int32} (hd : decode code pc = .ok (.castore, 1)) (hq : (k, .char, n) ∈ FA) (hk : Nat.ble k j = true) (hi : 0 ≤ i.toInt ∧ i.toInt < (n : Nat)) (hv : nar .char v = v')
    (h : Go X r (pc + 1) L st (sA σ k i.toInt v', j)) : Go X r pc L (.int v :: .int i :: .ref k :: st) (σ, j) := by
  obtain ⟨p, l, e, R, s, m, args, below, meth, c, ad, INV, CE, n0, kc, ks⟩ := X
  obtain ⟨⟨hx, hby, -, hown, hZ, -⟩, hL, G, rfl, rfl, rfl, rfl, hge, rfl, rfl, rfl, rfl, hce, hs0⟩ := K
  subst hv
  intro T locs A Y N I LO
  obtain ⟨cl, F1, F2, F3⟩ := I.1.2.2 _ hq (Nat.le_of_ble_eq_true hk)
  obtain ⟨T', h', Y', e', W, st'⟩ := stC Y hx hZ rfl F1 (x := v) (inb F2 hi.1 hi.2) (g := mkF m pc A ((Value.int v :: .int i :: .ref k :: st).map (up fun k => a + k))) rfl rfl (hb hby hd)
  obtain ⟨s₂, h1, h2⟩ := h T' _ A Y' (N.app fun y hy => by cases List.mem_singleton.mp hy; exact Nat.le_trans hge (Nat.le_add_right _ _)) (by rw [e']; exact ⟨I.1.set G hq (Nat.le_of_ble_eq_true hk) hi.1 hi.2 W, I.2.1.wr W (Or.inl (mem_ws (lay_pos G hq).2.1)), by rw [W.size]; exact I.2.2⟩) LO
  exact ⟨s₂, st' _ h1, h2⟩
/-! ### the constructor's own steps -/
theorem g_objinit (K : CtxC X Z a0 C FS FA nA kk l0 n1 a h0 ce rm nm code ml ret) {idx k : Nat} (hd : decode code pc = .ok (.invokespecial idx, 3)) (w1 : (Cond.methodLink C idx Lib.objectInit).before a0 Z = true) (w2 : (Cond.instanceMethod Lib.objectInit).before a0 Z = true)
    (w3 : (Cond.code Lib.objectInit ⟨#[0xb1]⟩ 1 none).before a0 Z = true) (hml : L.length = ml) (hr1 : 1 ≤ rm.frames) (hr2 : (st.map fun v => v.category).sum + 12 ≤ rm.locals) (h : Go X r (pc + 3) L st (σ, j)) : Go X r pc L (.ref k :: st) (σ, j) := by
  obtain ⟨p, l, e, R, s, m, args, below, meth, c, ad, INV, CE, n0, kc, ks⟩ := X
  obtain ⟨⟨hx, hby, hcm, hown, hZ, -⟩, hL, G, rfl, rfl, rfl, rfl, hge, rfl, rfl, rfl, rfl, hce, hs0⟩ := K
  intro T locs A Y N I LO
  obtain ⟨T', Y', e', st'⟩ := initO Y hx hZ hown w1 w2 w3 rfl (g := mkF m pc A ((Value.ref k :: st).map (up fun k => a + k))) rfl (by rw [hcm, ← hml]; exact LO.1) rfl (hb hby hd) hr1 (W := (st.map fun v => v.category).sum) (by rw [up_cats]; show 2 * 0 + _ ≤ _; omega) hr2
  obtain ⟨s₂, h1, h2⟩ := h T' locs A Y' N (by rw [e']; exact I) LO
  exact ⟨s₂, st' _ h1, h2⟩
/-- newarray and, behind it, putfield: the next array of the object -/
theorem g_newput (K : CtxC X Z a0 C FS FA nA kk l0 n1 a h0 ce rm nm code ml ret) {aty : ArrayType} {idx : Nat} {n d : String} {len : Int32} {t : FieldType} (hd : decode code pc = .ok (.newarray aty, 2)) (hd2 : decode code (pc + 2) = .ok (.putfield idx, 3)) (wa : (Cond.arrayClass (newarray.typeOf aty)).before a0 Z = true) (w : (Cond.fieldLink C idx C n d).before a0 Z = true)
    (hf : (j + 1, n, d, 2) ∈ FS) (wl : (Cond.lays C C n d).before a0 Z = true ∨ ((Cond.laysFinal C C n d).before a0 Z = true ∧ nm = "<init>")) (ht : parseFieldDescriptor d = some t) (hn : ∀ x, narrow t (.ref x) = .ref x) (hfi : ∀ x, fits t (.ref x) = true)
    (hint : newarray.typeOf aty = .int ∨ newarray.typeOf aty = .boolean ∨ newarray.typeOf aty = .char) {q : ASpec} (hq : q ∈ FA) (hq1 : q.1 = j + 1) (hq2 : q.2.1 = newarray.typeOf aty) (hq3 : q.2.2 = len.toNatClampNeg) (hlen : ¬ len < 0) (hcap : len.toNatClampNeg * 8 ≤ 536870912)
    (hh : h0.size = a + 1) (hce1 : ce j = (j, (ce j).2)) (hce2 : ce (j + 1) = (j + 1, (ce j).2 + len.toNatClampNeg)) (hc1 : j + 1 ≤ rm.cells) (hc2 : (ce j).2 + len.toNatClampNeg ≤ rm.slots) (hz : ∀ i, gA σ (j + 1) i = 0)
    (h : Go X r (pc + 5) L st (σ, j + 1)) : Go X r pc L (.int len :: .ref 0 :: st) (σ, j) := by
  obtain ⟨p, l, e, R, s, m, args, below, meth, c, ad, INV, CE, n0, kc, ks⟩ := X
  obtain ⟨⟨hx, hby, -, hown, hZ, -, -, hnm⟩, hL, G, rfl, rfl, rfl, rfl, hge, rfl, rfl, rfl, rfl, hce, hs0⟩ := K
  intro T locs A Y N I LO
  have hY : Stand p l e R s m args below meth c T locs j (ce j).2 := by
    have := Y; simp only at this; rw [hce1] at this; exact this
  have hsz : T.heap.size = a + 1 + j := by have := I.2.2; simp only at this; rw [hce1] at this; omega
  obtain ⟨T1, h1, cA, Y1, e1, E1, A1, st1'⟩ := newP hY hx hZ wa rfl (g := mkF m pc A ((Value.int len :: .ref 0 :: st).map (up fun k => a + k))) rfl (hb hby hd) rfl hlen (Nat.le_refl _) hcap hc1 hc2
  rw [hsz] at A1 st1'
  have eA : a + 1 + j = a + (j + 1) := by omega
  rw [eA] at A1 st1'
  have R1 : Rep Z C FS FA a j h1 σ := I.1.ext E1
  obtain ⟨T2, h2, Y2, e2, W, st2'⟩ := putFN Y1 hx hZ hown w Via.refl e1 (R1.2.1 _ hf) R1.1 (wl.imp id fun q => ⟨q.1, rfl, hnm.trans q.2⟩) hL.2.1 ht (hn _) (hfi _) (g := mkF m (pc + 2) A (.ref (a + (j + 1)) :: ((Value.ref 0 :: st).map (up fun k => a + k)))) rfl rfl (hb hby hd2)
  have R2 : Rep Z C FS FA a (j + 1) h2 σ := by
    refine R1.put G hL hf W (by simp [fval]) (fun g hg ne => ?_) (fun q' hq' hj => ?_)
    · have hk : g.1 ≠ j + 1 := fun z => ne (lay_keys G hg hf z)
      unfold fval
      split
      · rfl
      · rfl
      · by_cases z : g.1 ≤ j
        · rw [if_pos z, if_pos (by omega)]
        · rw [if_neg z, if_neg (by omega)]
    · by_cases z : q'.1 ≤ j
      · exact R1.2.2 q' hq' z
      · have : q' = q := lay_arr G hq' hq (by omega)
        subst this
        rw [hq1, hq2, hq3]
        refine ⟨_, A1, sz_new _ _ _, fun i hi => ?_⟩
        rw [hz]
        rcases hint with e | e | e <;> rw [e] <;> simp [newA, hi, defaultValue]
  have hs1 : h1.size = a + 1 + (j + 1) := by
    have q1 := E1.1
    have q2 : T1.heap.size ≤ s.heap.size + (j + 1) := Y1.heapSize
    have q3 := A1.lt
    rw [e1, hs0, hh] at q2
    have q5 : a + (j + 1) < h1.size := q3
    have q6 : h1.size ≤ a + 1 + (j + 1) := q2
    omega
  obtain ⟨s₂, g1, g2⟩ := h T2 _ A (by show Stand _ _ _ _ _ _ _ _ _ _ _ _ (ce (j + 1)).1 (ce (j + 1)).2; rw [hce2]; exact Y2) (N.app fun y hy => by cases List.mem_singleton.mp hy; exact hge)
    (by rw [e2]; exact ⟨R2, (I.2.1.ext E1).wr W (Or.inl (mem_ws (k := 0) (Nat.zero_le _))), by rw [W.size, hs1, hh]; show _ = _ + (ce (j + 1)).1; rw [hce2]⟩) LO
  exact ⟨s₂, st1' _ (st2' _ g1), g2⟩
end RulesC
/-! ## 6. contracts of methods, and calls on the own object -/
def MetP (l : Launch) (Z : State) (y : MethodName) (code : ByteArray) (ml : Nat) (ret : Option FieldType) (rm : Room) (ws : List Jvm.Cond) (n0 : Nat) (h1 : Heap) (as : Array Value) (v : Option Value) (POST : Heap → Prop) : Prop :=
  MetFree l y (head1 (Jvm.Cond.code y code ml ret :: ws) rm) (fun b U => b = as ∧ Z.Warmed39 U.vm ∧ U.heap = h1) (fun _ _ _ _ _ => True) (fun _ U o U' => ∃ w L, o = .returned w ∧ (w = v ∧ Fr n0 L ∧ POST U'.heap) ∧ FrameEnd U o U' L rm.cells rm.slots)
/-- a body that goes to its end meets its contract -/
theorem met_of_go {S : Type} {l : Launch} {Z : State} {y : MethodName} {code : ByteArray} {ml : Nat} {ret : Option FieldType} {rm : Room} {ws : List Jvm.Cond} {n0 : Nat} {h1 : Heap} {ad : Nat → Addr} {INV : S → Heap → Prop} {CE : S → Nat × Nat} {vs : List Value} {v : Option Value} {x x' : S} {L : List (Option Value)}
    (hp : plainName y.cls = true) (hL : ent vs ml = L) (hI : INV x h1) (hce : CE x = (0, 0))
    (H : ∀ (p : Program) (e : Env) (s : State) (m : MethodId) (below : List Frame) (meth : Method) (c : Code), s.heap = h1 → Ctx (S := S) (p, l, e, rm, s, m, (vs.map (up ad)).toArray, below, meth, c, ad, INV, CE, n0, rm.cells, rm.slots) Z y.cls y.name code ml ret →
      Go (S := S) (p, l, e, rm, s, m, (vs.map (up ad)).toArray, below, meth, c, ad, INV, CE, n0, rm.cells, rm.slots) (v, x') 0 L [] x) :
    MetP l Z y code ml ret rm ws n0 h1 (vs.map (up ad)).toArray (v.map (up ad)) (INV x') := by
  refine MetFree.of_bodySF (plainFor_of_name hp) hisR ?_
  intro p e s m args below meth c s₁ Bd hml0 hP hK
  obtain ⟨rfl, hZ, hh⟩ := hP
  have hown : s.vm.findClass y.cls = some m.cls := findClass_of_methodNamed Bd.named
  have hnm := (name_of_methodNamed Bd.named Bd.method).1
  have X0 : Stand p l e rm s m (vs.map (up ad)).toArray below meth c s₁ [] 0 0 := Stand.of_body Bd
  have e0 : s₁.heap = h1 := by rw [← hh, Bd.state]; rfl
  subst hL
  obtain ⟨s₂, g1, g2, g3, g4, L', g5, g6, g7⟩ := H p e s m below meth c hh ⟨Bd.exec, Bd.bytes, hml0, hown, hZ, Bd.returns, Bd.notSynchronized, hnm⟩ s₁ [] _ (by rw [hce]; exact X0) (Fr.nil n0) (by rw [e0]; exact hI) (loc_ent ad vs ml)
  exact ⟨s₂, _, g1, g2, g3, _, L', rfl, ⟨rfl, g5, g4⟩, ⟨_, rfl⟩, g6, g7⟩
theorem MetP.mono {l : Launch} {Z : State} {y : MethodName} {code : ByteArray} {ml : Nat} {ret : Option FieldType} {rm : Room} {ws : List Jvm.Cond} {n0 : Nat} {h1 : Heap} {as : Array Value} {v : Option Value} {P Q : Heap → Prop}
    (H : MetP l Z y code ml ret rm ws n0 h1 as v P) (hPQ : ∀ h, P h → Q h) : MetP l Z y code ml ret rm ws n0 h1 as v Q := by
  intro p e ha hc hk s m args below hf happ hP hK
  obtain ⟨n, o, q1, q2, q3, w, L, q4, ⟨q5, q6, q7⟩, q8⟩ := H p e ha hc hk s m args below hf happ hP hK
  exact ⟨n, o, q1, q2, q3, w, L, q4, ⟨q5, q6, hPQ _ q7⟩, q8⟩
theorem MetP.back {p : Program} {l : Launch} {e : Env} {R : Room} {s : State} {args : Array Value} {below : List Frame} {Z : State} {a0 : Array Value} {y : MethodName} {code : ByteArray} {ml : Nat} {ret : Option FieldType} {rm : Room} {n0 : Nat} {h1 : Heap} {as : Array Value} {v : Option Value} {POST : Heap → Prop} {len W : Nat}
    (H : MetP l Z y code ml ret rm [] n0 h1 as v POST) (hZ : Z.Warmed39 s.vm) (wc : (Jvm.Cond.code y code ml ret).before a0 Z = true) (wz : (Cond.initialized y.cls).before a0 Z = true) (hf : rm.frames + 1 ≤ R.frames) (hl : W + (ml + 11) + rm.locals ≤ R.locals) :
    Back l R p e below s args y len W (fun A b => b = as ∧ A.U.heap = h1 ∧ A.cells + rm.cells ≤ R.cells ∧ A.slots + rm.slots ≤ R.slots)
      (fun A _ w B => ∃ L, (w = v ∧ Fr n0 L ∧ POST B.U.heap) ∧ B.locs = A.locs ++ L ∧ B.cells = A.cells + rm.cells ∧ B.slots = A.slots + rm.slots) :=
  backOf (Q := fun w h' L => w = v ∧ Fr n0 L ∧ POST h') H hZ wc wz hf hl
/-- a method of the class on the object at a: from σ to σ', giving v -/
def Con (l : Launch) (Z : State) (C : String) (FS : List FSpec) (FA : List ASpec) (nA : Nat) (n0 : Nat) (a : Nat) (y : MethodName) (code : ByteArray) (ml : Nat) (ret : Option FieldType) (rm : Room) (vs : List Value) (σ : St) (v : Option Value) (σ' : St) : Prop :=
  ∀ (ws : List Jvm.Cond) (h1 : Heap), Rep Z C FS FA a nA h1 σ → MetP l Z y code ml ret rm ws n0 h1 (vs.map (up fun k => a + k)).toArray (v.map (up fun k => a + k)) (fun h' => Rep Z C FS FA a nA h' σ' ∧ Keep h1 h' (wsOf a nA) ∧ h'.size = h1.size)
def ce0 : Nat → Nat × Nat := fun _ => (0, 0)
theorem con_of_go {l : Launch} {Z : State} {a0 : Array Value} {C : String} {FS : List FSpec} {FA : List ASpec} {nA kk n0 : Nat} {a : Nat} {n d : String} {code : ByteArray} {ml : Nat} {ret : Option FieldType} {fr lo : Nat} {vs : List Value} {σ : St} {v : Option Value} {σ' : St} {L : List (Option Value)}
    (hp : plainName C = true) (hL : ent vs ml = L) (lw : LayW Z a0 C FS kk) (lg : layGood FS FA nA = true) (hge : n0 ≤ a)
    (H : ∀ (X : Cx (St × Nat)) (h1 : Heap), CtxC X Z a0 C FS FA nA kk l n0 a h1 ce0 ⟨fr, 0, 0, lo⟩ n code ml ret → Go X (v, (σ', nA)) 0 L [] (σ, nA)) :
    Con l Z C FS FA nA n0 a ⟨C, n, d⟩ code ml ret ⟨fr, 0, 0, lo⟩ vs σ v σ' := by
  intro ws h1 hR
  refine (met_of_go (S := St × Nat) (INV := INVc Z C FS FA nA a h1 ce0) (CE := fun x => ce0 x.2) (x := (σ, nA)) (x' := (σ', nA)) hp hL ⟨hR, Keep.refl _ _, rfl⟩ rfl ?_).mono (fun h q => ⟨q.1, q.2.1, q.2.2⟩)
  intro p e s m below meth c hs K
  exact H _ h1 ⟨K, lw, lg, rfl, rfl, rfl, rfl, hge, rfl, rfl, rfl, rfl, rfl, hs⟩
section Calls
variable {X : Cx (St × Nat)} {Z : State} {a0 : Array Value} {C : String} {FS : List FSpec} {FA : List ASpec} {nA kk : Nat} {l0 : Launch} {n1 : Nat} {a : Nat} {h0 : Heap} {ce : Nat → Nat × Nat} {rm rm' : Room} {nm : String} {code code' : ByteArray} {ml ml' : Nat} {ret ret' : Option FieldType} {r : Option Value × (St × Nat)} {pc : Nat} {L : List (Option Value)} {st st0 : List Value} {σ σ' : St}
/-- a call of a private method on 'this' -/
theorem g_callP (K : CtxC X Z a0 C FS FA nA kk l0 n1 a h0 ce rm nm code ml ret) {idx : Nat} {n d : String} {ps : List FieldType} {rt : Option FieldType} (hd : decode code pc = .ok (.invokevirtual idx, 3)) (w1 : (Cond.methodLink C idx ⟨C, n, d⟩).before a0 Z = true) (w2 : (Cond.instanceMethod ⟨C, n, d⟩).before a0 Z = true)
    (w3 : (Cond.privateMethod ⟨C, n, d⟩).before a0 Z = true) (w4 : (Jvm.Cond.code ⟨C, n, d⟩ code' ml' ret').before a0 Z = true) (hy : C ≠ "java/lang/invoke/MethodHandle" ∧ C ≠ "java/lang/invoke/VarHandle") (hpd : parseMethodDescriptor d = some ⟨ps, rt⟩) {vs : List Value} (hst : vs.reverse ++ .ref 0 :: st = st0) (hlen : vs.length = ps.length)
    {v : Option Value} (con : Con l0 Z C FS FA nA n1 a ⟨C, n, d⟩ code' ml' ret' rm' (.ref 0 :: vs) σ v σ') (hml : L.length = ml) (hr1 : rm'.frames + 1 ≤ rm.frames) (hr2 : (st.map fun v => v.category).sum + (ml' + 11) + rm'.locals ≤ rm.locals) (hr3 : rm'.cells = 0) (hr4 : rm'.slots = 0)
    (h : Go X r (pc + 3) L (v.toList ++ st) (σ', nA)) : Go X r pc L st0 (σ, nA) := by
  obtain ⟨p, l, e, R, s, m, args, below, meth, c, ad, INV, CE, n0, kc, ks⟩ := X
  obtain ⟨⟨hx, hby, hcm, hown, hZ, -⟩, hL, G, rfl, rfl, rfl, rfl, hge, rfl, rfl, rfl, rfl, hce, hs0⟩ := K
  intro T locs A Y N I LO
  subst hst
  obtain ⟨cell, hcell, hobj⟩ := I.1.1.cell
  obtain ⟨ci, ki, i1, i2, i3, i4, -⟩ := Cond.instantiable_spec (mvT (args := #[]) hZ hL.2.1)
  have hni : ki.isInterface = false := by simp only [Bool.or_eq_false_iff] at i4; exact i4.1
  have hpr : s.PrivateAt ⟨C, n, d⟩ := Cond.privateMethod_at (mvP hZ w3 (args := #[]))
  have hsel : (Cond.selects C ⟨C, n, d⟩ ⟨C, n, d⟩).before args s = true := selects_self_of_private (y := ⟨C, n, d⟩) i1 i2 hni hpr (mvT hZ w2) hy
  have hcA : (ce nA).1 + rm'.cells ≤ R.cells := by rw [hce, hr3]; exact Nat.le_refl _
  have hsA : (ce nA).2 + rm'.slots ≤ R.slots := by rw [hce, hr4]; exact Nat.le_refl _
  obtain ⟨w, vm₁, ⟨T', L', k', n'⟩, -, Y', ⟨Lc, ⟨q1, q2, q3, q4, q5⟩, l', y', z'⟩, st'⟩ := Y.privateBack hx (y := ⟨C, n, d⟩) hown (mvT hZ w1) (mvT hZ w2) hsel hpr (mvT hZ w4) hy
    (MetP.back (W := (st.map fun v => v.category).sum) (con [] T.heap I.1) hZ w4 hL.2.2 hr1 hr2) (g := mkF m pc A ((vs.reverse ++ .ref 0 :: st).map (up fun k => a + k))) rfl (by rw [hcm, ← hml]; exact LO.1) (Steps.refl _) (a := a) hcell hobj
    (argsL := vs.map (up fun k => a + k)) (rest := st.map (up fun k => a + k)) (lenOf hpd (by rw [List.length_map]; exact hlen)) (by simp [up]) (by rw [up_cats]; show 2 * 0 + _ ≤ _; omega) (hb hby hd) (fun _ _ => ⟨by simp [up], rfl, hcA, hsA⟩)
  dsimp only [Pt.U, Pt.locs, Pt.cells, Pt.slots] at Y' l' y' z' st' q1 q3 q4 q5
  subst l' y' z' q1
  obtain ⟨s₂, h1, h2⟩ := h T' _ A (by show Stand _ _ _ _ _ _ _ _ _ _ _ _ (ce nA).1 (ce nA).2; simpa [hr3, hr4] using Y') (N.app q2) ⟨q3, I.2.1.trans q4 (fun x hx => Or.inl hx), by rw [q5]; exact I.2.2⟩ LO
  refine ⟨s₂, st'.trans ?_, h2⟩
  have e1 : (v.toList ++ st).map (up fun k => a + k) = (v.map (up fun k => a + k)).toList ++ st.map (up fun k => a + k) := by cases v <;> simp
  rw [e1] at h1
  exact h1
/-- a call of a public method on 'this' -/
theorem g_callV (K : CtxC X Z a0 C FS FA nA kk l0 n1 a h0 ce rm nm code ml ret) {idx : Nat} {n d : String} {ps : List FieldType} {rt : Option FieldType} (hd : decode code pc = .ok (.invokevirtual idx, 3)) (w1 : (Cond.methodLink C idx ⟨C, n, d⟩).before a0 Z = true) (w2 : (Cond.instanceMethod ⟨C, n, d⟩).before a0 Z = true)
    (w3 : (Cond.declares ⟨C, n, d⟩).before a0 Z = true) (w3' : (Cond.selects C ⟨C, n, d⟩ ⟨C, n, d⟩).before a0 Z = true) (w4 : (Jvm.Cond.code ⟨C, n, d⟩ code' ml' ret').before a0 Z = true) (hy : C ≠ "java/lang/invoke/MethodHandle" ∧ C ≠ "java/lang/invoke/VarHandle") (hpd : parseMethodDescriptor d = some ⟨ps, rt⟩) {vs : List Value} (hst : vs.reverse ++ .ref 0 :: st = st0) (hlen : vs.length = ps.length)
    {v : Option Value} (con : Con l0 Z C FS FA nA n1 a ⟨C, n, d⟩ code' ml' ret' rm' (.ref 0 :: vs) σ v σ') (hml : L.length = ml) (hr1 : rm'.frames + 1 ≤ rm.frames) (hr2 : (st.map fun v => v.category).sum + (ml' + 11) + rm'.locals ≤ rm.locals) (hr3 : rm'.cells = 0) (hr4 : rm'.slots = 0)
    (h : Go X r (pc + 3) L (v.toList ++ st) (σ', nA)) : Go X r pc L st0 (σ, nA) := by
  obtain ⟨p, l, e, R, s, m, args, below, meth, c, ad, INV, CE, n0, kc, ks⟩ := X
  obtain ⟨⟨hx, hby, hcm, hown, hZ, -⟩, hL, G, rfl, rfl, rfl, rfl, hge, rfl, rfl, rfl, rfl, hce, hs0⟩ := K
  intro T locs A Y N I LO
  subst hst
  obtain ⟨cq, kq, qa, qb, qc⟩ := isOf hZ rfl I.1.1
  have hcA : (ce nA).1 + rm'.cells ≤ R.cells := by rw [hce, hr3]; exact Nat.le_refl _
  have hsA : (ce nA).2 + rm'.slots ≤ R.slots := by rw [hce, hr4]; exact Nat.le_refl _
  obtain ⟨w, vm₁, ⟨T', L', k', n'⟩, -, Y', ⟨Lc, ⟨q1, q2, q3, q4, q5⟩, l', y', z'⟩, st'⟩ := Y.virtualBack hx (y := ⟨C, n, d⟩) (z := ⟨C, n, d⟩) hown (mvT hZ w1) (mvT hZ w3) (notFace_of_selects (args := #[]) (mvT hZ w3')) (mvT hZ w3') (mvT hZ w2) hy
    (MetP.back (W := (st.map fun v => v.category).sum) (con [] T.heap I.1) hZ w4 hL.2.2 hr1 hr2) qa qc (g := mkF m pc A ((vs.reverse ++ .ref 0 :: st).map (up fun k => a + k))) rfl (by rw [hcm, ← hml]; exact LO.1) (Steps.refl _)
    (argsL := vs.map (up fun k => a + k)) (rest := st.map (up fun k => a + k)) (lenOf hpd (by rw [List.length_map]; exact hlen)) (by simp [up]) (by rw [up_cats]; show 2 * 0 + _ ≤ _; omega) (hb hby hd) (fun _ _ => ⟨by simp [up], rfl, hcA, hsA⟩)
  dsimp only [Pt.U, Pt.locs, Pt.cells, Pt.slots] at Y' l' y' z' st' q1 q3 q4 q5
  subst l' y' z' q1
  obtain ⟨s₂, h1, h2⟩ := h T' _ A (by show Stand _ _ _ _ _ _ _ _ _ _ _ _ (ce nA).1 (ce nA).2; simpa [hr3, hr4] using Y') (N.app q2) ⟨q3, I.2.1.trans q4 (fun x hx => Or.inl hx), by rw [q5]; exact I.2.2⟩ LO
  refine ⟨s₂, st'.trans ?_, h2⟩
  have e1 : (v.toList ++ st).map (up fun k => a + k) = (v.map (up fun k => a + k)).toList ++ st.map (up fun k => a + k) := by cases v <;> simp
  rw [e1] at h1
  exact h1
end Calls
/-- the constructor's contract: a new object, its fields at their first values -/
def ConI (l : Launch) (Z : State) (C : String) (FS : List FSpec) (FA : List ASpec) (nA : Nat) (n0 : Nat) (a : Nat) (y : MethodName) (code : ByteArray) (ml : Nat) (rm : Room) (vs : List Value) (σ' : St) : Prop :=
  ∀ (ws : List Jvm.Cond) (h1 : Heap), h1.size = a + 1 → Rep Z C FS FA a 0 h1 z0 → MetP l Z y code ml none rm ws n0 h1 (vs.map (up fun k => a + k)).toArray none (fun h' => Rep Z C FS FA a nA h' σ' ∧ Keep h1 h' (wsOf a nA) ∧ h'.size = h1.size + nA)
def ceI (FA : List ASpec) : Nat → Nat × Nat := fun j => (j, ((FA.filter fun q => decide (q.1 ≤ j)).map fun q => q.2.2).sum)
theorem coni_of_go {l : Launch} {Z : State} {a0 : Array Value} {C : String} {FS : List FSpec} {FA : List ASpec} {nA kk n0 : Nat} {a : Nat} {d : String} {code : ByteArray} {ml : Nat} {fr lo sl : Nat} {vs : List Value} {σ' : St} {L : List (Option Value)}
    (hp : plainName C = true) (hL : ent vs ml = L) (lw : LayW Z a0 C FS kk) (lg : layGood FS FA nA = true) (hge : n0 ≤ a) (hce : ceI FA nA = (nA, sl)) (hc0 : ceI FA 0 = (0, 0))
    (H : ∀ (X : Cx (St × Nat)) (h1 : Heap), h1.size = a + 1 → CtxC X Z a0 C FS FA nA kk l n0 a h1 (ceI FA) ⟨fr, nA, sl, lo⟩ "<init>" code ml none → Go X (none, (σ', nA)) 0 L [] (z0, 0)) :
    ConI l Z C FS FA nA n0 a ⟨C, "<init>", d⟩ code ml ⟨fr, nA, sl, lo⟩ vs σ' := by
  intro ws h1 hsz hR
  refine (met_of_go (S := St × Nat) (INV := INVc Z C FS FA nA a h1 (ceI FA)) (CE := fun x => ceI FA x.2) (x := (z0, 0)) (x' := (σ', nA)) (v := none) hp hL ⟨hR, Keep.refl _ _, by rw [hc0]; rfl⟩ hc0 ?_).mono (fun h q => ⟨q.1, q.2.1, by rw [q.2.2, hce]⟩)
  intro p e s m below meth c hs K
  exact H _ h1 hsz ⟨K, lw, lg, rfl, rfl, rfl, rfl, hge, rfl, rfl, rfl, rfl, hce, hs⟩
/-! ## 7. the law: static code that makes objects and calls them; object i is reference i, the script is reference 100 -/
def adL (sc n0 nA : Nat) : Nat → Addr := fun i => if i = 100 then sc else n0 + i * (nA + 1)
def sizeW (W : List (St × Nat)) : Nat := (W.map fun x => 1 + x.2).sum
def INVl (Z : State) (C : String) (FS : List FSpec) (FA : List ASpec) (nA : Nat) (n0 : Nat) (H0 : Heap) : List (St × Nat) → Heap → Prop := fun W h => (∀ i x, W[i]? = some x → Rep Z C FS FA (n0 + i * (nA + 1)) x.2 h x.1) ∧ h.size = n0 + sizeW W ∧ Ext H0 h
/-- the script: its length and its values, as they stood at the start -/
def Script (Z : State) (H0 : Heap) (sc : Nat) (z : Int32) (f : Int → Int32) : Prop := ∃ c : Cell, Arr Z H0 sc c .int ∧ c.slots.size = z.toNatClampNeg ∧ 0 ≤ z.toInt ∧ ∀ i : Nat, i < z.toNatClampNeg → c.slots[i]? = some (.int (f (i : Int)))
def CtxL (X : Cx (List (St × Nat))) (Z : State) (a0 : Array Value) (C : String) (FS : List FSpec) (FA : List ASpec) (nA kk : Nat) (l0 : Launch) (n1 : Nat) (sc : Nat) (H0 : Heap) (ce : List (St × Nat) → Nat × Nat) (rm : Room) (kc1 ks1 : Nat) (own nm : String) (code : ByteArray) (ml : Nat) (ret : Option FieldType) : Prop :=
  Ctx X Z own nm code ml ret ∧ LayW Z a0 C FS kk ∧ layGood FS FA nA = true ∧
  match X with
  | (p, l, e, R, s, m, args, below, meth, c, ad, INV, CE, n0, kc, ks) => ad = adL sc n1 nA ∧ INV = INVl Z C FS FA nA n1 H0 ∧ CE = ce ∧ n0 = n1 ∧ H0.size = n1 ∧ l = l0 ∧ R = rm ∧ kc = kc1 ∧ ks = ks1
def ceJ (kk : Nat) (FA : List ASpec) (js : List Nat) : Nat × Nat := ((js.map fun j => 1 + j).sum, (js.map fun j => kk + (ceI FA j).2).sum)
def ceL (kk : Nat) (FA : List ASpec) : List (St × Nat) → Nat × Nat := fun W => ceJ kk FA (W.map Prod.snd)
theorem ceL_1 (kk : Nat) (FA : List ASpec) (W : List (St × Nat)) : (ceL kk FA W).1 = sizeW W := by simp [ceL, ceJ, sizeW, Function.comp_def]
theorem ceL_eq {kk : Nat} {FA : List ASpec} {W W' : List (St × Nat)} (h : W'.map Prod.snd = W.map Prod.snd) : ceL kk FA W' = ceL kk FA W := congrArg (ceJ kk FA) h
theorem capJ1 {kk c d : Nat} {FA : List ASpec} {W : List (St × Nat)} {js : List Nat} (h : (ceJ kk FA js).1 ≤ c ∧ (ceJ kk FA js).2 ≤ d) (hj : W.map Prod.snd = js) : (ceL kk FA W).1 ≤ c := by subst hj; exact h.1
theorem capJ2 {kk c d : Nat} {FA : List ASpec} {W : List (St × Nat)} {js : List Nat} (h : (ceJ kk FA js).1 ≤ c ∧ (ceJ kk FA js).2 ≤ d) (hj : W.map Prod.snd = js) : (ceL kk FA W).2 ≤ d := by subst hj; exact h.2
theorem capN1 {kk c d : Nat} {FA : List ASpec} {W : List (St × Nat)} {js : List Nat} (h : (ceJ kk FA js).1 + 1 ≤ c ∧ (ceJ kk FA js).2 + kk ≤ d) (hj : W.map Prod.snd = js) : (ceL kk FA W).1 + 1 ≤ c := by subst hj; exact h.1
theorem capN2 {kk c d : Nat} {FA : List ASpec} {W : List (St × Nat)} {js : List Nat} (h : (ceJ kk FA js).1 + 1 ≤ c ∧ (ceJ kk FA js).2 + kk ≤ d) (hj : W.map Prod.snd = js) : (ceL kk FA W).2 + kk ≤ d := by subst hj; exact h.2
/-- a static method of the law's class -/
def ConL (l : Launch) (Z : State) (C : String) (FS : List FSpec) (FA : List ASpec) (nA : Nat) (n0 : Nat) (sc : Nat) (H0 : Heap) (y : MethodName) (code : ByteArray) (ml : Nat) (ret : Option FieldType) (rm : Room) (vs : List Value) (W : List (St × Nat)) (v : Option Value) (W' : List (St × Nat)) : Prop :=
  ∀ (ws : List Jvm.Cond) (h1 : Heap), INVl Z C FS FA nA n0 H0 W h1 → MetP l Z y code ml ret rm ws n0 h1 (vs.map (up (adL sc n0 nA))).toArray (v.map (up (adL sc n0 nA))) (INVl Z C FS FA nA n0 H0 W')
def ceS : List (St × Nat) → Nat × Nat := fun _ => (0, 0)
theorem conl_of_go {l : Launch} {Z : State} {a0 : Array Value} {C : String} {FS : List FSpec} {FA : List ASpec} {nA kk n0 : Nat} {sc : Nat} {H0 : Heap} {own n d : String} {code : ByteArray} {ml : Nat} {ret : Option FieldType} {fr lo : Nat} {vs : List Value} {W : List (St × Nat)} {v : Option Value} {W' : List (St × Nat)} {L : List (Option Value)}
    (hp : plainName own = true) (hL : ent vs ml = L) (lw : LayW Z a0 C FS kk) (lg : layGood FS FA nA = true) (hH : H0.size = n0)
    (H : ∀ (X : Cx (List (St × Nat))), CtxL X Z a0 C FS FA nA kk l n0 sc H0 ceS ⟨fr, 0, 0, lo⟩ 0 0 own n code ml ret → Go X (v, W') 0 L [] W) :
    ConL l Z C FS FA nA n0 sc H0 ⟨own, n, d⟩ code ml ret ⟨fr, 0, 0, lo⟩ vs W v W' := by
  intro ws h1 hR
  refine met_of_go (S := List (St × Nat)) (INV := INVl Z C FS FA nA n0 H0) (CE := ceS) (x := W) (x' := W') hp hL hR rfl ?_
  intro p e s m below meth c hs K
  exact H _ ⟨K, lw, lg, rfl, rfl, rfl, rfl, hH, rfl, rfl, rfl, rfl⟩
section RulesL
variable {X : Cx (List (St × Nat))} {Z : State} {a0 : Array Value} {C : String} {FS : List FSpec} {FA : List ASpec} {nA kk : Nat} {l0 : Launch} {n1 : Nat} {sc : Nat} {H0 : Heap} {ce : List (St × Nat) → Nat × Nat} {rm rm' : Room} {kc1 ks1 : Nat} {own nm : String} {code code' : ByteArray} {ml ml' : Nat} {ret ret' : Option FieldType} {r : Option Value × List (St × Nat)} {pc : Nat} {L : List (Option Value)} {st st0 : List Value} {W W' : List (St × Nat)}
theorem capL (K : CtxL X Z a0 C FS FA nA kk l0 n1 sc H0 ce rm kc1 ks1 own nm code ml ret) (h1 : (ce W).1 ≤ kc1) (h2 : (ce W).2 ≤ ks1) : Cap X W := by
  obtain ⟨p, l, e, R, s, m, args, below, meth, c, ad, INV, CE, n0, kc, ks⟩ := X
  obtain ⟨-, -, -, rfl, rfl, rfl, rfl, -, rfl, rfl, rfl, rfl⟩ := K
  exact ⟨h1, h2⟩
theorem ctxl_sz (K : CtxL X Z a0 C FS FA nA kk l0 n1 sc H0 ce rm kc1 ks1 own nm code ml ret) : H0.size = n1 := by
  obtain ⟨p, l, e, R, s, m, args, below, meth, c, ad, INV, CE, n0, kc, ks⟩ := X
  obtain ⟨-, -, -, rfl, rfl, rfl, rfl, hH, -⟩ := K
  exact hH
theorem ws_ne {n0 nA i i' k x : Nat} (hi : i ≠ i') (hk : k ≤ nA) (hx : x ∈ wsOf (n0 + i' * (nA + 1)) nA) : n0 + i * (nA + 1) + k ≠ x := by
  have := of_ws hx
  intro e
  subst e
  rcases Nat.lt_or_gt_of_ne hi with q | q
  · have : (i + 1) * (nA + 1) ≤ i' * (nA + 1) := Nat.mul_le_mul_right _ q
    rw [Nat.add_mul] at this; omega
  · have : (i' + 1) * (nA + 1) ≤ i * (nA + 1) := Nat.mul_le_mul_right _ q
    rw [Nat.add_mul] at this; omega
theorem sizeW_set {i : Nat} {x y : St × Nat} (hi : W[i]? = some x) (hxy : y.2 = x.2) : sizeW (W.set i y) = sizeW W := by
  induction W generalizing i with
  | nil => simp at hi
  | cons w r ih =>
    cases i with
    | zero => simp at hi; subst hi; simp [sizeW, hxy]
    | succ i => simp at hi; have := ih hi; simp [sizeW] at this ⊢; omega
/-- object i, at its last stage or in the making, is changed by a call that keeps to its own cells -/
theorem INVl.upd (G : layGood FS FA nA = true) {h h' : Heap} (I : INVl Z C FS FA nA n1 H0 W h) {i : Nat} {x y : St × Nat} (hi : W[i]? = some x) (hR : Rep Z C FS FA (n1 + i * (nA + 1)) y.2 h' y.1) (hK : Keep h h' (wsOf (n1 + i * (nA + 1)) nA)) (hs : h'.size = n1 + sizeW (W.set i y)) (hH : H0.size = n1) : INVl Z C FS FA nA n1 H0 (W.set i y) h' := by
  obtain ⟨g1, g2, g3⟩ := I
  refine ⟨fun k z hz => ?_, hs, ?_⟩
  · by_cases e : k = i
    · subst e
      rw [List.getElem?_set_self (List.getElem?_eq_some_iff.mp hi).1] at hz
      cases hz; exact hR
    · rw [List.getElem?_set_ne (Ne.symm e)] at hz
      exact (g1 k z hz).keep' G hK fun q hq hm => ws_ne e hq hm rfl
  · refine ⟨Nat.le_trans g3.1 hK.1, fun x c hx => hK.2.1 x c (g3.2 x c hx) fun hm => ?_⟩
    have := of_ws hm
    have := (Array.getElem?_eq_some_iff.mp hx).1
    have : n1 ≤ n1 + i * (nA + 1) := Nat.le_add_right _ _
    omega
theorem l_new (K : CtxL X Z a0 C FS FA nA kk l0 n1 sc H0 (ceL kk FA) rm kc1 ks1 own nm code ml ret) {idx : Nat} (hd : decode code pc = .ok (.new idx, 3)) (w : (Cond.classLink own idx C).before a0 Z = true) (hW : sizeW W = W.length * (nA + 1)) (hl : W.length ≠ 100) (hs : hsz X = n1)
    (hc0 : (ceI FA 0).2 = 0) (hr1 : (ceL kk FA W).1 + 1 ≤ rm.cells) (hr2 : (ceL kk FA W).2 + kk ≤ rm.slots) {i : Nat} (hi : W.length = i) (h : Go X r (pc + 3) L (.ref i :: st) (W ++ [(z0, 0)])) : Go X r pc L st W := by
  obtain ⟨p, l, e, R, s, m, args, below, meth, c, ad, INV, CE, n0, kc, ks⟩ := X
  have hs0 : s.heap.size = n1 := hs
  obtain ⟨⟨hx, hby, hcm, hown, hZ, -⟩, hL, G, rfl, rfl, rfl, rfl, hH, rfl, rfl, rfl, rfl⟩ := K
  subst hi
  intro T locs A Y N I LO
  obtain ⟨T', h', Y', e', E', A', D', -, st'⟩ := newO Y hx hZ hown w hL.2.1 hL.2.2 rfl (g := mkF m pc A (st.map (up (adL sc n0 nA)))) rfl (hb hby hd) hr1 hr2
  have hsz : T.heap.size = n0 + W.length * (nA + 1) := by rw [← hW]; exact I.2.1
  rw [hsz] at A' D' st'
  have hR : Rep Z C FS FA (n0 + W.length * (nA + 1)) 0 h' z0 := by
    refine ⟨A', fun f hf => ?_, fun q hq hq0 => absurd (lay_pos G hq).1 (by omega)⟩
    obtain ⟨t, ht, hdv⟩ := lay_desc G hf
    have := D' (hL.1 f hf) ht
    rw [hdv] at this
    have e1 : fval (n0 + W.length * (nA + 1)) 0 z0 f = fval 0 0 z0 f := by
      unfold fval
      split
      · rfl
      · rfl
      · rename_i hk0 hk1
        by_cases z : f.1 ≤ 0
        · exfalso
          have hd2 := lay_desc G hf
          obtain ⟨t2, ht2, hv2⟩ := hd2
          unfold fval at hv2
          split at hv2
          · contradiction
          · contradiction
          · rw [if_pos z] at hv2; cases t2 <;> simp [defaultValue] at hv2
        · rw [if_neg z, if_neg z]
    rw [e1]; exact this
  have hs2 : h'.size = n0 + sizeW (W ++ [(z0, 0)]) := by
    have q1 : T'.heap.size ≤ s.heap.size + ((ceL kk FA W).1 + 1) := Y'.heapSize
    have q2 : n0 + W.length * (nA + 1) < h'.size := A'.lt
    have q3 : (ceL kk FA W).1 = W.length * (nA + 1) := (ceL_1 _ _ _).trans hW
    rw [e', hs0, q3] at q1
    have q4 : sizeW (W ++ [(z0, 0)]) = sizeW W + 1 := by simp [sizeW]
    rw [q4, hW]
    generalize W.length * (nA + 1) = P at q1 q2 ⊢
    have q5 : h'.size ≤ n0 + (P + 1) := q1
    omega
  obtain ⟨s₂, h1, h2⟩ := h T' locs A (by
      have q1 : (ceL kk FA (W ++ [(z0, 0)])) = ((ceL kk FA W).1 + 1, (ceL kk FA W).2 + kk) := by simp [ceL, ceJ, hc0]
      rw [q1]; exact Y') N (by
      rw [e']
      refine ⟨fun k z hz => ?_, hs2, ⟨Nat.le_trans I.2.2.1 E'.1, fun x c hx => E'.2 x c (I.2.2.2 x c hx)⟩⟩
      by_cases q : k < W.length
      · rw [List.getElem?_append_left q] at hz; exact (I.1 k z hz).ext E'
      · rw [List.getElem?_append_right (Nat.le_of_not_lt q)] at hz
        have : k - W.length = 0 := by
          have := (List.getElem?_eq_some_iff.mp hz).1; simpa using this
        have hk : k = W.length := by omega
        subst hk
        simp at hz; subst hz; exact hR) LO
  refine ⟨s₂, st' _ ?_, h2⟩
  have e2 : up (adL sc n0 nA) (.ref W.length) = .ref (n0 + W.length * (nA + 1)) := by simp [up, adL, hl]
  rw [List.map_cons, e2] at h1
  exact h1
theorem l_init (K : CtxL X Z a0 C FS FA nA kk l0 n1 sc H0 (ceL kk FA) rm kc1 ks1 own nm code ml ret) {idx : Nat} {d : String} {ps : List FieldType} {rt : Option FieldType} (hd : decode code pc = .ok (.invokespecial idx, 3)) (w1 : (Cond.methodLink own idx ⟨C, "<init>", d⟩).before a0 Z = true) (w2 : (Cond.instanceMethod ⟨C, "<init>", d⟩).before a0 Z = true)
    (w4 : (Jvm.Cond.code ⟨C, "<init>", d⟩ code' ml' none).before a0 Z = true) (hy : C ≠ "java/lang/invoke/MethodHandle" ∧ C ≠ "java/lang/invoke/VarHandle") (hpd : parseMethodDescriptor d = some ⟨ps, rt⟩) {vs : List Value} (hvs : ∀ v ∈ vs, v.isRef = false) {i : Nat} (hst : vs.reverse ++ .ref i :: st = st0) (hlen : vs.length = ps.length) {σ' : St} {W0 : List (St × Nat)} (hW : W = W0 ++ [(z0, 0)]) (hi : W0.length = i) (hi' : i ≠ 100) (hsz : sizeW W0 = i * (nA + 1)) (hW' : W0 ++ [(σ', nA)] = W')
    (con : ConI l0 Z C FS FA nA n1 (n1 + i * (nA + 1)) ⟨C, "<init>", d⟩ code' ml' rm' (.ref 0 :: vs) σ') (hml : L.length = ml) (hr1 : rm'.frames + 1 ≤ rm.frames) (hr2 : (st.map fun v => v.category).sum + (ml' + 11) + rm'.locals ≤ rm.locals) (hr3 : rm'.cells = nA) (hr4 : rm'.slots = (ceI FA nA).2) (hc0 : (ceI FA 0).2 = 0) (hr5 : (ceL kk FA W').1 ≤ rm.cells) (hr6 : (ceL kk FA W').2 ≤ rm.slots)
    (h : Go X r (pc + 3) L st W') : Go X r pc L st0 W := by
  obtain ⟨p, l, e, R, s, m, args, below, meth, c, ad, INV, CE, n0, kc, ks⟩ := X
  obtain ⟨⟨hx, hby, hcm, hown, hZ, -⟩, hL, G, rfl, rfl, rfl, rfl, hH, rfl, rfl, rfl, rfl⟩ := K
  subst hi hW hst hW'
  intro T locs A Y N I LO
  have hWi : (W0 ++ [(z0, 0)])[W0.length]? = some (z0, 0) := by simp
  have hR := I.1 _ _ hWi
  have hT : T.heap.size = n0 + W0.length * (nA + 1) + 1 := by
    have q1 := I.2.1
    have q4 : sizeW (W0 ++ [(z0, 0)]) = sizeW W0 + 1 := by simp [sizeW]
    omega
  have c1 : ceL kk FA (W0 ++ [(σ', nA)]) = ((ceL kk FA (W0 ++ [(z0, 0)])).1 + nA, (ceL kk FA (W0 ++ [(z0, 0)])).2 + (ceI FA nA).2) := by
    simp [ceL, ceJ, hc0]; omega
  have hup : ∀ v ∈ vs, up (adL sc n0 nA) v = up (fun k => n0 + W0.length * (nA + 1) + k) v := fun v hv => by
    have := hvs v hv
    cases v <;> simp [Value.isRef, up] at this ⊢
  have eup : vs.map (up (adL sc n0 nA)) = vs.map (up (fun k => n0 + W0.length * (nA + 1) + k)) := List.map_congr_left hup
  have e0 : up (adL sc n0 nA) (.ref W0.length) = .ref (n0 + W0.length * (nA + 1)) := by simp [up, adL, hi']
  obtain ⟨w, vm₁, ⟨T', L', k', n'⟩, -, Y', ⟨Lc, ⟨q1, q2, q3, q4, q5⟩, l', y', z'⟩, st'⟩ := Y.specialBack hx (y := ⟨C, "<init>", d⟩) rfl hown (mvT hZ w1) (mvT hZ w2) (mvT hZ w4) hy
    (MetP.back (W := (st.map fun v => v.category).sum) (con [] T.heap hT hR) hZ w4 hL.2.2 hr1 hr2) (g := mkF m pc A ((vs.reverse ++ .ref W0.length :: st).map (up (adL sc n0 nA)))) rfl (by rw [hcm, ← hml]; exact LO.1) (Steps.refl _) (a := n0 + W0.length * (nA + 1))
    (argsL := vs.map (up (adL sc n0 nA))) (rest := st.map (up (adL sc n0 nA))) (lenOf hpd (by rw [List.length_map]; exact hlen)) (by simp [e0]) (by rw [up_cats]; show 2 * 0 + _ ≤ _; omega) (hb hby hd) (fun _ _ => ⟨by rw [eup]; simp [up], rfl, by show _ + rm'.cells ≤ _; rw [hr3]; rw [c1] at hr5; exact hr5, by show _ + rm'.slots ≤ _; rw [hr4]; rw [c1] at hr6; exact hr6⟩)
  dsimp only [Pt.U, Pt.locs, Pt.cells, Pt.slots] at Y' l' y' z' st' q1 q3 q4 q5
  subst l' y' z' q1
  have eW : (W0 ++ [(z0, 0)]).set W0.length (σ', nA) = W0 ++ [(σ', nA)] := by simp
  obtain ⟨s₂, h1, h2⟩ := h T' _ A (by rw [c1]; simpa [hr3, hr4] using Y') (N.app q2) (by
      have := I.upd G hWi (y := (σ', nA)) q3 q4 (by rw [q5, hT, eW]; simp [sizeW] at hsz ⊢; omega) hH
      rw [eW] at this; exact this) LO
  exact ⟨s₂, st'.trans h1, h2⟩
theorem l_call (K : CtxL X Z a0 C FS FA nA kk l0 n1 sc H0 ce rm kc1 ks1 own nm code ml ret) {idx : Nat} {n d : String} {ps : List FieldType} {rt : Option FieldType} (hd : decode code pc = .ok (.invokevirtual idx, 3)) (w1 : (Cond.methodLink own idx ⟨C, n, d⟩).before a0 Z = true) (w2 : (Cond.instanceMethod ⟨C, n, d⟩).before a0 Z = true)
    (w3 : (Cond.declares ⟨C, n, d⟩).before a0 Z = true) (w3' : (Cond.selects C ⟨C, n, d⟩ ⟨C, n, d⟩).before a0 Z = true) (w4 : (Jvm.Cond.code ⟨C, n, d⟩ code' ml' ret').before a0 Z = true) (hy : C ≠ "java/lang/invoke/MethodHandle" ∧ C ≠ "java/lang/invoke/VarHandle") (hpd : parseMethodDescriptor d = some ⟨ps, rt⟩) {vs : List Value} (hvs : ∀ v ∈ vs, v.isRef = false) {i : Nat} (hi' : i ≠ 100) (hst : vs.reverse ++ .ref i :: st = st0) (hlen : vs.length = ps.length)
    {v : Option Value} (hv : ∀ u, v = some u → u.isRef = false) {σ σ' : St} (hi : W[i]? = some (σ, nA)) (hW' : W.set i (σ', nA) = W') (con : Con l0 Z C FS FA nA n1 (n1 + i * (nA + 1)) ⟨C, n, d⟩ code' ml' ret' rm' (.ref 0 :: vs) σ v σ') (hml : L.length = ml) (hr1 : rm'.frames + 1 ≤ rm.frames) (hr2 : (st.map fun v => v.category).sum + (ml' + 11) + rm'.locals ≤ rm.locals) (hr3 : rm'.cells = 0) (hr4 : rm'.slots = 0)
    (hce : ce W' = ce W) (hr5 : (ce W).1 ≤ rm.cells) (hr6 : (ce W).2 ≤ rm.slots) (h : Go X r (pc + 3) L (v.toList ++ st) W') : Go X r pc L st0 W := by
  obtain ⟨p, l, e, R, s, m, args, below, meth, c, ad, INV, CE, n0, kc, ks⟩ := X
  obtain ⟨⟨hx, hby, hcm, hown, hZ, -⟩, hL, G, rfl, rfl, rfl, rfl, hH, rfl, rfl, rfl, rfl⟩ := K
  subst hst hW'
  intro T locs A Y N I LO
  have hR := I.1 _ _ hi
  obtain ⟨cq, kq, qa, qb, qc⟩ := isOf hZ rfl hR.1
  have hup : ∀ v ∈ vs, up (adL sc n0 nA) v = up (fun k => n0 + i * (nA + 1) + k) v := fun v hv => by
    have := hvs v hv
    cases v <;> simp [Value.isRef, up] at this ⊢
  have eup : vs.map (up (adL sc n0 nA)) = vs.map (up (fun k => n0 + i * (nA + 1) + k)) := List.map_congr_left hup
  have e0 : up (adL sc n0 nA) (.ref i) = .ref (n0 + i * (nA + 1)) := by simp [up, adL, hi']
  obtain ⟨w, vm₁, ⟨T', L', k', n'⟩, -, Y', ⟨Lc, ⟨q1, q2, q3, q4, q5⟩, l', y', z'⟩, st'⟩ := Y.virtualBack hx (y := ⟨C, n, d⟩) (z := ⟨C, n, d⟩) hown (mvT hZ w1) (mvT hZ w3) (notFace_of_selects (args := #[]) (mvT hZ w3')) (mvT hZ w3') (mvT hZ w2) hy
    (MetP.back (W := (st.map fun v => v.category).sum) (con [] T.heap hR) hZ w4 hL.2.2 hr1 hr2) qa qc (g := mkF m pc A ((vs.reverse ++ .ref i :: st).map (up (adL sc n0 nA)))) rfl (by rw [hcm, ← hml]; exact LO.1) (Steps.refl _)
    (argsL := vs.map (up (adL sc n0 nA))) (rest := st.map (up (adL sc n0 nA))) (lenOf hpd (by rw [List.length_map]; exact hlen)) (by simp [e0]) (by rw [up_cats]; show 2 * 0 + _ ≤ _; omega) (hb hby hd) (fun _ _ => ⟨by rw [eup]; simp [up], rfl, by show _ + rm'.cells ≤ _; rw [hr3]; exact hr5, by show _ + rm'.slots ≤ _; rw [hr4]; exact hr6⟩)
  dsimp only [Pt.U, Pt.locs, Pt.cells, Pt.slots] at Y' l' y' z' st' q1 q3 q4 q5
  subst l' y' z' q1
  obtain ⟨s₂, h1, h2⟩ := h T' _ A (by rw [hce]; simpa [hr3, hr4] using Y') (N.app q2) (I.upd G hi (y := (σ', nA)) q3 q4 (by rw [q5, sizeW_set (y := (σ', nA)) hi rfl]; exact I.2.1) hH) LO
  refine ⟨s₂, st'.trans ?_, h2⟩
  have e1 : (v.toList ++ st).map (up (adL sc n0 nA)) = (v.map (up fun k => n0 + i * (nA + 1) + k)).toList ++ st.map (up (adL sc n0 nA)) := by
    cases v with
    | none => simp
    | some u => have := hv u rfl; cases u <;> simp [Value.isRef, up] at this ⊢
  rw [e1] at h1
  exact h1
theorem l_static (K : CtxL X Z a0 C FS FA nA kk l0 n1 sc H0 ce rm kc1 ks1 own nm code ml ret) {idx : Nat} {n d : String} {ps : List FieldType} {rt : Option FieldType} (hd : decode code pc = .ok (.invokestatic idx, 3)) (w1 : (Cond.methodLink own idx ⟨own, n, d⟩).before a0 Z = true) (w2 : (Cond.static ⟨own, n, d⟩).before a0 Z = true)
    (wz : (Cond.initialized own).before a0 Z = true) (w4 : (Jvm.Cond.code ⟨own, n, d⟩ code' ml' ret').before a0 Z = true) (hy : own ≠ "java/lang/invoke/MethodHandle" ∧ own ≠ "java/lang/invoke/VarHandle") (hpd : parseMethodDescriptor d = some ⟨ps, rt⟩) {vs : List Value} (hst : vs.reverse ++ st = st0) (hlen : vs.length = ps.length)
    {v : Option Value} (con : ConL l0 Z C FS FA nA n1 sc H0 ⟨own, n, d⟩ code' ml' ret' rm' vs W v W') (hml : L.length = ml) (hr1 : rm'.frames + 1 ≤ rm.frames) (hr2 : (st.map fun v => v.category).sum + (ml' + 11) + rm'.locals ≤ rm.locals) (hr3 : rm'.cells = 0) (hr4 : rm'.slots = 0)
    (hce : ce W' = ce W) (hr5 : (ce W).1 ≤ rm.cells) (hr6 : (ce W).2 ≤ rm.slots) (h : Go X r (pc + 3) L (v.toList ++ st) W') : Go X r pc L st0 W := by
  obtain ⟨p, l, e, R, s, m, args, below, meth, c, ad, INV, CE, n0, kc, ks⟩ := X
  obtain ⟨⟨hx, hby, hcm, hown, hZ, -⟩, hL, G, rfl, rfl, rfl, rfl, hH, rfl, rfl, rfl, rfl⟩ := K
  subst hst
  intro T locs A Y N I LO
  obtain ⟨w, vm₁, ⟨T', L', k', n'⟩, -, Y', ⟨Lc, ⟨q1, q2, q3⟩, l', y', z'⟩, st'⟩ := Jvm.LawKit.callS Y hx (y := ⟨own, n, d⟩) hown (mvT hZ w1) (mvT hZ w2) (mvT hZ wz) (mvT hZ w4) hy
    (MetP.back (W := (st.map fun v => v.category).sum) (con [] T.heap I) hZ w4 wz hr1 hr2) (g := mkF m pc A ((vs.reverse ++ st).map (up (adL sc n0 nA)))) rfl (by rw [hcm, ← hml]; exact LO.1)
    (argsL := vs.map (up (adL sc n0 nA))) (rest := st.map (up (adL sc n0 nA))) (lenOf hpd (by rw [List.length_map]; exact hlen)) (by simp) (by rw [up_cats]; show 2 * 0 + _ ≤ _; omega) (hb hby hd) (fun _ _ => ⟨rfl, rfl, by show _ + rm'.cells ≤ _; rw [hr3]; exact hr5, by show _ + rm'.slots ≤ _; rw [hr4]; exact hr6⟩)
  dsimp only [Pt.U, Pt.locs, Pt.cells, Pt.slots] at Y' l' y' z' st' q1 q3
  subst l' y' z' q1
  obtain ⟨s₂, h1, h2⟩ := h T' _ A (by rw [hce]; simpa [hr3, hr4] using Y') (N.app q2) q3 LO
  refine ⟨s₂, st' _ ?_, h2⟩
  have e1 : (v.toList ++ st).map (up (adL sc n0 nA)) = (v.map (up (adL sc n0 nA))).toList ++ st.map (up (adL sc n0 nA)) := by cases v <;> simp
  rw [e1] at h1
  exact h1
theorem l_len (K : CtxL X Z a0 C FS FA nA kk l0 n1 sc H0 ce rm kc1 ks1 own nm code ml ret) {z : Int32} {f : Int → Int32} (hS : Script Z H0 sc z f) (hd : decode code pc = .ok (.arraylength, 1)) (h : Go X r (pc + 1) L (.int z :: st) W) : Go X r pc L (.ref 100 :: st) W := by
  obtain ⟨p, l, e, R, s, m, args, below, meth, c, ad, INV, CE, n0, kc, ks⟩ := X
  obtain ⟨⟨hx, hby, hcm, hown, hZ, -⟩, hL, G, rfl, rfl, rfl, rfl, hH, rfl, rfl, rfl, rfl⟩ := K
  intro T locs A Y N I LO
  obtain ⟨cl, F1, F2, F3, F4⟩ := hS
  obtain ⟨s₂, h1, h2⟩ := h T locs A Y N I LO
  have ez : cl.slots.size.toInt32 = z := by
    rw [F2]; exact (back32 (by rw [Int32.lt_iff_toInt_lt]; have e0 : (0 : Int32).toInt = 0 := rfl; omega)).1
  refine ⟨s₂, Y.arraylength hx (I.2.2.2 _ _ F1.1) (State.isArrayOf_alike hZ.alike F1.2.1) (g := mkF m pc A ((Value.ref 100 :: st).map (up (adL sc n0 nA)))) rfl rfl (hb hby hd) _ ?_, h2⟩
  rw [ez]; exact h1
theorem l_iaload (K : CtxL X Z a0 C FS FA nA kk l0 n1 sc H0 ce rm kc1 ks1 own nm code ml ret) {z i : Int32} {f : Int → Int32} (hS : Script Z H0 sc z f) (hd : decode code pc = .ok (.iaload, 1)) (hi : 0 ≤ i.toInt ∧ i.toInt < z.toInt) (h : Go X r (pc + 1) L (.int (f i.toInt) :: st) W) : Go X r pc L (.int i :: .ref 100 :: st) W := by
  obtain ⟨p, l, e, R, s, m, args, below, meth, c, ad, INV, CE, n0, kc, ks⟩ := X
  obtain ⟨⟨hx, hby, hcm, hown, hZ, -⟩, hL, G, rfl, rfl, rfl, rfl, hH, rfl, rfl, rfl, rfl⟩ := K
  intro T locs A Y N I LO
  obtain ⟨cl, F1, F2, F3, F4⟩ := hS
  obtain ⟨s₂, h1, h2⟩ := h T locs A Y N I LO
  have hz : (z.toNatClampNeg : Int) = z.toInt := by simp only [Int32.toNatClampNeg]; omega
  exact ⟨s₂, Y.iaload hx (I.2.2.2 _ _ F1.1) (State.isArrayOf_alike hZ.alike F1.2.1) F1.2.2 (inb F2 hi.1 (by omega)) (at_arr F4 hi.1 (by omega)) (g := mkF m pc A ((Value.int i :: .ref 100 :: st).map (up (adL sc n0 nA)))) rfl rfl (hb hby hd) _ h1, h2⟩
end RulesL
theorem Script.le0 {Z : State} {H0 : Heap} {sc : Nat} {z : Int32} {f : Int → Int32} (h : Script Z H0 sc z f) : 0 ≤ z.toInt := by obtain ⟨_, -, -, q, -⟩ := h; exact q
theorem script_start {s : State} {args : Array Value} {sc : Nat} {n : Int32} (hf : Fit s) (esc : (Term.arg 0).eval args s none [] s = some (.ref sc)) (nA : (Cond.arrayOf (.arg 0) .int).value args s none s [] = some true) (nL : (Cond.le (.length (.arg 0)) (.int n)).value args s none s [] = some true) :
    ∃ (z : Int32) (f : Int → Int32), Script s s.heap sc z f ∧ z.toInt ≤ n.toInt := by
  obtain ⟨cl, A⟩ := Arr.start esc nA
  obtain ⟨x, y, ex, ey, -, -⟩ := cmp_v (r := true) (Or.inr (Or.inr nL))
  obtain ⟨sd, SA, hev, harrAt, -⟩ := Term.length_spec ex
  cases esc.symm.trans hev
  have h31 := SBG.length_lt hev harrAt ex
  have e1 := A.fin (Vm.Alike.refl _)
  cases e1.symm.trans harrAt
  obtain ⟨z, hz, S⟩ := Scr.start hf A h31
  obtain ⟨-, S2, S3, S4⟩ := S
  have e0 : (0 : Int32).toInt = 0 := rfl
  rw [Int32.lt_iff_toInt_lt, e0] at S3
  refine ⟨z, fun i => atv cl (Int32.ofInt i), ⟨cl, A, S2, by omega, fun i hi => ?_⟩, ?_⟩
  · have hi2 : (i : Int) < 2 ^ 31 := by have := z.toInt_lt; simp only [Int32.toNatClampNeg] at hi; omega
    have e2 : (Int32.ofInt (i : Int)).toInt = i := Int32.toInt_ofInt_of_le (by omega) (by omega)
    have e3 : (Int32.ofInt (i : Int)).toNatClampNeg = i := by simp [Int32.toNatClampNeg, e2]
    have := S4 (Int32.ofInt (i : Int)) (by rw [Int32.lt_iff_toInt_lt, e0, e2, e3]; omega)
    rw [e3] at this; exact this
  · have q1 := len_f hev harrAt h31
    have q2 := gotT (Cond.le_ints q1 (Term.int_eval n)) nL
    rw [← hz] at q2
    exact Int32.le_iff_toInt_le.mp q2
end Jvm.OwnFlat
namespace Jvm.OwnFlat
open Jvm Jvm.ClassFile Jvm.RoadKit
/-! ## 8. ints -/
theorem lt_i {x y : Int32} : x < y ↔ x.toInt < y.toInt := Int32.lt_iff_toInt_lt
theorem eq_i32 {x y : Int32} : x = y ↔ x.toInt = y.toInt := Int32.toInt_inj.symm
theorem i_add {x y : Int32} (h1 : -2147483648 ≤ x.toInt + y.toInt) (h2 : x.toInt + y.toInt < 2147483648) : (x + y).toInt = x.toInt + y.toInt := by
  have q := c_iadd x y; have r := rng32 (x + y); omega
theorem i_sub {x y : Int32} (h1 : -2147483648 ≤ x.toInt - y.toInt) (h2 : x.toInt - y.toInt < 2147483648) : (x - y).toInt = x.toInt - y.toInt := by
  have q := c_isub x y; have r := rng32 (x - y); omega
theorem i_inc {x : Int32} (h : x.toInt < 2147483647) : (x + 1).toInt = x.toInt + 1 := by
  have e : (1 : Int32).toInt = 1 := rfl
  have r := rng32 x
  rw [i_add (by omega) (by omega), e]
theorem nar0 : nar .boolean 0 = 0 := by decide
theorem nar1 : nar .boolean 1 = 1 := by decide
theorem narc0 : nar .char 0 = 0 := by decide
/-- a loop that counts up to N -/
theorem loop_up {A R : Type} {l : Nat → Int32 → A → Option R} {w : (Int32 → A → Option R) → Int32 → A → Option R} (hl : ∀ n i x, l (n + 1) i x = w (l n) i x) (N : Int) (hN : N < 2147483648) (P : Int → A → Prop) (Q : Option R → Prop)
    (step : ∀ (k : Int32 → A → Option R) i x, 0 ≤ i.toInt → i.toInt < N → P i.toInt x → (∀ x', P (i.toInt + 1) x' → Q (k (i + 1) x')) → Q (w k i x))
    (done : ∀ (k : Int32 → A → Option R) i x, i.toInt = N → P N x → Q (w k i x)) :
    ∀ (n : Nat) (i : Int32) (x : A), 0 ≤ i.toInt → i.toInt ≤ N → P i.toInt x → N - i.toInt < n → Q (l n i x) := by
  intro n
  induction n with
  | zero => intro i x h0 h1 hp hn; omega
  | succ n ih =>
    intro i x h0 h1 hp hn
    rw [hl]
    by_cases h : i.toInt < N
    · refine step _ i x h0 h hp fun x' hx' => ?_
      have e := i_inc (x := i) (by omega)
      refine ih (i + 1) x' (by omega) (by omega) (by rw [e]; exact hx') (by omega)
    · have : i.toInt = N := by omega
      exact done _ i x this (this ▸ hp)
/-- n rounds of a loop's body -/
def iterS (body : Int → St → St) : Nat → St → St
  | 0, σ => σ
  | n + 1, σ => body n (iterS body n σ)
theorem for_loop {R : Type} {l : Nat → Int32 → St → Option R} {w : (Int32 → St → Option R) → Int32 → St → Option R} (hl : ∀ n i x, l (n + 1) i x = w (l n) i x) (N : Nat) (hN : (N : Int) < 2147483648) (body : Int → St → St) (fin : St → Option R)
    (hw : ∀ (k : Int32 → St → Option R) (i : Int32) (σ : St), 0 ≤ i.toInt → i.toInt < N → w k i σ = k (i + 1) (body i.toInt σ)) (hd : ∀ (k : Int32 → St → Option R) (i : Int32) (σ : St), i.toInt = N → w k i σ = fin σ) (NF : Nat) (hF : N < NF) (σ : St) : l NF 0 σ = fin (iterS body N σ) := by
  refine loop_up hl N hN (fun i x => x = iterS body i.toNat σ) (fun o => o = fin (iterS body N σ)) ?_ ?_ NF 0 σ (by decide) (by have e : (0 : Int32).toInt = 0 := rfl; omega) rfl (by have e : (0 : Int32).toInt = 0 := rfl; omega)
  · intro k i x h0 h1 hp ih
    rw [hw k i x h0 h1]
    refine ih _ ?_
    subst hp
    have e : (i.toInt + 1).toNat = i.toInt.toNat + 1 := by omega
    rw [e]
    show _ = body _ _
    rw [Int.toNat_of_nonneg h0]
  · intro k i x hi hp
    rw [hd k i x hi, hp]; rfl
/-- one array filled from 0 -/
def fillS (σ : St) (k : Nat) (N : Int) (g : Int → Int32) : St := (σ.1, σ.2.1, fun q j => if q = k ∧ 0 ≤ j ∧ j < N then g j else σ.2.2 q j)
theorem gI_fill (σ : St) (k q : Nat) (N : Int) (g : Int → Int32) : gI (fillS σ k N g) q = gI σ q := rfl
theorem gL_fill (σ : St) (k q : Nat) (N : Int) (g : Int → Int32) : gL (fillS σ k N g) q = gL σ q := rfl
theorem gA_fill (σ : St) (k q : Nat) (N j : Int) (g : Int → Int32) : gA (fillS σ k N g) q j = if q = k ∧ 0 ≤ j ∧ j < N then g j else gA σ q j := rfl
theorem fill_iter (σ : St) (k : Nat) (g : Int → Int32) (N : Nat) : iterS (fun i σ => sA σ k i (g i)) N σ = fillS σ k N g := by
  induction N with
  | zero =>
    show σ = _
    obtain ⟨a, b, c⟩ := σ
    simp only [fillS]
    congr 2
    funext q j
    rw [if_neg]; intro h; have := h.2.1; have := h.2.2; omega
  | succ n ih =>
    show sA (iterS _ n σ) k n (g n) = _
    rw [ih]
    simp only [fillS, sA]
    congr 2
    funext q j
    by_cases h1 : q = k
    · subst h1
      by_cases h2 : j = n
      · subst h2; simp; omega
      · simp only [h2, and_false, if_false, true_and]
        by_cases h3 : 0 ≤ j ∧ j < (n : Int)
        · rw [if_pos h3, if_pos (by omega)]
        · rw [if_neg h3, if_neg (by omega)]
    · simp [h1]
theorem fill_loop {R : Type} {l : Nat → Int32 → St → Option R} {w : (Int32 → St → Option R) → Int32 → St → Option R} (hl : ∀ n i x, l (n + 1) i x = w (l n) i x) (N : Nat) (hN : (N : Int) < 2147483648) (k : Nat) (g : Int → Int32) (fin : St → Option R)
    (hw : ∀ (kk : Int32 → St → Option R) (i : Int32) (σ : St), 0 ≤ i.toInt → i.toInt < N → w kk i σ = kk (i + 1) (sA σ k i.toInt (g i.toInt))) (hd : ∀ (kk : Int32 → St → Option R) (i : Int32) (σ : St), i.toInt = N → w kk i σ = fin σ) (NF : Nat) (hF : N < NF) (σ : St) : l NF 0 σ = fin (fillS σ k N g) := by
  rw [for_loop hl N hN (fun i σ => sA σ k i (g i)) fin hw hd NF hF σ, fill_iter]
end Jvm.OwnFlat
namespace Jvm.Pilot.@@N@@
open Jvm Jvm.ClassFile Sem Op Lib Jvm.Free Jvm.Stand Jvm.LawKit Jvm.RoadKit Jvm.OwnFlat Jvm.Pilot.@@N@@.Jvm.D
set_option maxRecDepth 65536
set_option maxHeartbeats 40000000
/-! class OptiCuckoo: slotKey=1; slotVal=2; version=3; owner=4; qOp=5; qKey=6; qVal=7; qLen=8; resKey=9; resStatus=10; resVal=11; resCount=12; phase=13; opIdx=14; cursor=15; lockMask=16; heldMask=17; retry=18; effectDone=19; seen=20; seenVal=21; firstVer=22; moveIdx=23; pathLen=24; pathBucket=25; pathSlot=26; bfsQueue=27; bfsParent=28; bfsParentSlot=29; bfsSeen=30; chain=31; phDone=119; phRead=120; phSearch=121; phLock=122; phCheck=123; phMove=124; phPlace=125; phClear=126; phUnlock=127; maxStripes=128; tableSlots=129; pathMax=130; readSteps=131; stepBudget=132; empty=133; nobody=134; cap=135; stripeCount=136; sizeCount=139; reservedCount=140 -/
def HW (a0 : Array Value) (Z : State) : Prop := ∀ d ∈ tables_1, d.before a0 Z = true
theorem w0 {a0 : Array Value} {Z : State} (hw : HW a0 Z) : (Jvm.Cond.classLink "OptiCuckooL2" 7 "OptiCuckoo").before a0 Z = true := hw _ (List.mem_of_getElem? (i := 0) rfl)
theorem w1 {a0 : Array Value} {Z : State} (hw : HW a0 Z) : (Jvm.Cond.instantiable "OptiCuckoo" 52).before a0 Z = true := hw _ (List.mem_of_getElem? (i := 1) rfl)
theorem w2 {a0 : Array Value} {Z : State} (hw : HW a0 Z) : (Jvm.Cond.initialized "OptiCuckoo").before a0 Z = true := hw _ (List.mem_of_getElem? (i := 2) rfl)
theorem w3 {a0 : Array Value} {Z : State} (hw : HW a0 Z) : (Jvm.Cond.methodLink "OptiCuckooL2" 9 ⟨"OptiCuckoo", "<init>", "(II)V"⟩).before a0 Z = true := hw _ (List.mem_of_getElem? (i := 3) rfl)
theorem w4 {a0 : Array Value} {Z : State} (hw : HW a0 Z) : (Jvm.Cond.instanceMethod ⟨"OptiCuckoo", "<init>", "(II)V"⟩).before a0 Z = true := hw _ (List.mem_of_getElem? (i := 4) rfl)
theorem w5 {a0 : Array Value} {Z : State} (hw : HW a0 Z) : (Jvm.Cond.code ⟨"OptiCuckoo", "<init>", "(II)V"⟩ prog_1_method_1_code 4 none).before a0 Z = true := hw _ (List.mem_of_getElem? (i := 5) rfl)
theorem w6 {a0 : Array Value} {Z : State} (hw : HW a0 Z) : (Jvm.Cond.methodLink "OptiCuckoo" 1 ⟨"java/lang/Object", "<init>", "()V"⟩).before a0 Z = true := hw _ (List.mem_of_getElem? (i := 6) rfl)
theorem w7 {a0 : Array Value} {Z : State} (hw : HW a0 Z) : (Jvm.Cond.instanceMethod ⟨"java/lang/Object", "<init>", "()V"⟩).before a0 Z = true := hw _ (List.mem_of_getElem? (i := 7) rfl)
theorem w8 {a0 : Array Value} {Z : State} (hw : HW a0 Z) : (Jvm.Cond.code ⟨"java/lang/Object", "<init>", "()V"⟩ object_method_1_code 1 none).before a0 Z = true := hw _ (List.mem_of_getElem? (i := 8) rfl)
theorem w9 {a0 : Array Value} {Z : State} (hw : HW a0 Z) : (Jvm.Cond.fieldLink "OptiCuckoo" 7 "OptiCuckoo" "phDone" "I").before a0 Z = true := hw _ (List.mem_of_getElem? (i := 9) rfl)
theorem w10 {a0 : Array Value} {Z : State} (hw : HW a0 Z) : (Jvm.Cond.laysFinal "OptiCuckoo" "OptiCuckoo" "phDone" "I").before a0 Z = true := hw _ (List.mem_of_getElem? (i := 10) rfl)
theorem w11 {a0 : Array Value} {Z : State} (hw : HW a0 Z) : (Jvm.Cond.fieldLink "OptiCuckoo" 13 "OptiCuckoo" "phRead" "I").before a0 Z = true := hw _ (List.mem_of_getElem? (i := 11) rfl)
theorem w12 {a0 : Array Value} {Z : State} (hw : HW a0 Z) : (Jvm.Cond.laysFinal "OptiCuckoo" "OptiCuckoo" "phRead" "I").before a0 Z = true := hw _ (List.mem_of_getElem? (i := 12) rfl)
theorem w13 {a0 : Array Value} {Z : State} (hw : HW a0 Z) : (Jvm.Cond.fieldLink "OptiCuckoo" 16 "OptiCuckoo" "phSearch" "I").before a0 Z = true := hw _ (List.mem_of_getElem? (i := 13) rfl)
theorem w14 {a0 : Array Value} {Z : State} (hw : HW a0 Z) : (Jvm.Cond.laysFinal "OptiCuckoo" "OptiCuckoo" "phSearch" "I").before a0 Z = true := hw _ (List.mem_of_getElem? (i := 14) rfl)
theorem w15 {a0 : Array Value} {Z : State} (hw : HW a0 Z) : (Jvm.Cond.fieldLink "OptiCuckoo" 19 "OptiCuckoo" "phLock" "I").before a0 Z = true := hw _ (List.mem_of_getElem? (i := 15) rfl)
theorem w16 {a0 : Array Value} {Z : State} (hw : HW a0 Z) : (Jvm.Cond.laysFinal "OptiCuckoo" "OptiCuckoo" "phLock" "I").before a0 Z = true := hw _ (List.mem_of_getElem? (i := 16) rfl)
theorem w17 {a0 : Array Value} {Z : State} (hw : HW a0 Z) : (Jvm.Cond.fieldLink "OptiCuckoo" 22 "OptiCuckoo" "phCheck" "I").before a0 Z = true := hw _ (List.mem_of_getElem? (i := 17) rfl)
theorem w18 {a0 : Array Value} {Z : State} (hw : HW a0 Z) : (Jvm.Cond.laysFinal "OptiCuckoo" "OptiCuckoo" "phCheck" "I").before a0 Z = true := hw _ (List.mem_of_getElem? (i := 18) rfl)
theorem w19 {a0 : Array Value} {Z : State} (hw : HW a0 Z) : (Jvm.Cond.fieldLink "OptiCuckoo" 25 "OptiCuckoo" "phMove" "I").before a0 Z = true := hw _ (List.mem_of_getElem? (i := 19) rfl)
theorem w20 {a0 : Array Value} {Z : State} (hw : HW a0 Z) : (Jvm.Cond.laysFinal "OptiCuckoo" "OptiCuckoo" "phMove" "I").before a0 Z = true := hw _ (List.mem_of_getElem? (i := 20) rfl)
theorem w21 {a0 : Array Value} {Z : State} (hw : HW a0 Z) : (Jvm.Cond.fieldLink "OptiCuckoo" 28 "OptiCuckoo" "phPlace" "I").before a0 Z = true := hw _ (List.mem_of_getElem? (i := 21) rfl)
theorem w22 {a0 : Array Value} {Z : State} (hw : HW a0 Z) : (Jvm.Cond.laysFinal "OptiCuckoo" "OptiCuckoo" "phPlace" "I").before a0 Z = true := hw _ (List.mem_of_getElem? (i := 22) rfl)
theorem w23 {a0 : Array Value} {Z : State} (hw : HW a0 Z) : (Jvm.Cond.fieldLink "OptiCuckoo" 31 "OptiCuckoo" "phClear" "I").before a0 Z = true := hw _ (List.mem_of_getElem? (i := 23) rfl)
theorem w24 {a0 : Array Value} {Z : State} (hw : HW a0 Z) : (Jvm.Cond.laysFinal "OptiCuckoo" "OptiCuckoo" "phClear" "I").before a0 Z = true := hw _ (List.mem_of_getElem? (i := 24) rfl)
theorem w25 {a0 : Array Value} {Z : State} (hw : HW a0 Z) : (Jvm.Cond.fieldLink "OptiCuckoo" 34 "OptiCuckoo" "phUnlock" "I").before a0 Z = true := hw _ (List.mem_of_getElem? (i := 25) rfl)
theorem w26 {a0 : Array Value} {Z : State} (hw : HW a0 Z) : (Jvm.Cond.laysFinal "OptiCuckoo" "OptiCuckoo" "phUnlock" "I").before a0 Z = true := hw _ (List.mem_of_getElem? (i := 26) rfl)
theorem w27 {a0 : Array Value} {Z : State} (hw : HW a0 Z) : (Jvm.Cond.fieldLink "OptiCuckoo" 37 "OptiCuckoo" "maxStripes" "I").before a0 Z = true := hw _ (List.mem_of_getElem? (i := 27) rfl)
theorem w28 {a0 : Array Value} {Z : State} (hw : HW a0 Z) : (Jvm.Cond.laysFinal "OptiCuckoo" "OptiCuckoo" "maxStripes" "I").before a0 Z = true := hw _ (List.mem_of_getElem? (i := 28) rfl)
theorem w29 {a0 : Array Value} {Z : State} (hw : HW a0 Z) : (Jvm.Cond.fieldLink "OptiCuckoo" 40 "OptiCuckoo" "tableSlots" "I").before a0 Z = true := hw _ (List.mem_of_getElem? (i := 29) rfl)
theorem w30 {a0 : Array Value} {Z : State} (hw : HW a0 Z) : (Jvm.Cond.laysFinal "OptiCuckoo" "OptiCuckoo" "tableSlots" "I").before a0 Z = true := hw _ (List.mem_of_getElem? (i := 30) rfl)
theorem w31 {a0 : Array Value} {Z : State} (hw : HW a0 Z) : (Jvm.Cond.fieldLink "OptiCuckoo" 43 "OptiCuckoo" "pathMax" "I").before a0 Z = true := hw _ (List.mem_of_getElem? (i := 31) rfl)
theorem w32 {a0 : Array Value} {Z : State} (hw : HW a0 Z) : (Jvm.Cond.laysFinal "OptiCuckoo" "OptiCuckoo" "pathMax" "I").before a0 Z = true := hw _ (List.mem_of_getElem? (i := 32) rfl)
theorem w33 {a0 : Array Value} {Z : State} (hw : HW a0 Z) : (Jvm.Cond.fieldLink "OptiCuckoo" 46 "OptiCuckoo" "readSteps" "I").before a0 Z = true := hw _ (List.mem_of_getElem? (i := 33) rfl)
theorem w34 {a0 : Array Value} {Z : State} (hw : HW a0 Z) : (Jvm.Cond.laysFinal "OptiCuckoo" "OptiCuckoo" "readSteps" "I").before a0 Z = true := hw _ (List.mem_of_getElem? (i := 34) rfl)
theorem w35 {a0 : Array Value} {Z : State} (hw : HW a0 Z) : (Jvm.Cond.constant "OptiCuckoo" 49 (200000)).before a0 Z = true := hw _ (List.mem_of_getElem? (i := 35) rfl)
theorem w36 {a0 : Array Value} {Z : State} (hw : HW a0 Z) : (Jvm.Cond.fieldLink "OptiCuckoo" 50 "OptiCuckoo" "stepBudget" "I").before a0 Z = true := hw _ (List.mem_of_getElem? (i := 36) rfl)
theorem w37 {a0 : Array Value} {Z : State} (hw : HW a0 Z) : (Jvm.Cond.laysFinal "OptiCuckoo" "OptiCuckoo" "stepBudget" "I").before a0 Z = true := hw _ (List.mem_of_getElem? (i := 37) rfl)
theorem w38 {a0 : Array Value} {Z : State} (hw : HW a0 Z) : (Jvm.Cond.fieldLink "OptiCuckoo" 53 "OptiCuckoo" "empty" "I").before a0 Z = true := hw _ (List.mem_of_getElem? (i := 38) rfl)
theorem w39 {a0 : Array Value} {Z : State} (hw : HW a0 Z) : (Jvm.Cond.laysFinal "OptiCuckoo" "OptiCuckoo" "empty" "I").before a0 Z = true := hw _ (List.mem_of_getElem? (i := 39) rfl)
theorem w40 {a0 : Array Value} {Z : State} (hw : HW a0 Z) : (Jvm.Cond.fieldLink "OptiCuckoo" 56 "OptiCuckoo" "nobody" "I").before a0 Z = true := hw _ (List.mem_of_getElem? (i := 40) rfl)
theorem w41 {a0 : Array Value} {Z : State} (hw : HW a0 Z) : (Jvm.Cond.laysFinal "OptiCuckoo" "OptiCuckoo" "nobody" "I").before a0 Z = true := hw _ (List.mem_of_getElem? (i := 41) rfl)
theorem w42 {a0 : Array Value} {Z : State} (hw : HW a0 Z) : (Jvm.Cond.arrayClass Jvm.ClassFile.FieldType.int).before a0 Z = true := hw _ (List.mem_of_getElem? (i := 42) rfl)
theorem w43 {a0 : Array Value} {Z : State} (hw : HW a0 Z) : (Jvm.Cond.fieldLink "OptiCuckoo" 59 "OptiCuckoo" "slotKey" "[I").before a0 Z = true := hw _ (List.mem_of_getElem? (i := 43) rfl)
theorem w44 {a0 : Array Value} {Z : State} (hw : HW a0 Z) : (Jvm.Cond.laysFinal "OptiCuckoo" "OptiCuckoo" "slotKey" "[I").before a0 Z = true := hw _ (List.mem_of_getElem? (i := 44) rfl)
theorem w45 {a0 : Array Value} {Z : State} (hw : HW a0 Z) : (Jvm.Cond.fieldLink "OptiCuckoo" 63 "OptiCuckoo" "slotVal" "[I").before a0 Z = true := hw _ (List.mem_of_getElem? (i := 45) rfl)
theorem w46 {a0 : Array Value} {Z : State} (hw : HW a0 Z) : (Jvm.Cond.laysFinal "OptiCuckoo" "OptiCuckoo" "slotVal" "[I").before a0 Z = true := hw _ (List.mem_of_getElem? (i := 46) rfl)
theorem w47 {a0 : Array Value} {Z : State} (hw : HW a0 Z) : (Jvm.Cond.fieldLink "OptiCuckoo" 66 "OptiCuckoo" "version" "[I").before a0 Z = true := hw _ (List.mem_of_getElem? (i := 47) rfl)
theorem w48 {a0 : Array Value} {Z : State} (hw : HW a0 Z) : (Jvm.Cond.laysFinal "OptiCuckoo" "OptiCuckoo" "version" "[I").before a0 Z = true := hw _ (List.mem_of_getElem? (i := 48) rfl)
theorem w49 {a0 : Array Value} {Z : State} (hw : HW a0 Z) : (Jvm.Cond.fieldLink "OptiCuckoo" 69 "OptiCuckoo" "owner" "[I").before a0 Z = true := hw _ (List.mem_of_getElem? (i := 49) rfl)
theorem w50 {a0 : Array Value} {Z : State} (hw : HW a0 Z) : (Jvm.Cond.laysFinal "OptiCuckoo" "OptiCuckoo" "owner" "[I").before a0 Z = true := hw _ (List.mem_of_getElem? (i := 50) rfl)
theorem w51 {a0 : Array Value} {Z : State} (hw : HW a0 Z) : (Jvm.Cond.fieldLink "OptiCuckoo" 72 "OptiCuckoo" "qOp" "[I").before a0 Z = true := hw _ (List.mem_of_getElem? (i := 51) rfl)
theorem w52 {a0 : Array Value} {Z : State} (hw : HW a0 Z) : (Jvm.Cond.laysFinal "OptiCuckoo" "OptiCuckoo" "qOp" "[I").before a0 Z = true := hw _ (List.mem_of_getElem? (i := 52) rfl)
theorem w53 {a0 : Array Value} {Z : State} (hw : HW a0 Z) : (Jvm.Cond.fieldLink "OptiCuckoo" 75 "OptiCuckoo" "qKey" "[I").before a0 Z = true := hw _ (List.mem_of_getElem? (i := 53) rfl)
theorem w54 {a0 : Array Value} {Z : State} (hw : HW a0 Z) : (Jvm.Cond.laysFinal "OptiCuckoo" "OptiCuckoo" "qKey" "[I").before a0 Z = true := hw _ (List.mem_of_getElem? (i := 54) rfl)
theorem w55 {a0 : Array Value} {Z : State} (hw : HW a0 Z) : (Jvm.Cond.fieldLink "OptiCuckoo" 78 "OptiCuckoo" "qVal" "[I").before a0 Z = true := hw _ (List.mem_of_getElem? (i := 55) rfl)
theorem w56 {a0 : Array Value} {Z : State} (hw : HW a0 Z) : (Jvm.Cond.laysFinal "OptiCuckoo" "OptiCuckoo" "qVal" "[I").before a0 Z = true := hw _ (List.mem_of_getElem? (i := 56) rfl)
theorem w57 {a0 : Array Value} {Z : State} (hw : HW a0 Z) : (Jvm.Cond.fieldLink "OptiCuckoo" 81 "OptiCuckoo" "qLen" "[I").before a0 Z = true := hw _ (List.mem_of_getElem? (i := 57) rfl)
theorem w58 {a0 : Array Value} {Z : State} (hw : HW a0 Z) : (Jvm.Cond.laysFinal "OptiCuckoo" "OptiCuckoo" "qLen" "[I").before a0 Z = true := hw _ (List.mem_of_getElem? (i := 58) rfl)
theorem w59 {a0 : Array Value} {Z : State} (hw : HW a0 Z) : (Jvm.Cond.fieldLink "OptiCuckoo" 84 "OptiCuckoo" "resKey" "[I").before a0 Z = true := hw _ (List.mem_of_getElem? (i := 59) rfl)
theorem w60 {a0 : Array Value} {Z : State} (hw : HW a0 Z) : (Jvm.Cond.laysFinal "OptiCuckoo" "OptiCuckoo" "resKey" "[I").before a0 Z = true := hw _ (List.mem_of_getElem? (i := 60) rfl)
theorem w61 {a0 : Array Value} {Z : State} (hw : HW a0 Z) : (Jvm.Cond.fieldLink "OptiCuckoo" 87 "OptiCuckoo" "resStatus" "[I").before a0 Z = true := hw _ (List.mem_of_getElem? (i := 61) rfl)
theorem w62 {a0 : Array Value} {Z : State} (hw : HW a0 Z) : (Jvm.Cond.laysFinal "OptiCuckoo" "OptiCuckoo" "resStatus" "[I").before a0 Z = true := hw _ (List.mem_of_getElem? (i := 62) rfl)
theorem w63 {a0 : Array Value} {Z : State} (hw : HW a0 Z) : (Jvm.Cond.fieldLink "OptiCuckoo" 90 "OptiCuckoo" "resVal" "[I").before a0 Z = true := hw _ (List.mem_of_getElem? (i := 63) rfl)
theorem w64 {a0 : Array Value} {Z : State} (hw : HW a0 Z) : (Jvm.Cond.laysFinal "OptiCuckoo" "OptiCuckoo" "resVal" "[I").before a0 Z = true := hw _ (List.mem_of_getElem? (i := 64) rfl)
theorem w65 {a0 : Array Value} {Z : State} (hw : HW a0 Z) : (Jvm.Cond.fieldLink "OptiCuckoo" 93 "OptiCuckoo" "resCount" "[I").before a0 Z = true := hw _ (List.mem_of_getElem? (i := 65) rfl)
theorem w66 {a0 : Array Value} {Z : State} (hw : HW a0 Z) : (Jvm.Cond.laysFinal "OptiCuckoo" "OptiCuckoo" "resCount" "[I").before a0 Z = true := hw _ (List.mem_of_getElem? (i := 66) rfl)
theorem w67 {a0 : Array Value} {Z : State} (hw : HW a0 Z) : (Jvm.Cond.fieldLink "OptiCuckoo" 96 "OptiCuckoo" "phase" "[I").before a0 Z = true := hw _ (List.mem_of_getElem? (i := 67) rfl)
theorem w68 {a0 : Array Value} {Z : State} (hw : HW a0 Z) : (Jvm.Cond.laysFinal "OptiCuckoo" "OptiCuckoo" "phase" "[I").before a0 Z = true := hw _ (List.mem_of_getElem? (i := 68) rfl)
theorem w69 {a0 : Array Value} {Z : State} (hw : HW a0 Z) : (Jvm.Cond.fieldLink "OptiCuckoo" 99 "OptiCuckoo" "opIdx" "[I").before a0 Z = true := hw _ (List.mem_of_getElem? (i := 69) rfl)
theorem w70 {a0 : Array Value} {Z : State} (hw : HW a0 Z) : (Jvm.Cond.laysFinal "OptiCuckoo" "OptiCuckoo" "opIdx" "[I").before a0 Z = true := hw _ (List.mem_of_getElem? (i := 70) rfl)
theorem w71 {a0 : Array Value} {Z : State} (hw : HW a0 Z) : (Jvm.Cond.fieldLink "OptiCuckoo" 102 "OptiCuckoo" "cursor" "[I").before a0 Z = true := hw _ (List.mem_of_getElem? (i := 71) rfl)
theorem w72 {a0 : Array Value} {Z : State} (hw : HW a0 Z) : (Jvm.Cond.laysFinal "OptiCuckoo" "OptiCuckoo" "cursor" "[I").before a0 Z = true := hw _ (List.mem_of_getElem? (i := 72) rfl)
theorem w73 {a0 : Array Value} {Z : State} (hw : HW a0 Z) : (Jvm.Cond.fieldLink "OptiCuckoo" 105 "OptiCuckoo" "lockMask" "[I").before a0 Z = true := hw _ (List.mem_of_getElem? (i := 73) rfl)
theorem w74 {a0 : Array Value} {Z : State} (hw : HW a0 Z) : (Jvm.Cond.laysFinal "OptiCuckoo" "OptiCuckoo" "lockMask" "[I").before a0 Z = true := hw _ (List.mem_of_getElem? (i := 74) rfl)
theorem w75 {a0 : Array Value} {Z : State} (hw : HW a0 Z) : (Jvm.Cond.fieldLink "OptiCuckoo" 108 "OptiCuckoo" "heldMask" "[I").before a0 Z = true := hw _ (List.mem_of_getElem? (i := 75) rfl)
theorem w76 {a0 : Array Value} {Z : State} (hw : HW a0 Z) : (Jvm.Cond.laysFinal "OptiCuckoo" "OptiCuckoo" "heldMask" "[I").before a0 Z = true := hw _ (List.mem_of_getElem? (i := 76) rfl)
theorem w77 {a0 : Array Value} {Z : State} (hw : HW a0 Z) : (Jvm.Cond.arrayClass Jvm.ClassFile.FieldType.boolean).before a0 Z = true := hw _ (List.mem_of_getElem? (i := 77) rfl)
theorem w78 {a0 : Array Value} {Z : State} (hw : HW a0 Z) : (Jvm.Cond.fieldLink "OptiCuckoo" 111 "OptiCuckoo" "retry" "[Z").before a0 Z = true := hw _ (List.mem_of_getElem? (i := 78) rfl)
theorem w79 {a0 : Array Value} {Z : State} (hw : HW a0 Z) : (Jvm.Cond.laysFinal "OptiCuckoo" "OptiCuckoo" "retry" "[Z").before a0 Z = true := hw _ (List.mem_of_getElem? (i := 79) rfl)
theorem w80 {a0 : Array Value} {Z : State} (hw : HW a0 Z) : (Jvm.Cond.fieldLink "OptiCuckoo" 115 "OptiCuckoo" "effectDone" "[Z").before a0 Z = true := hw _ (List.mem_of_getElem? (i := 80) rfl)
theorem w81 {a0 : Array Value} {Z : State} (hw : HW a0 Z) : (Jvm.Cond.laysFinal "OptiCuckoo" "OptiCuckoo" "effectDone" "[Z").before a0 Z = true := hw _ (List.mem_of_getElem? (i := 81) rfl)
theorem w82 {a0 : Array Value} {Z : State} (hw : HW a0 Z) : (Jvm.Cond.fieldLink "OptiCuckoo" 118 "OptiCuckoo" "seen" "[Z").before a0 Z = true := hw _ (List.mem_of_getElem? (i := 82) rfl)
theorem w83 {a0 : Array Value} {Z : State} (hw : HW a0 Z) : (Jvm.Cond.laysFinal "OptiCuckoo" "OptiCuckoo" "seen" "[Z").before a0 Z = true := hw _ (List.mem_of_getElem? (i := 83) rfl)
theorem w84 {a0 : Array Value} {Z : State} (hw : HW a0 Z) : (Jvm.Cond.fieldLink "OptiCuckoo" 121 "OptiCuckoo" "seenVal" "[I").before a0 Z = true := hw _ (List.mem_of_getElem? (i := 84) rfl)
theorem w85 {a0 : Array Value} {Z : State} (hw : HW a0 Z) : (Jvm.Cond.laysFinal "OptiCuckoo" "OptiCuckoo" "seenVal" "[I").before a0 Z = true := hw _ (List.mem_of_getElem? (i := 85) rfl)
theorem w86 {a0 : Array Value} {Z : State} (hw : HW a0 Z) : (Jvm.Cond.fieldLink "OptiCuckoo" 124 "OptiCuckoo" "firstVer" "[I").before a0 Z = true := hw _ (List.mem_of_getElem? (i := 86) rfl)
theorem w87 {a0 : Array Value} {Z : State} (hw : HW a0 Z) : (Jvm.Cond.laysFinal "OptiCuckoo" "OptiCuckoo" "firstVer" "[I").before a0 Z = true := hw _ (List.mem_of_getElem? (i := 87) rfl)
theorem w88 {a0 : Array Value} {Z : State} (hw : HW a0 Z) : (Jvm.Cond.fieldLink "OptiCuckoo" 127 "OptiCuckoo" "moveIdx" "[I").before a0 Z = true := hw _ (List.mem_of_getElem? (i := 88) rfl)
theorem w89 {a0 : Array Value} {Z : State} (hw : HW a0 Z) : (Jvm.Cond.laysFinal "OptiCuckoo" "OptiCuckoo" "moveIdx" "[I").before a0 Z = true := hw _ (List.mem_of_getElem? (i := 89) rfl)
theorem w90 {a0 : Array Value} {Z : State} (hw : HW a0 Z) : (Jvm.Cond.fieldLink "OptiCuckoo" 130 "OptiCuckoo" "pathLen" "[I").before a0 Z = true := hw _ (List.mem_of_getElem? (i := 90) rfl)
theorem w91 {a0 : Array Value} {Z : State} (hw : HW a0 Z) : (Jvm.Cond.laysFinal "OptiCuckoo" "OptiCuckoo" "pathLen" "[I").before a0 Z = true := hw _ (List.mem_of_getElem? (i := 91) rfl)
theorem w92 {a0 : Array Value} {Z : State} (hw : HW a0 Z) : (Jvm.Cond.fieldLink "OptiCuckoo" 133 "OptiCuckoo" "pathBucket" "[I").before a0 Z = true := hw _ (List.mem_of_getElem? (i := 92) rfl)
theorem w93 {a0 : Array Value} {Z : State} (hw : HW a0 Z) : (Jvm.Cond.laysFinal "OptiCuckoo" "OptiCuckoo" "pathBucket" "[I").before a0 Z = true := hw _ (List.mem_of_getElem? (i := 93) rfl)
theorem w94 {a0 : Array Value} {Z : State} (hw : HW a0 Z) : (Jvm.Cond.fieldLink "OptiCuckoo" 136 "OptiCuckoo" "pathSlot" "[I").before a0 Z = true := hw _ (List.mem_of_getElem? (i := 94) rfl)
theorem w95 {a0 : Array Value} {Z : State} (hw : HW a0 Z) : (Jvm.Cond.laysFinal "OptiCuckoo" "OptiCuckoo" "pathSlot" "[I").before a0 Z = true := hw _ (List.mem_of_getElem? (i := 95) rfl)
theorem w96 {a0 : Array Value} {Z : State} (hw : HW a0 Z) : (Jvm.Cond.fieldLink "OptiCuckoo" 139 "OptiCuckoo" "bfsQueue" "[I").before a0 Z = true := hw _ (List.mem_of_getElem? (i := 96) rfl)
theorem w97 {a0 : Array Value} {Z : State} (hw : HW a0 Z) : (Jvm.Cond.laysFinal "OptiCuckoo" "OptiCuckoo" "bfsQueue" "[I").before a0 Z = true := hw _ (List.mem_of_getElem? (i := 97) rfl)
theorem w98 {a0 : Array Value} {Z : State} (hw : HW a0 Z) : (Jvm.Cond.fieldLink "OptiCuckoo" 142 "OptiCuckoo" "bfsParent" "[I").before a0 Z = true := hw _ (List.mem_of_getElem? (i := 98) rfl)
theorem w99 {a0 : Array Value} {Z : State} (hw : HW a0 Z) : (Jvm.Cond.laysFinal "OptiCuckoo" "OptiCuckoo" "bfsParent" "[I").before a0 Z = true := hw _ (List.mem_of_getElem? (i := 99) rfl)
theorem w100 {a0 : Array Value} {Z : State} (hw : HW a0 Z) : (Jvm.Cond.fieldLink "OptiCuckoo" 145 "OptiCuckoo" "bfsParentSlot" "[I").before a0 Z = true := hw _ (List.mem_of_getElem? (i := 100) rfl)
theorem w101 {a0 : Array Value} {Z : State} (hw : HW a0 Z) : (Jvm.Cond.laysFinal "OptiCuckoo" "OptiCuckoo" "bfsParentSlot" "[I").before a0 Z = true := hw _ (List.mem_of_getElem? (i := 101) rfl)
theorem w102 {a0 : Array Value} {Z : State} (hw : HW a0 Z) : (Jvm.Cond.fieldLink "OptiCuckoo" 148 "OptiCuckoo" "bfsSeen" "[Z").before a0 Z = true := hw _ (List.mem_of_getElem? (i := 102) rfl)
theorem w103 {a0 : Array Value} {Z : State} (hw : HW a0 Z) : (Jvm.Cond.laysFinal "OptiCuckoo" "OptiCuckoo" "bfsSeen" "[Z").before a0 Z = true := hw _ (List.mem_of_getElem? (i := 103) rfl)
theorem w104 {a0 : Array Value} {Z : State} (hw : HW a0 Z) : (Jvm.Cond.fieldLink "OptiCuckoo" 151 "OptiCuckoo" "chain" "[I").before a0 Z = true := hw _ (List.mem_of_getElem? (i := 104) rfl)
theorem w105 {a0 : Array Value} {Z : State} (hw : HW a0 Z) : (Jvm.Cond.laysFinal "OptiCuckoo" "OptiCuckoo" "chain" "[I").before a0 Z = true := hw _ (List.mem_of_getElem? (i := 105) rfl)
theorem w106 {a0 : Array Value} {Z : State} (hw : HW a0 Z) : (Jvm.Cond.methodLink "OptiCuckoo" 154 ⟨"OptiCuckoo", "clamp", "(III)I"⟩).before a0 Z = true := hw _ (List.mem_of_getElem? (i := 106) rfl)
theorem w107 {a0 : Array Value} {Z : State} (hw : HW a0 Z) : (Jvm.Cond.instanceMethod ⟨"OptiCuckoo", "clamp", "(III)I"⟩).before a0 Z = true := hw _ (List.mem_of_getElem? (i := 107) rfl)
theorem w108 {a0 : Array Value} {Z : State} (hw : HW a0 Z) : (Jvm.Cond.privateMethod ⟨"OptiCuckoo", "clamp", "(III)I"⟩).before a0 Z = true := hw _ (List.mem_of_getElem? (i := 108) rfl)
theorem w109 {a0 : Array Value} {Z : State} (hw : HW a0 Z) : (Jvm.Cond.code ⟨"OptiCuckoo", "clamp", "(III)I"⟩ prog_1_method_16_code 4 (some .int)).before a0 Z = true := hw _ (List.mem_of_getElem? (i := 109) rfl)
theorem w110 {a0 : Array Value} {Z : State} (hw : HW a0 Z) : (Jvm.Cond.fieldLink "OptiCuckoo" 158 "OptiCuckoo" "cap" "I").before a0 Z = true := hw _ (List.mem_of_getElem? (i := 110) rfl)
theorem w111 {a0 : Array Value} {Z : State} (hw : HW a0 Z) : (Jvm.Cond.lays "OptiCuckoo" "OptiCuckoo" "cap" "I").before a0 Z = true := hw _ (List.mem_of_getElem? (i := 111) rfl)
theorem w112 {a0 : Array Value} {Z : State} (hw : HW a0 Z) : (Jvm.Cond.fieldLink "OptiCuckoo" 161 "OptiCuckoo" "stripeCount" "I").before a0 Z = true := hw _ (List.mem_of_getElem? (i := 112) rfl)
theorem w113 {a0 : Array Value} {Z : State} (hw : HW a0 Z) : (Jvm.Cond.lays "OptiCuckoo" "OptiCuckoo" "stripeCount" "I").before a0 Z = true := hw _ (List.mem_of_getElem? (i := 113) rfl)
theorem w114 {a0 : Array Value} {Z : State} (hw : HW a0 Z) : (Jvm.Cond.methodLink "OptiCuckooL2" 12 ⟨"OptiCuckoo", "submit", "(III)I"⟩).before a0 Z = true := hw _ (List.mem_of_getElem? (i := 114) rfl)
theorem w115 {a0 : Array Value} {Z : State} (hw : HW a0 Z) : (Jvm.Cond.declares ⟨"OptiCuckoo", "submit", "(III)I"⟩).before a0 Z = true := hw _ (List.mem_of_getElem? (i := 115) rfl)
theorem w116 {a0 : Array Value} {Z : State} (hw : HW a0 Z) : (Jvm.Cond.instanceMethod ⟨"OptiCuckoo", "submit", "(III)I"⟩).before a0 Z = true := hw _ (List.mem_of_getElem? (i := 116) rfl)
theorem w117 {a0 : Array Value} {Z : State} (hw : HW a0 Z) : (Jvm.Cond.selects "OptiCuckoo" ⟨"OptiCuckoo", "submit", "(III)I"⟩ ⟨"OptiCuckoo", "submit", "(III)I"⟩).before a0 Z = true := hw _ (List.mem_of_getElem? (i := 117) rfl)
theorem w118 {a0 : Array Value} {Z : State} (hw : HW a0 Z) : (Jvm.Cond.code ⟨"OptiCuckoo", "submit", "(III)I"⟩ prog_1_method_4_code 8 (some .int)).before a0 Z = true := hw _ (List.mem_of_getElem? (i := 118) rfl)
theorem w119 {a0 : Array Value} {Z : State} (hw : HW a0 Z) : (Jvm.Cond.methodLink "OptiCuckoo" 164 ⟨"OptiCuckoo", "findSlot", "(I)I"⟩).before a0 Z = true := hw _ (List.mem_of_getElem? (i := 119) rfl)
theorem w120 {a0 : Array Value} {Z : State} (hw : HW a0 Z) : (Jvm.Cond.instanceMethod ⟨"OptiCuckoo", "findSlot", "(I)I"⟩).before a0 Z = true := hw _ (List.mem_of_getElem? (i := 120) rfl)
theorem w121 {a0 : Array Value} {Z : State} (hw : HW a0 Z) : (Jvm.Cond.privateMethod ⟨"OptiCuckoo", "findSlot", "(I)I"⟩).before a0 Z = true := hw _ (List.mem_of_getElem? (i := 121) rfl)
theorem w122 {a0 : Array Value} {Z : State} (hw : HW a0 Z) : (Jvm.Cond.code ⟨"OptiCuckoo", "findSlot", "(I)I"⟩ prog_1_method_28_code 7 (some .int)).before a0 Z = true := hw _ (List.mem_of_getElem? (i := 122) rfl)
theorem w123 {a0 : Array Value} {Z : State} (hw : HW a0 Z) : (Jvm.Cond.methodLink "OptiCuckoo" 201 ⟨"OptiCuckoo", "bucket1", "(I)I"⟩).before a0 Z = true := hw _ (List.mem_of_getElem? (i := 123) rfl)
theorem w124 {a0 : Array Value} {Z : State} (hw : HW a0 Z) : (Jvm.Cond.instanceMethod ⟨"OptiCuckoo", "bucket1", "(I)I"⟩).before a0 Z = true := hw _ (List.mem_of_getElem? (i := 124) rfl)
theorem w125 {a0 : Array Value} {Z : State} (hw : HW a0 Z) : (Jvm.Cond.privateMethod ⟨"OptiCuckoo", "bucket1", "(I)I"⟩).before a0 Z = true := hw _ (List.mem_of_getElem? (i := 125) rfl)
theorem w126 {a0 : Array Value} {Z : State} (hw : HW a0 Z) : (Jvm.Cond.code ⟨"OptiCuckoo", "bucket1", "(I)I"⟩ prog_1_method_21_code 2 (some .int)).before a0 Z = true := hw _ (List.mem_of_getElem? (i := 126) rfl)
theorem w127 {a0 : Array Value} {Z : State} (hw : HW a0 Z) : (Jvm.Cond.methodLink "OptiCuckoo" 204 ⟨"OptiCuckoo", "bucket2", "(I)I"⟩).before a0 Z = true := hw _ (List.mem_of_getElem? (i := 127) rfl)
theorem w128 {a0 : Array Value} {Z : State} (hw : HW a0 Z) : (Jvm.Cond.instanceMethod ⟨"OptiCuckoo", "bucket2", "(I)I"⟩).before a0 Z = true := hw _ (List.mem_of_getElem? (i := 128) rfl)
theorem w129 {a0 : Array Value} {Z : State} (hw : HW a0 Z) : (Jvm.Cond.privateMethod ⟨"OptiCuckoo", "bucket2", "(I)I"⟩).before a0 Z = true := hw _ (List.mem_of_getElem? (i := 129) rfl)
theorem w130 {a0 : Array Value} {Z : State} (hw : HW a0 Z) : (Jvm.Cond.code ⟨"OptiCuckoo", "bucket2", "(I)I"⟩ prog_1_method_22_code 2 (some .int)).before a0 Z = true := hw _ (List.mem_of_getElem? (i := 130) rfl)
theorem w131 {a0 : Array Value} {Z : State} (hw : HW a0 Z) : (Jvm.Cond.methodLink "OptiCuckoo" 213 ⟨"OptiCuckoo", "slotIndex", "(II)I"⟩).before a0 Z = true := hw _ (List.mem_of_getElem? (i := 131) rfl)
theorem w132 {a0 : Array Value} {Z : State} (hw : HW a0 Z) : (Jvm.Cond.instanceMethod ⟨"OptiCuckoo", "slotIndex", "(II)I"⟩).before a0 Z = true := hw _ (List.mem_of_getElem? (i := 132) rfl)
theorem w133 {a0 : Array Value} {Z : State} (hw : HW a0 Z) : (Jvm.Cond.privateMethod ⟨"OptiCuckoo", "slotIndex", "(II)I"⟩).before a0 Z = true := hw _ (List.mem_of_getElem? (i := 133) rfl)
theorem w134 {a0 : Array Value} {Z : State} (hw : HW a0 Z) : (Jvm.Cond.code ⟨"OptiCuckoo", "slotIndex", "(II)I"⟩ prog_1_method_24_code 3 (some .int)).before a0 Z = true := hw _ (List.mem_of_getElem? (i := 134) rfl)
theorem w135 {a0 : Array Value} {Z : State} (hw : HW a0 Z) : (Jvm.Cond.methodLink "OptiCuckoo" 168 ⟨"OptiCuckoo", "insertQueued", "(I)Z"⟩).before a0 Z = true := hw _ (List.mem_of_getElem? (i := 135) rfl)
theorem w136 {a0 : Array Value} {Z : State} (hw : HW a0 Z) : (Jvm.Cond.instanceMethod ⟨"OptiCuckoo", "insertQueued", "(I)Z"⟩).before a0 Z = true := hw _ (List.mem_of_getElem? (i := 136) rfl)
theorem w137 {a0 : Array Value} {Z : State} (hw : HW a0 Z) : (Jvm.Cond.privateMethod ⟨"OptiCuckoo", "insertQueued", "(I)Z"⟩).before a0 Z = true := hw _ (List.mem_of_getElem? (i := 137) rfl)
theorem w138 {a0 : Array Value} {Z : State} (hw : HW a0 Z) : (Jvm.Cond.code ⟨"OptiCuckoo", "insertQueued", "(I)Z"⟩ prog_1_method_19_code 5 (some .boolean)).before a0 Z = true := hw _ (List.mem_of_getElem? (i := 138) rfl)
theorem w139 {a0 : Array Value} {Z : State} (hw : HW a0 Z) : (Jvm.Cond.fieldLink "OptiCuckoo" 172 "OptiCuckoo" "reservedCount" "I").before a0 Z = true := hw _ (List.mem_of_getElem? (i := 139) rfl)
theorem w140 {a0 : Array Value} {Z : State} (hw : HW a0 Z) : (Jvm.Cond.lays "OptiCuckoo" "OptiCuckoo" "reservedCount" "I").before a0 Z = true := hw _ (List.mem_of_getElem? (i := 140) rfl)
theorem w141 {a0 : Array Value} {Z : State} (hw : HW a0 Z) : (Jvm.Cond.methodLink "OptiCuckooL2" 16 ⟨"OptiCuckoo", "pending", "(I)I"⟩).before a0 Z = true := hw _ (List.mem_of_getElem? (i := 141) rfl)
theorem w142 {a0 : Array Value} {Z : State} (hw : HW a0 Z) : (Jvm.Cond.declares ⟨"OptiCuckoo", "pending", "(I)I"⟩).before a0 Z = true := hw _ (List.mem_of_getElem? (i := 142) rfl)
theorem w143 {a0 : Array Value} {Z : State} (hw : HW a0 Z) : (Jvm.Cond.instanceMethod ⟨"OptiCuckoo", "pending", "(I)I"⟩).before a0 Z = true := hw _ (List.mem_of_getElem? (i := 143) rfl)
theorem w144 {a0 : Array Value} {Z : State} (hw : HW a0 Z) : (Jvm.Cond.selects "OptiCuckoo" ⟨"OptiCuckoo", "pending", "(I)I"⟩ ⟨"OptiCuckoo", "pending", "(I)I"⟩).before a0 Z = true := hw _ (List.mem_of_getElem? (i := 144) rfl)
theorem w145 {a0 : Array Value} {Z : State} (hw : HW a0 Z) : (Jvm.Cond.code ⟨"OptiCuckoo", "pending", "(I)I"⟩ prog_1_method_5_code 2 (some .int)).before a0 Z = true := hw _ (List.mem_of_getElem? (i := 145) rfl)
theorem w146 {a0 : Array Value} {Z : State} (hw : HW a0 Z) : (Jvm.Cond.methodLink "OptiCuckoo" 175 ⟨"OptiCuckoo", "validThread", "(I)Z"⟩).before a0 Z = true := hw _ (List.mem_of_getElem? (i := 146) rfl)
theorem w147 {a0 : Array Value} {Z : State} (hw : HW a0 Z) : (Jvm.Cond.instanceMethod ⟨"OptiCuckoo", "validThread", "(I)Z"⟩).before a0 Z = true := hw _ (List.mem_of_getElem? (i := 147) rfl)
theorem w148 {a0 : Array Value} {Z : State} (hw : HW a0 Z) : (Jvm.Cond.privateMethod ⟨"OptiCuckoo", "validThread", "(I)Z"⟩).before a0 Z = true := hw _ (List.mem_of_getElem? (i := 148) rfl)
theorem w149 {a0 : Array Value} {Z : State} (hw : HW a0 Z) : (Jvm.Cond.code ⟨"OptiCuckoo", "validThread", "(I)Z"⟩ prog_1_method_17_code 2 (some .boolean)).before a0 Z = true := hw _ (List.mem_of_getElem? (i := 149) rfl)
theorem w150 {a0 : Array Value} {Z : State} (hw : HW a0 Z) : (Jvm.Cond.methodLink "OptiCuckooL2" 20 ⟨"OptiCuckoo", "reserved", "()I"⟩).before a0 Z = true := hw _ (List.mem_of_getElem? (i := 150) rfl)
theorem w151 {a0 : Array Value} {Z : State} (hw : HW a0 Z) : (Jvm.Cond.declares ⟨"OptiCuckoo", "reserved", "()I"⟩).before a0 Z = true := hw _ (List.mem_of_getElem? (i := 151) rfl)
theorem w152 {a0 : Array Value} {Z : State} (hw : HW a0 Z) : (Jvm.Cond.instanceMethod ⟨"OptiCuckoo", "reserved", "()I"⟩).before a0 Z = true := hw _ (List.mem_of_getElem? (i := 152) rfl)
theorem w153 {a0 : Array Value} {Z : State} (hw : HW a0 Z) : (Jvm.Cond.selects "OptiCuckoo" ⟨"OptiCuckoo", "reserved", "()I"⟩ ⟨"OptiCuckoo", "reserved", "()I"⟩).before a0 Z = true := hw _ (List.mem_of_getElem? (i := 153) rfl)
theorem w154 {a0 : Array Value} {Z : State} (hw : HW a0 Z) : (Jvm.Cond.code ⟨"OptiCuckoo", "reserved", "()I"⟩ prog_1_method_14_code 1 (some .int)).before a0 Z = true := hw _ (List.mem_of_getElem? (i := 154) rfl)
theorem w155 {a0 : Array Value} {Z : State} (hw : HW a0 Z) : (Jvm.Cond.methodLink "OptiCuckooL2" 24 ⟨"OptiCuckoo", "size", "()I"⟩).before a0 Z = true := hw _ (List.mem_of_getElem? (i := 155) rfl)
theorem w156 {a0 : Array Value} {Z : State} (hw : HW a0 Z) : (Jvm.Cond.declares ⟨"OptiCuckoo", "size", "()I"⟩).before a0 Z = true := hw _ (List.mem_of_getElem? (i := 156) rfl)
theorem w157 {a0 : Array Value} {Z : State} (hw : HW a0 Z) : (Jvm.Cond.instanceMethod ⟨"OptiCuckoo", "size", "()I"⟩).before a0 Z = true := hw _ (List.mem_of_getElem? (i := 157) rfl)
theorem w158 {a0 : Array Value} {Z : State} (hw : HW a0 Z) : (Jvm.Cond.selects "OptiCuckoo" ⟨"OptiCuckoo", "size", "()I"⟩ ⟨"OptiCuckoo", "size", "()I"⟩).before a0 Z = true := hw _ (List.mem_of_getElem? (i := 158) rfl)
theorem w159 {a0 : Array Value} {Z : State} (hw : HW a0 Z) : (Jvm.Cond.code ⟨"OptiCuckoo", "size", "()I"⟩ prog_1_method_13_code 1 (some .int)).before a0 Z = true := hw _ (List.mem_of_getElem? (i := 159) rfl)
theorem w160 {a0 : Array Value} {Z : State} (hw : HW a0 Z) : (Jvm.Cond.fieldLink "OptiCuckoo" 198 "OptiCuckoo" "sizeCount" "I").before a0 Z = true := hw _ (List.mem_of_getElem? (i := 160) rfl)
theorem w161 {a0 : Array Value} {Z : State} (hw : HW a0 Z) : (Jvm.Cond.lays "OptiCuckoo" "OptiCuckoo" "sizeCount" "I").before a0 Z = true := hw _ (List.mem_of_getElem? (i := 161) rfl)
abbrev cC : String := "OptiCuckoo"
def cFS : List FSpec := [(1, "slotKey", "[I", 2), (2, "slotVal", "[I", 2), (3, "version", "[I", 2), (4, "owner", "[I", 2), (5, "qOp", "[I", 2), (6, "qKey", "[I", 2), (7, "qVal", "[I", 2), (8, "qLen", "[I", 2), (9, "resKey", "[I", 2), (10, "resStatus", "[I", 2), (11, "resVal", "[I", 2), (12, "resCount", "[I", 2), (13, "phase", "[I", 2), (14, "opIdx", "[I", 2), (15, "cursor", "[I", 2), (16, "lockMask", "[I", 2), (17, "heldMask", "[I", 2), (18, "retry", "[Z", 2), (19, "effectDone", "[Z", 2), (20, "seen", "[Z", 2), (21, "seenVal", "[I", 2), (22, "firstVer", "[I", 2), (23, "moveIdx", "[I", 2), (24, "pathLen", "[I", 2), (25, "pathBucket", "[I", 2), (26, "pathSlot", "[I", 2), (27, "bfsQueue", "[I", 2), (28, "bfsParent", "[I", 2), (29, "bfsParentSlot", "[I", 2), (30, "bfsSeen", "[Z", 2), (31, "chain", "[I", 2), (119, "phDone", "I", 0), (120, "phRead", "I", 0), (121, "phSearch", "I", 0), (122, "phLock", "I", 0), (123, "phCheck", "I", 0), (124, "phMove", "I", 0), (125, "phPlace", "I", 0), (126, "phClear", "I", 0), (127, "phUnlock", "I", 0), (128, "maxStripes", "I", 0), (129, "tableSlots", "I", 0), (130, "pathMax", "I", 0), (131, "readSteps", "I", 0), (132, "stepBudget", "I", 0), (133, "empty", "I", 0), (134, "nobody", "I", 0), (135, "cap", "I", 0), (136, "stripeCount", "I", 0), (139, "sizeCount", "I", 0), (140, "reservedCount", "I", 0)]
def cFA : List ASpec := [(1, .int, 256), (2, .int, 256), (3, .int, 16), (4, .int, 16), (5, .int, 32), (6, .int, 32), (7, .int, 32), (8, .int, 4), (9, .int, 32), (10, .int, 32), (11, .int, 32), (12, .int, 4), (13, .int, 4), (14, .int, 4), (15, .int, 4), (16, .int, 4), (17, .int, 4), (18, .boolean, 4), (19, .boolean, 4), (20, .boolean, 4), (21, .int, 4), (22, .int, 8), (23, .int, 4), (24, .int, 4), (25, .int, 256), (26, .int, 256), (27, .int, 64), (28, .int, 64), (29, .int, 64), (30, .boolean, 64), (31, .int, 64)]
theorem mf_slotKey : (1, "slotKey", "[I", 2) ∈ cFS := List.mem_of_getElem? (i := 0) rfl
theorem mf_slotVal : (2, "slotVal", "[I", 2) ∈ cFS := List.mem_of_getElem? (i := 1) rfl
theorem mf_version : (3, "version", "[I", 2) ∈ cFS := List.mem_of_getElem? (i := 2) rfl
theorem mf_owner : (4, "owner", "[I", 2) ∈ cFS := List.mem_of_getElem? (i := 3) rfl
theorem mf_qOp : (5, "qOp", "[I", 2) ∈ cFS := List.mem_of_getElem? (i := 4) rfl
theorem mf_qKey : (6, "qKey", "[I", 2) ∈ cFS := List.mem_of_getElem? (i := 5) rfl
theorem mf_qVal : (7, "qVal", "[I", 2) ∈ cFS := List.mem_of_getElem? (i := 6) rfl
theorem mf_qLen : (8, "qLen", "[I", 2) ∈ cFS := List.mem_of_getElem? (i := 7) rfl
theorem mf_resKey : (9, "resKey", "[I", 2) ∈ cFS := List.mem_of_getElem? (i := 8) rfl
theorem mf_resStatus : (10, "resStatus", "[I", 2) ∈ cFS := List.mem_of_getElem? (i := 9) rfl
theorem mf_resVal : (11, "resVal", "[I", 2) ∈ cFS := List.mem_of_getElem? (i := 10) rfl
theorem mf_resCount : (12, "resCount", "[I", 2) ∈ cFS := List.mem_of_getElem? (i := 11) rfl
theorem mf_phase : (13, "phase", "[I", 2) ∈ cFS := List.mem_of_getElem? (i := 12) rfl
theorem mf_opIdx : (14, "opIdx", "[I", 2) ∈ cFS := List.mem_of_getElem? (i := 13) rfl
theorem mf_cursor : (15, "cursor", "[I", 2) ∈ cFS := List.mem_of_getElem? (i := 14) rfl
theorem mf_lockMask : (16, "lockMask", "[I", 2) ∈ cFS := List.mem_of_getElem? (i := 15) rfl
theorem mf_heldMask : (17, "heldMask", "[I", 2) ∈ cFS := List.mem_of_getElem? (i := 16) rfl
theorem mf_retry : (18, "retry", "[Z", 2) ∈ cFS := List.mem_of_getElem? (i := 17) rfl
theorem mf_effectDone : (19, "effectDone", "[Z", 2) ∈ cFS := List.mem_of_getElem? (i := 18) rfl
theorem mf_seen : (20, "seen", "[Z", 2) ∈ cFS := List.mem_of_getElem? (i := 19) rfl
theorem mf_seenVal : (21, "seenVal", "[I", 2) ∈ cFS := List.mem_of_getElem? (i := 20) rfl
theorem mf_firstVer : (22, "firstVer", "[I", 2) ∈ cFS := List.mem_of_getElem? (i := 21) rfl
theorem mf_moveIdx : (23, "moveIdx", "[I", 2) ∈ cFS := List.mem_of_getElem? (i := 22) rfl
theorem mf_pathLen : (24, "pathLen", "[I", 2) ∈ cFS := List.mem_of_getElem? (i := 23) rfl
theorem mf_pathBucket : (25, "pathBucket", "[I", 2) ∈ cFS := List.mem_of_getElem? (i := 24) rfl
theorem mf_pathSlot : (26, "pathSlot", "[I", 2) ∈ cFS := List.mem_of_getElem? (i := 25) rfl
theorem mf_bfsQueue : (27, "bfsQueue", "[I", 2) ∈ cFS := List.mem_of_getElem? (i := 26) rfl
theorem mf_bfsParent : (28, "bfsParent", "[I", 2) ∈ cFS := List.mem_of_getElem? (i := 27) rfl
theorem mf_bfsParentSlot : (29, "bfsParentSlot", "[I", 2) ∈ cFS := List.mem_of_getElem? (i := 28) rfl
theorem mf_bfsSeen : (30, "bfsSeen", "[Z", 2) ∈ cFS := List.mem_of_getElem? (i := 29) rfl
theorem mf_chain : (31, "chain", "[I", 2) ∈ cFS := List.mem_of_getElem? (i := 30) rfl
theorem mf_phDone : (119, "phDone", "I", 0) ∈ cFS := List.mem_of_getElem? (i := 31) rfl
theorem mf_phRead : (120, "phRead", "I", 0) ∈ cFS := List.mem_of_getElem? (i := 32) rfl
theorem mf_phSearch : (121, "phSearch", "I", 0) ∈ cFS := List.mem_of_getElem? (i := 33) rfl
theorem mf_phLock : (122, "phLock", "I", 0) ∈ cFS := List.mem_of_getElem? (i := 34) rfl
theorem mf_phCheck : (123, "phCheck", "I", 0) ∈ cFS := List.mem_of_getElem? (i := 35) rfl
theorem mf_phMove : (124, "phMove", "I", 0) ∈ cFS := List.mem_of_getElem? (i := 36) rfl
theorem mf_phPlace : (125, "phPlace", "I", 0) ∈ cFS := List.mem_of_getElem? (i := 37) rfl
theorem mf_phClear : (126, "phClear", "I", 0) ∈ cFS := List.mem_of_getElem? (i := 38) rfl
theorem mf_phUnlock : (127, "phUnlock", "I", 0) ∈ cFS := List.mem_of_getElem? (i := 39) rfl
theorem mf_maxStripes : (128, "maxStripes", "I", 0) ∈ cFS := List.mem_of_getElem? (i := 40) rfl
theorem mf_tableSlots : (129, "tableSlots", "I", 0) ∈ cFS := List.mem_of_getElem? (i := 41) rfl
theorem mf_pathMax : (130, "pathMax", "I", 0) ∈ cFS := List.mem_of_getElem? (i := 42) rfl
theorem mf_readSteps : (131, "readSteps", "I", 0) ∈ cFS := List.mem_of_getElem? (i := 43) rfl
theorem mf_stepBudget : (132, "stepBudget", "I", 0) ∈ cFS := List.mem_of_getElem? (i := 44) rfl
theorem mf_empty : (133, "empty", "I", 0) ∈ cFS := List.mem_of_getElem? (i := 45) rfl
theorem mf_nobody : (134, "nobody", "I", 0) ∈ cFS := List.mem_of_getElem? (i := 46) rfl
theorem mf_cap : (135, "cap", "I", 0) ∈ cFS := List.mem_of_getElem? (i := 47) rfl
theorem mf_stripeCount : (136, "stripeCount", "I", 0) ∈ cFS := List.mem_of_getElem? (i := 48) rfl
theorem mf_sizeCount : (139, "sizeCount", "I", 0) ∈ cFS := List.mem_of_getElem? (i := 49) rfl
theorem mf_reservedCount : (140, "reservedCount", "I", 0) ∈ cFS := List.mem_of_getElem? (i := 50) rfl
theorem ma_slotKey : ((1, .int, 256) : ASpec) ∈ cFA := List.mem_of_getElem? (i := 0) rfl
theorem ma_slotVal : ((2, .int, 256) : ASpec) ∈ cFA := List.mem_of_getElem? (i := 1) rfl
theorem ma_version : ((3, .int, 16) : ASpec) ∈ cFA := List.mem_of_getElem? (i := 2) rfl
theorem ma_owner : ((4, .int, 16) : ASpec) ∈ cFA := List.mem_of_getElem? (i := 3) rfl
theorem ma_qOp : ((5, .int, 32) : ASpec) ∈ cFA := List.mem_of_getElem? (i := 4) rfl
theorem ma_qKey : ((6, .int, 32) : ASpec) ∈ cFA := List.mem_of_getElem? (i := 5) rfl
theorem ma_qVal : ((7, .int, 32) : ASpec) ∈ cFA := List.mem_of_getElem? (i := 6) rfl
theorem ma_qLen : ((8, .int, 4) : ASpec) ∈ cFA := List.mem_of_getElem? (i := 7) rfl
theorem ma_resKey : ((9, .int, 32) : ASpec) ∈ cFA := List.mem_of_getElem? (i := 8) rfl
theorem ma_resStatus : ((10, .int, 32) : ASpec) ∈ cFA := List.mem_of_getElem? (i := 9) rfl
theorem ma_resVal : ((11, .int, 32) : ASpec) ∈ cFA := List.mem_of_getElem? (i := 10) rfl
theorem ma_resCount : ((12, .int, 4) : ASpec) ∈ cFA := List.mem_of_getElem? (i := 11) rfl
theorem ma_phase : ((13, .int, 4) : ASpec) ∈ cFA := List.mem_of_getElem? (i := 12) rfl
theorem ma_opIdx : ((14, .int, 4) : ASpec) ∈ cFA := List.mem_of_getElem? (i := 13) rfl
theorem ma_cursor : ((15, .int, 4) : ASpec) ∈ cFA := List.mem_of_getElem? (i := 14) rfl
theorem ma_lockMask : ((16, .int, 4) : ASpec) ∈ cFA := List.mem_of_getElem? (i := 15) rfl
theorem ma_heldMask : ((17, .int, 4) : ASpec) ∈ cFA := List.mem_of_getElem? (i := 16) rfl
theorem ma_retry : ((18, .boolean, 4) : ASpec) ∈ cFA := List.mem_of_getElem? (i := 17) rfl
theorem ma_effectDone : ((19, .boolean, 4) : ASpec) ∈ cFA := List.mem_of_getElem? (i := 18) rfl
theorem ma_seen : ((20, .boolean, 4) : ASpec) ∈ cFA := List.mem_of_getElem? (i := 19) rfl
theorem ma_seenVal : ((21, .int, 4) : ASpec) ∈ cFA := List.mem_of_getElem? (i := 20) rfl
theorem ma_firstVer : ((22, .int, 8) : ASpec) ∈ cFA := List.mem_of_getElem? (i := 21) rfl
theorem ma_moveIdx : ((23, .int, 4) : ASpec) ∈ cFA := List.mem_of_getElem? (i := 22) rfl
theorem ma_pathLen : ((24, .int, 4) : ASpec) ∈ cFA := List.mem_of_getElem? (i := 23) rfl
theorem ma_pathBucket : ((25, .int, 256) : ASpec) ∈ cFA := List.mem_of_getElem? (i := 24) rfl
theorem ma_pathSlot : ((26, .int, 256) : ASpec) ∈ cFA := List.mem_of_getElem? (i := 25) rfl
theorem ma_bfsQueue : ((27, .int, 64) : ASpec) ∈ cFA := List.mem_of_getElem? (i := 26) rfl
theorem ma_bfsParent : ((28, .int, 64) : ASpec) ∈ cFA := List.mem_of_getElem? (i := 27) rfl
theorem ma_bfsParentSlot : ((29, .int, 64) : ASpec) ∈ cFA := List.mem_of_getElem? (i := 28) rfl
theorem ma_bfsSeen : ((30, .boolean, 64) : ASpec) ∈ cFA := List.mem_of_getElem? (i := 29) rfl
theorem ma_chain : ((31, .int, 64) : ASpec) ∈ cFA := List.mem_of_getElem? (i := 30) rfl
theorem lgood : layGood cFS cFA 31 = true := by decide +kernel
theorem cj_31 : (ceJ 52 cFA [31]).1 ≤ 72 ∧ (ceJ 52 cFA [31]).2 ≤ 3456 := by decide +kernel
theorem cn_ : (ceJ 52 cFA []).1 + 1 ≤ 72 ∧ (ceJ 52 cFA []).2 + 52 ≤ 3456 := by decide +kernel
theorem ceI_nA : (1628 : Nat) = (ceI cFA 31).2 := by decide +kernel
theorem ceI_0 : (ceI cFA 0).2 = 0 := by decide +kernel
theorem layW {a0 : Array Value} {Z : State} (hw : HW a0 Z) : LayW Z a0 cC cFS 52 := by
  refine ⟨fun f hf => ?_, w1 hw, w2 hw⟩
  simp only [cFS, List.mem_cons, List.not_mem_nil, or_false] at hf
  rcases hf with rfl | rfl | rfl | rfl | rfl | rfl | rfl | rfl | rfl | rfl | rfl | rfl | rfl | rfl | rfl | rfl | rfl | rfl | rfl | rfl | rfl | rfl | rfl | rfl | rfl | rfl | rfl | rfl | rfl | rfl | rfl | rfl | rfl | rfl | rfl | rfl | rfl | rfl | rfl | rfl | rfl | rfl | rfl | rfl | rfl | rfl | rfl | rfl | rfl | rfl | rfl
  · exact Or.inr (w44 hw)
  · exact Or.inr (w46 hw)
  · exact Or.inr (w48 hw)
  · exact Or.inr (w50 hw)
  · exact Or.inr (w52 hw)
  · exact Or.inr (w54 hw)
  · exact Or.inr (w56 hw)
  · exact Or.inr (w58 hw)
  · exact Or.inr (w60 hw)
  · exact Or.inr (w62 hw)
  · exact Or.inr (w64 hw)
  · exact Or.inr (w66 hw)
  · exact Or.inr (w68 hw)
  · exact Or.inr (w70 hw)
  · exact Or.inr (w72 hw)
  · exact Or.inr (w74 hw)
  · exact Or.inr (w76 hw)
  · exact Or.inr (w79 hw)
  · exact Or.inr (w81 hw)
  · exact Or.inr (w83 hw)
  · exact Or.inr (w85 hw)
  · exact Or.inr (w87 hw)
  · exact Or.inr (w89 hw)
  · exact Or.inr (w91 hw)
  · exact Or.inr (w93 hw)
  · exact Or.inr (w95 hw)
  · exact Or.inr (w97 hw)
  · exact Or.inr (w99 hw)
  · exact Or.inr (w101 hw)
  · exact Or.inr (w103 hw)
  · exact Or.inr (w105 hw)
  · exact Or.inr (w10 hw)
  · exact Or.inr (w12 hw)
  · exact Or.inr (w14 hw)
  · exact Or.inr (w16 hw)
  · exact Or.inr (w18 hw)
  · exact Or.inr (w20 hw)
  · exact Or.inr (w22 hw)
  · exact Or.inr (w24 hw)
  · exact Or.inr (w26 hw)
  · exact Or.inr (w28 hw)
  · exact Or.inr (w30 hw)
  · exact Or.inr (w32 hw)
  · exact Or.inr (w34 hw)
  · exact Or.inr (w37 hw)
  · exact Or.inr (w39 hw)
  · exact Or.inr (w41 hw)
  · exact Or.inl (w111 hw)
  · exact Or.inl (w113 hw)
  · exact Or.inl (w161 hw)
  · exact Or.inl (w140 hw)
theorem pnC : plainName cC = true := by first | (simp [plainName, overriddenIn]; done) | decide +kernel
theorem pnL : plainName "OptiCuckooL2" = true := by first | (simp [plainName, overriddenIn]; done) | decide +kernel
theorem hyC : cC ≠ "java/lang/invoke/MethodHandle" ∧ cC ≠ "java/lang/invoke/VarHandle" := by decide
theorem hyL : "OptiCuckooL2" ≠ "java/lang/invoke/MethodHandle" ∧ "OptiCuckooL2" ≠ "java/lang/invoke/VarHandle" := by decide
theorem pfd_I : parseFieldDescriptor "I" = some .int := by decide +kernel
theorem pfd_Z : parseFieldDescriptor "Z" = some .boolean := by decide +kernel
theorem pfd_J : parseFieldDescriptor "J" = some .long := by decide +kernel
theorem pfd_AI : parseFieldDescriptor "[I" = some (.array .int) := by decide +kernel
theorem pfd_AZ : parseFieldDescriptor "[Z" = some (.array .boolean) := by decide +kernel
theorem pfd_AC : parseFieldDescriptor "[C" = some (.array .char) := by decide +kernel
theorem pd_0 : parseMethodDescriptor "(III)I" = some ⟨[.int, .int, .int], some .int⟩ := by decide +kernel
theorem pd_1 : parseMethodDescriptor "(II)I" = some ⟨[.int, .int], some .int⟩ := by decide +kernel
theorem pd_2 : parseMethodDescriptor "(I)I" = some ⟨[.int], some .int⟩ := by decide +kernel
theorem pd_3 : parseMethodDescriptor "(I)Z" = some ⟨[.int], some .boolean⟩ := by decide +kernel
theorem pd_4 : parseMethodDescriptor "()I" = some ⟨[], some .int⟩ := by decide +kernel
theorem pd_5 : parseMethodDescriptor "(II)V" = some ⟨[.int, .int], none⟩ := by decide +kernel
abbrev c3 : ByteArray := prog_1_method_16_code
theorem d3_0 : decode c3 0 = .ok (.iload_n 1, 1) := by decide +kernel
theorem d3_1 : decode c3 1 = .ok (.iload_n 2, 1) := by decide +kernel
theorem d3_2 : decode c3 2 = .ok (.if_icmp .ge 5, 3) := by decide +kernel
theorem d3_7 : decode c3 7 = .ok (.iload_n 1, 1) := by decide +kernel
theorem d3_8 : decode c3 8 = .ok (.iload_n 3, 1) := by decide +kernel
theorem d3_9 : decode c3 9 = .ok (.if_icmp .le 5, 3) := by decide +kernel
theorem d3_14 : decode c3 14 = .ok (.iload_n 1, 1) := by decide +kernel
theorem d3_15 : decode c3 15 = .ok (.ireturn, 1) := by decide +kernel
theorem d3_12 : decode c3 12 = .ok (.iload_n 3, 1) := by decide +kernel
theorem d3_13 : decode c3 13 = .ok (.ireturn, 1) := by decide +kernel
theorem d3_5 : decode c3 5 = .ok (.iload_n 2, 1) := by decide +kernel
theorem d3_6 : decode c3 6 = .ok (.ireturn, 1) := by decide +kernel
abbrev c2 : ByteArray := prog_1_method_1_code
theorem d2_0 : decode c2 0 = .ok (.aload_n 0, 1) := by decide +kernel
theorem d2_1 : decode c2 1 = .ok (.invokespecial 1, 3) := by decide +kernel
theorem d2_4 : decode c2 4 = .ok (.aload_n 0, 1) := by decide +kernel
theorem d2_5 : decode c2 5 = .ok (.iconst 0, 1) := by decide +kernel
theorem d2_6 : decode c2 6 = .ok (.putfield 7, 3) := by decide +kernel
theorem d2_9 : decode c2 9 = .ok (.aload_n 0, 1) := by decide +kernel
theorem d2_10 : decode c2 10 = .ok (.iconst 1, 1) := by decide +kernel
theorem d2_11 : decode c2 11 = .ok (.putfield 13, 3) := by decide +kernel
theorem d2_14 : decode c2 14 = .ok (.aload_n 0, 1) := by decide +kernel
theorem d2_15 : decode c2 15 = .ok (.iconst 2, 1) := by decide +kernel
theorem d2_16 : decode c2 16 = .ok (.putfield 16, 3) := by decide +kernel
theorem d2_19 : decode c2 19 = .ok (.aload_n 0, 1) := by decide +kernel
theorem d2_20 : decode c2 20 = .ok (.iconst 3, 1) := by decide +kernel
theorem d2_21 : decode c2 21 = .ok (.putfield 19, 3) := by decide +kernel
theorem d2_24 : decode c2 24 = .ok (.aload_n 0, 1) := by decide +kernel
theorem d2_25 : decode c2 25 = .ok (.iconst 4, 1) := by decide +kernel
theorem d2_26 : decode c2 26 = .ok (.putfield 22, 3) := by decide +kernel
theorem d2_29 : decode c2 29 = .ok (.aload_n 0, 1) := by decide +kernel
theorem d2_30 : decode c2 30 = .ok (.iconst 5, 1) := by decide +kernel
theorem d2_31 : decode c2 31 = .ok (.putfield 25, 3) := by decide +kernel
theorem d2_34 : decode c2 34 = .ok (.aload_n 0, 1) := by decide +kernel
theorem d2_35 : decode c2 35 = .ok (.bipush 6, 2) := by decide +kernel
theorem d2_37 : decode c2 37 = .ok (.putfield 28, 3) := by decide +kernel
theorem d2_40 : decode c2 40 = .ok (.aload_n 0, 1) := by decide +kernel
theorem d2_41 : decode c2 41 = .ok (.bipush 7, 2) := by decide +kernel
theorem d2_43 : decode c2 43 = .ok (.putfield 31, 3) := by decide +kernel
theorem d2_46 : decode c2 46 = .ok (.aload_n 0, 1) := by decide +kernel
theorem d2_47 : decode c2 47 = .ok (.bipush 8, 2) := by decide +kernel
theorem d2_49 : decode c2 49 = .ok (.putfield 34, 3) := by decide +kernel
theorem d2_52 : decode c2 52 = .ok (.aload_n 0, 1) := by decide +kernel
theorem d2_53 : decode c2 53 = .ok (.bipush 16, 2) := by decide +kernel
theorem d2_55 : decode c2 55 = .ok (.putfield 37, 3) := by decide +kernel
theorem d2_58 : decode c2 58 = .ok (.aload_n 0, 1) := by decide +kernel
theorem d2_59 : decode c2 59 = .ok (.sipush 256, 3) := by decide +kernel
theorem d2_62 : decode c2 62 = .ok (.putfield 40, 3) := by decide +kernel
theorem d2_65 : decode c2 65 = .ok (.aload_n 0, 1) := by decide +kernel
theorem d2_66 : decode c2 66 = .ok (.bipush 64, 2) := by decide +kernel
theorem d2_68 : decode c2 68 = .ok (.putfield 43, 3) := by decide +kernel
theorem d2_71 : decode c2 71 = .ok (.aload_n 0, 1) := by decide +kernel
theorem d2_72 : decode c2 72 = .ok (.bipush 12, 2) := by decide +kernel
theorem d2_74 : decode c2 74 = .ok (.putfield 46, 3) := by decide +kernel
theorem d2_77 : decode c2 77 = .ok (.aload_n 0, 1) := by decide +kernel
theorem d2_78 : decode c2 78 = .ok (.ldc 49, 2) := by decide +kernel
theorem d2_80 : decode c2 80 = .ok (.putfield 50, 3) := by decide +kernel
theorem d2_83 : decode c2 83 = .ok (.aload_n 0, 1) := by decide +kernel
theorem d2_84 : decode c2 84 = .ok (.iconst (-1), 1) := by decide +kernel
theorem d2_85 : decode c2 85 = .ok (.putfield 53, 3) := by decide +kernel
theorem d2_88 : decode c2 88 = .ok (.aload_n 0, 1) := by decide +kernel
theorem d2_89 : decode c2 89 = .ok (.iconst (-1), 1) := by decide +kernel
theorem d2_90 : decode c2 90 = .ok (.putfield 56, 3) := by decide +kernel
theorem d2_93 : decode c2 93 = .ok (.aload_n 0, 1) := by decide +kernel
theorem d2_94 : decode c2 94 = .ok (.sipush 256, 3) := by decide +kernel
theorem d2_97 : decode c2 97 = .ok (.newarray .int, 2) := by decide +kernel
theorem d2_99 : decode c2 99 = .ok (.putfield 59, 3) := by decide +kernel
theorem d2_102 : decode c2 102 = .ok (.aload_n 0, 1) := by decide +kernel
theorem d2_103 : decode c2 103 = .ok (.sipush 256, 3) := by decide +kernel
theorem d2_106 : decode c2 106 = .ok (.newarray .int, 2) := by decide +kernel
theorem d2_108 : decode c2 108 = .ok (.putfield 63, 3) := by decide +kernel
theorem d2_111 : decode c2 111 = .ok (.aload_n 0, 1) := by decide +kernel
theorem d2_112 : decode c2 112 = .ok (.bipush 16, 2) := by decide +kernel
theorem d2_114 : decode c2 114 = .ok (.newarray .int, 2) := by decide +kernel
theorem d2_116 : decode c2 116 = .ok (.putfield 66, 3) := by decide +kernel
theorem d2_119 : decode c2 119 = .ok (.aload_n 0, 1) := by decide +kernel
theorem d2_120 : decode c2 120 = .ok (.bipush 16, 2) := by decide +kernel
theorem d2_122 : decode c2 122 = .ok (.newarray .int, 2) := by decide +kernel
theorem d2_124 : decode c2 124 = .ok (.putfield 69, 3) := by decide +kernel
theorem d2_127 : decode c2 127 = .ok (.aload_n 0, 1) := by decide +kernel
theorem d2_128 : decode c2 128 = .ok (.bipush 32, 2) := by decide +kernel
theorem d2_130 : decode c2 130 = .ok (.newarray .int, 2) := by decide +kernel
theorem d2_132 : decode c2 132 = .ok (.putfield 72, 3) := by decide +kernel
theorem d2_135 : decode c2 135 = .ok (.aload_n 0, 1) := by decide +kernel
theorem d2_136 : decode c2 136 = .ok (.bipush 32, 2) := by decide +kernel
theorem d2_138 : decode c2 138 = .ok (.newarray .int, 2) := by decide +kernel
theorem d2_140 : decode c2 140 = .ok (.putfield 75, 3) := by decide +kernel
theorem d2_143 : decode c2 143 = .ok (.aload_n 0, 1) := by decide +kernel
theorem d2_144 : decode c2 144 = .ok (.bipush 32, 2) := by decide +kernel
theorem d2_146 : decode c2 146 = .ok (.newarray .int, 2) := by decide +kernel
theorem d2_148 : decode c2 148 = .ok (.putfield 78, 3) := by decide +kernel
theorem d2_151 : decode c2 151 = .ok (.aload_n 0, 1) := by decide +kernel
theorem d2_152 : decode c2 152 = .ok (.iconst 4, 1) := by decide +kernel
theorem d2_153 : decode c2 153 = .ok (.newarray .int, 2) := by decide +kernel
theorem d2_155 : decode c2 155 = .ok (.putfield 81, 3) := by decide +kernel
theorem d2_158 : decode c2 158 = .ok (.aload_n 0, 1) := by decide +kernel
theorem d2_159 : decode c2 159 = .ok (.bipush 32, 2) := by decide +kernel
theorem d2_161 : decode c2 161 = .ok (.newarray .int, 2) := by decide +kernel
theorem d2_163 : decode c2 163 = .ok (.putfield 84, 3) := by decide +kernel
theorem d2_166 : decode c2 166 = .ok (.aload_n 0, 1) := by decide +kernel
theorem d2_167 : decode c2 167 = .ok (.bipush 32, 2) := by decide +kernel
theorem d2_169 : decode c2 169 = .ok (.newarray .int, 2) := by decide +kernel
theorem d2_171 : decode c2 171 = .ok (.putfield 87, 3) := by decide +kernel
theorem d2_174 : decode c2 174 = .ok (.aload_n 0, 1) := by decide +kernel
theorem d2_175 : decode c2 175 = .ok (.bipush 32, 2) := by decide +kernel
theorem d2_177 : decode c2 177 = .ok (.newarray .int, 2) := by decide +kernel
theorem d2_179 : decode c2 179 = .ok (.putfield 90, 3) := by decide +kernel
theorem d2_182 : decode c2 182 = .ok (.aload_n 0, 1) := by decide +kernel
theorem d2_183 : decode c2 183 = .ok (.iconst 4, 1) := by decide +kernel
theorem d2_184 : decode c2 184 = .ok (.newarray .int, 2) := by decide +kernel
theorem d2_186 : decode c2 186 = .ok (.putfield 93, 3) := by decide +kernel
theorem d2_189 : decode c2 189 = .ok (.aload_n 0, 1) := by decide +kernel
theorem d2_190 : decode c2 190 = .ok (.iconst 4, 1) := by decide +kernel
theorem d2_191 : decode c2 191 = .ok (.newarray .int, 2) := by decide +kernel
theorem d2_193 : decode c2 193 = .ok (.putfield 96, 3) := by decide +kernel
theorem d2_196 : decode c2 196 = .ok (.aload_n 0, 1) := by decide +kernel
theorem d2_197 : decode c2 197 = .ok (.iconst 4, 1) := by decide +kernel
theorem d2_198 : decode c2 198 = .ok (.newarray .int, 2) := by decide +kernel
theorem d2_200 : decode c2 200 = .ok (.putfield 99, 3) := by decide +kernel
theorem d2_203 : decode c2 203 = .ok (.aload_n 0, 1) := by decide +kernel
theorem d2_204 : decode c2 204 = .ok (.iconst 4, 1) := by decide +kernel
theorem d2_205 : decode c2 205 = .ok (.newarray .int, 2) := by decide +kernel
theorem d2_207 : decode c2 207 = .ok (.putfield 102, 3) := by decide +kernel
theorem d2_210 : decode c2 210 = .ok (.aload_n 0, 1) := by decide +kernel
theorem d2_211 : decode c2 211 = .ok (.iconst 4, 1) := by decide +kernel
theorem d2_212 : decode c2 212 = .ok (.newarray .int, 2) := by decide +kernel
theorem d2_214 : decode c2 214 = .ok (.putfield 105, 3) := by decide +kernel
theorem d2_217 : decode c2 217 = .ok (.aload_n 0, 1) := by decide +kernel
theorem d2_218 : decode c2 218 = .ok (.iconst 4, 1) := by decide +kernel
theorem d2_219 : decode c2 219 = .ok (.newarray .int, 2) := by decide +kernel
theorem d2_221 : decode c2 221 = .ok (.putfield 108, 3) := by decide +kernel
theorem d2_224 : decode c2 224 = .ok (.aload_n 0, 1) := by decide +kernel
theorem d2_225 : decode c2 225 = .ok (.iconst 4, 1) := by decide +kernel
theorem d2_226 : decode c2 226 = .ok (.newarray .boolean, 2) := by decide +kernel
theorem d2_228 : decode c2 228 = .ok (.putfield 111, 3) := by decide +kernel
theorem d2_231 : decode c2 231 = .ok (.aload_n 0, 1) := by decide +kernel
theorem d2_232 : decode c2 232 = .ok (.iconst 4, 1) := by decide +kernel
theorem d2_233 : decode c2 233 = .ok (.newarray .boolean, 2) := by decide +kernel
theorem d2_235 : decode c2 235 = .ok (.putfield 115, 3) := by decide +kernel
theorem d2_238 : decode c2 238 = .ok (.aload_n 0, 1) := by decide +kernel
theorem d2_239 : decode c2 239 = .ok (.iconst 4, 1) := by decide +kernel
theorem d2_240 : decode c2 240 = .ok (.newarray .boolean, 2) := by decide +kernel
theorem d2_242 : decode c2 242 = .ok (.putfield 118, 3) := by decide +kernel
theorem d2_245 : decode c2 245 = .ok (.aload_n 0, 1) := by decide +kernel
theorem d2_246 : decode c2 246 = .ok (.iconst 4, 1) := by decide +kernel
theorem d2_247 : decode c2 247 = .ok (.newarray .int, 2) := by decide +kernel
theorem d2_249 : decode c2 249 = .ok (.putfield 121, 3) := by decide +kernel
theorem d2_252 : decode c2 252 = .ok (.aload_n 0, 1) := by decide +kernel
theorem d2_253 : decode c2 253 = .ok (.bipush 8, 2) := by decide +kernel
theorem d2_255 : decode c2 255 = .ok (.newarray .int, 2) := by decide +kernel
theorem d2_257 : decode c2 257 = .ok (.putfield 124, 3) := by decide +kernel
theorem d2_260 : decode c2 260 = .ok (.aload_n 0, 1) := by decide +kernel
theorem d2_261 : decode c2 261 = .ok (.iconst 4, 1) := by decide +kernel
theorem d2_262 : decode c2 262 = .ok (.newarray .int, 2) := by decide +kernel
theorem d2_264 : decode c2 264 = .ok (.putfield 127, 3) := by decide +kernel
theorem d2_267 : decode c2 267 = .ok (.aload_n 0, 1) := by decide +kernel
theorem d2_268 : decode c2 268 = .ok (.iconst 4, 1) := by decide +kernel
theorem d2_269 : decode c2 269 = .ok (.newarray .int, 2) := by decide +kernel
theorem d2_271 : decode c2 271 = .ok (.putfield 130, 3) := by decide +kernel
theorem d2_274 : decode c2 274 = .ok (.aload_n 0, 1) := by decide +kernel
theorem d2_275 : decode c2 275 = .ok (.sipush 256, 3) := by decide +kernel
theorem d2_278 : decode c2 278 = .ok (.newarray .int, 2) := by decide +kernel
theorem d2_280 : decode c2 280 = .ok (.putfield 133, 3) := by decide +kernel
theorem d2_283 : decode c2 283 = .ok (.aload_n 0, 1) := by decide +kernel
theorem d2_284 : decode c2 284 = .ok (.sipush 256, 3) := by decide +kernel
theorem d2_287 : decode c2 287 = .ok (.newarray .int, 2) := by decide +kernel
theorem d2_289 : decode c2 289 = .ok (.putfield 136, 3) := by decide +kernel
theorem d2_292 : decode c2 292 = .ok (.aload_n 0, 1) := by decide +kernel
theorem d2_293 : decode c2 293 = .ok (.bipush 64, 2) := by decide +kernel
theorem d2_295 : decode c2 295 = .ok (.newarray .int, 2) := by decide +kernel
theorem d2_297 : decode c2 297 = .ok (.putfield 139, 3) := by decide +kernel
theorem d2_300 : decode c2 300 = .ok (.aload_n 0, 1) := by decide +kernel
theorem d2_301 : decode c2 301 = .ok (.bipush 64, 2) := by decide +kernel
theorem d2_303 : decode c2 303 = .ok (.newarray .int, 2) := by decide +kernel
theorem d2_305 : decode c2 305 = .ok (.putfield 142, 3) := by decide +kernel
theorem d2_308 : decode c2 308 = .ok (.aload_n 0, 1) := by decide +kernel
theorem d2_309 : decode c2 309 = .ok (.bipush 64, 2) := by decide +kernel
theorem d2_311 : decode c2 311 = .ok (.newarray .int, 2) := by decide +kernel
theorem d2_313 : decode c2 313 = .ok (.putfield 145, 3) := by decide +kernel
theorem d2_316 : decode c2 316 = .ok (.aload_n 0, 1) := by decide +kernel
theorem d2_317 : decode c2 317 = .ok (.bipush 64, 2) := by decide +kernel
theorem d2_319 : decode c2 319 = .ok (.newarray .boolean, 2) := by decide +kernel
theorem d2_321 : decode c2 321 = .ok (.putfield 148, 3) := by decide +kernel
theorem d2_324 : decode c2 324 = .ok (.aload_n 0, 1) := by decide +kernel
theorem d2_325 : decode c2 325 = .ok (.bipush 64, 2) := by decide +kernel
theorem d2_327 : decode c2 327 = .ok (.newarray .int, 2) := by decide +kernel
theorem d2_329 : decode c2 329 = .ok (.putfield 151, 3) := by decide +kernel
theorem d2_332 : decode c2 332 = .ok (.aload_n 0, 1) := by decide +kernel
theorem d2_333 : decode c2 333 = .ok (.aload_n 0, 1) := by decide +kernel
theorem d2_334 : decode c2 334 = .ok (.iload_n 1, 1) := by decide +kernel
theorem d2_335 : decode c2 335 = .ok (.bipush 8, 2) := by decide +kernel
theorem d2_337 : decode c2 337 = .ok (.bipush 64, 2) := by decide +kernel
theorem d2_339 : decode c2 339 = .ok (.invokevirtual 154, 3) := by decide +kernel
theorem d2_342 : decode c2 342 = .ok (.putfield 158, 3) := by decide +kernel
theorem d2_345 : decode c2 345 = .ok (.aload_n 0, 1) := by decide +kernel
theorem d2_346 : decode c2 346 = .ok (.aload_n 0, 1) := by decide +kernel
theorem d2_347 : decode c2 347 = .ok (.iload_n 2, 1) := by decide +kernel
theorem d2_348 : decode c2 348 = .ok (.iconst 1, 1) := by decide +kernel
theorem d2_349 : decode c2 349 = .ok (.bipush 16, 2) := by decide +kernel
theorem d2_351 : decode c2 351 = .ok (.invokevirtual 154, 3) := by decide +kernel
theorem d2_354 : decode c2 354 = .ok (.putfield 161, 3) := by decide +kernel
theorem d2_357 : decode c2 357 = .ok (.iconst 0, 1) := by decide +kernel
theorem d2_358 : decode c2 358 = .ok (.istore_n 3, 1) := by decide +kernel
theorem d2_359 : decode c2 359 = .ok (.iload_n 3, 1) := by decide +kernel
theorem d2_360 : decode c2 360 = .ok (.sipush 256, 3) := by decide +kernel
theorem d2_363 : decode c2 363 = .ok (.if_icmp .ge 16, 3) := by decide +kernel
theorem d2_379 : decode c2 379 = .ok (.iconst 0, 1) := by decide +kernel
theorem d2_380 : decode c2 380 = .ok (.istore_n 3, 1) := by decide +kernel
theorem d2_381 : decode c2 381 = .ok (.iload_n 3, 1) := by decide +kernel
theorem d2_382 : decode c2 382 = .ok (.bipush 16, 2) := by decide +kernel
theorem d2_384 : decode c2 384 = .ok (.if_icmp .ge 16, 3) := by decide +kernel
theorem d2_400 : decode c2 400 = .ok (.return_, 1) := by decide +kernel
theorem d2_387 : decode c2 387 = .ok (.aload_n 0, 1) := by decide +kernel
theorem d2_388 : decode c2 388 = .ok (.getfield 69, 3) := by decide +kernel
theorem d2_391 : decode c2 391 = .ok (.iload_n 3, 1) := by decide +kernel
theorem d2_392 : decode c2 392 = .ok (.iconst (-1), 1) := by decide +kernel
theorem d2_393 : decode c2 393 = .ok (.iastore, 1) := by decide +kernel
theorem d2_394 : decode c2 394 = .ok (.iinc 3 1, 3) := by decide +kernel
theorem d2_397 : decode c2 397 = .ok (.goto (-16), 3) := by decide +kernel
theorem d2_366 : decode c2 366 = .ok (.aload_n 0, 1) := by decide +kernel
theorem d2_367 : decode c2 367 = .ok (.getfield 59, 3) := by decide +kernel
theorem d2_370 : decode c2 370 = .ok (.iload_n 3, 1) := by decide +kernel
theorem d2_371 : decode c2 371 = .ok (.iconst (-1), 1) := by decide +kernel
theorem d2_372 : decode c2 372 = .ok (.iastore, 1) := by decide +kernel
theorem d2_373 : decode c2 373 = .ok (.iinc 3 1, 3) := by decide +kernel
theorem d2_376 : decode c2 376 = .ok (.goto (-17), 3) := by decide +kernel
abbrev c6 : ByteArray := prog_1_method_24_code
theorem d6_0 : decode c6 0 = .ok (.iload_n 1, 1) := by decide +kernel
theorem d6_1 : decode c6 1 = .ok (.bipush 63, 2) := by decide +kernel
theorem d6_3 : decode c6 3 = .ok (.iand, 1) := by decide +kernel
theorem d6_4 : decode c6 4 = .ok (.iconst 2, 1) := by decide +kernel
theorem d6_5 : decode c6 5 = .ok (.ishl, 1) := by decide +kernel
theorem d6_6 : decode c6 6 = .ok (.iload_n 2, 1) := by decide +kernel
theorem d6_7 : decode c6 7 = .ok (.iconst 3, 1) := by decide +kernel
theorem d6_8 : decode c6 8 = .ok (.iand, 1) := by decide +kernel
theorem d6_9 : decode c6 9 = .ok (.ior, 1) := by decide +kernel
theorem d6_10 : decode c6 10 = .ok (.ireturn, 1) := by decide +kernel
abbrev c7 : ByteArray := prog_1_method_21_code
theorem d7_0 : decode c7 0 = .ok (.iload_n 1, 1) := by decide +kernel
theorem d7_1 : decode c7 1 = .ok (.bipush 31, 2) := by decide +kernel
theorem d7_3 : decode c7 3 = .ok (.iand, 1) := by decide +kernel
theorem d7_4 : decode c7 4 = .ok (.ireturn, 1) := by decide +kernel
abbrev c8 : ByteArray := prog_1_method_22_code
theorem d8_0 : decode c8 0 = .ok (.bipush 32, 2) := by decide +kernel
theorem d8_2 : decode c8 2 = .ok (.iload_n 1, 1) := by decide +kernel
theorem d8_3 : decode c8 3 = .ok (.iconst 5, 1) := by decide +kernel
theorem d8_4 : decode c8 4 = .ok (.ishr, 1) := by decide +kernel
theorem d8_5 : decode c8 5 = .ok (.bipush 7, 2) := by decide +kernel
theorem d8_7 : decode c8 7 = .ok (.iload_n 1, 1) := by decide +kernel
theorem d8_8 : decode c8 8 = .ok (.bipush 31, 2) := by decide +kernel
theorem d8_10 : decode c8 10 = .ok (.iand, 1) := by decide +kernel
theorem d8_11 : decode c8 11 = .ok (.imul, 1) := by decide +kernel
theorem d8_12 : decode c8 12 = .ok (.iadd, 1) := by decide +kernel
theorem d8_13 : decode c8 13 = .ok (.bipush 31, 2) := by decide +kernel
theorem d8_15 : decode c8 15 = .ok (.iand, 1) := by decide +kernel
theorem d8_16 : decode c8 16 = .ok (.iadd, 1) := by decide +kernel
theorem d8_17 : decode c8 17 = .ok (.ireturn, 1) := by decide +kernel
abbrev c5 : ByteArray := prog_1_method_28_code
theorem d5_0 : decode c5 0 = .ok (.iload_n 1, 1) := by decide +kernel
theorem d5_1 : decode c5 1 = .ok (.ifCond .lt 10, 3) := by decide +kernel
theorem d5_4 : decode c5 4 = .ok (.iload_n 1, 1) := by decide +kernel
theorem d5_5 : decode c5 5 = .ok (.sipush 1024, 3) := by decide +kernel
theorem d5_8 : decode c5 8 = .ok (.if_icmp .lt 5, 3) := by decide +kernel
theorem d5_13 : decode c5 13 = .ok (.aload_n 0, 1) := by decide +kernel
theorem d5_14 : decode c5 14 = .ok (.iload_n 1, 1) := by decide +kernel
theorem d5_15 : decode c5 15 = .ok (.invokevirtual 201, 3) := by decide +kernel
theorem d5_18 : decode c5 18 = .ok (.istore_n 2, 1) := by decide +kernel
theorem d5_19 : decode c5 19 = .ok (.aload_n 0, 1) := by decide +kernel
theorem d5_20 : decode c5 20 = .ok (.iload_n 1, 1) := by decide +kernel
theorem d5_21 : decode c5 21 = .ok (.invokevirtual 204, 3) := by decide +kernel
theorem d5_24 : decode c5 24 = .ok (.istore_n 3, 1) := by decide +kernel
theorem d5_25 : decode c5 25 = .ok (.iconst 0, 1) := by decide +kernel
theorem d5_26 : decode c5 26 = .ok (.istore 4, 2) := by decide +kernel
theorem d5_28 : decode c5 28 = .ok (.iload 4, 2) := by decide +kernel
theorem d5_30 : decode c5 30 = .ok (.iconst 4, 1) := by decide +kernel
theorem d5_31 : decode c5 31 = .ok (.if_icmp .ge 55, 3) := by decide +kernel
theorem d5_86 : decode c5 86 = .ok (.iconst (-1), 1) := by decide +kernel
theorem d5_87 : decode c5 87 = .ok (.ireturn, 1) := by decide +kernel
theorem d5_34 : decode c5 34 = .ok (.aload_n 0, 1) := by decide +kernel
theorem d5_35 : decode c5 35 = .ok (.iload_n 2, 1) := by decide +kernel
theorem d5_36 : decode c5 36 = .ok (.iload 4, 2) := by decide +kernel
theorem d5_38 : decode c5 38 = .ok (.invokevirtual 213, 3) := by decide +kernel
theorem d5_41 : decode c5 41 = .ok (.istore 5, 2) := by decide +kernel
theorem d5_43 : decode c5 43 = .ok (.aload_n 0, 1) := by decide +kernel
theorem d5_44 : decode c5 44 = .ok (.getfield 59, 3) := by decide +kernel
theorem d5_47 : decode c5 47 = .ok (.iload 5, 2) := by decide +kernel
theorem d5_49 : decode c5 49 = .ok (.iaload, 1) := by decide +kernel
theorem d5_50 : decode c5 50 = .ok (.iload_n 1, 1) := by decide +kernel
theorem d5_51 : decode c5 51 = .ok (.if_icmp .ne 6, 3) := by decide +kernel
theorem d5_57 : decode c5 57 = .ok (.aload_n 0, 1) := by decide +kernel
theorem d5_58 : decode c5 58 = .ok (.iload_n 3, 1) := by decide +kernel
theorem d5_59 : decode c5 59 = .ok (.iload 4, 2) := by decide +kernel
theorem d5_61 : decode c5 61 = .ok (.invokevirtual 213, 3) := by decide +kernel
theorem d5_64 : decode c5 64 = .ok (.istore 6, 2) := by decide +kernel
theorem d5_66 : decode c5 66 = .ok (.aload_n 0, 1) := by decide +kernel
theorem d5_67 : decode c5 67 = .ok (.getfield 59, 3) := by decide +kernel
theorem d5_70 : decode c5 70 = .ok (.iload 6, 2) := by decide +kernel
theorem d5_72 : decode c5 72 = .ok (.iaload, 1) := by decide +kernel
theorem d5_73 : decode c5 73 = .ok (.iload_n 1, 1) := by decide +kernel
theorem d5_74 : decode c5 74 = .ok (.if_icmp .ne 6, 3) := by decide +kernel
theorem d5_80 : decode c5 80 = .ok (.iinc 4 1, 3) := by decide +kernel
theorem d5_83 : decode c5 83 = .ok (.goto (-55), 3) := by decide +kernel
theorem d5_77 : decode c5 77 = .ok (.iload 6, 2) := by decide +kernel
theorem d5_79 : decode c5 79 = .ok (.ireturn, 1) := by decide +kernel
theorem d5_54 : decode c5 54 = .ok (.iload 5, 2) := by decide +kernel
theorem d5_56 : decode c5 56 = .ok (.ireturn, 1) := by decide +kernel
theorem d5_11 : decode c5 11 = .ok (.iconst (-1), 1) := by decide +kernel
theorem d5_12 : decode c5 12 = .ok (.ireturn, 1) := by decide +kernel
abbrev c9 : ByteArray := prog_1_method_19_code
theorem d9_0 : decode c9 0 = .ok (.iload_n 1, 1) := by decide +kernel
theorem d9_1 : decode c9 1 = .ok (.iconst 3, 1) := by decide +kernel
theorem d9_2 : decode c9 2 = .ok (.iand, 1) := by decide +kernel
theorem d9_3 : decode c9 3 = .ok (.istore_n 2, 1) := by decide +kernel
theorem d9_4 : decode c9 4 = .ok (.iconst 0, 1) := by decide +kernel
theorem d9_5 : decode c9 5 = .ok (.istore_n 3, 1) := by decide +kernel
theorem d9_6 : decode c9 6 = .ok (.iload_n 3, 1) := by decide +kernel
theorem d9_7 : decode c9 7 = .ok (.aload_n 0, 1) := by decide +kernel
theorem d9_8 : decode c9 8 = .ok (.getfield 81, 3) := by decide +kernel
theorem d9_11 : decode c9 11 = .ok (.iload_n 2, 1) := by decide +kernel
theorem d9_12 : decode c9 12 = .ok (.iaload, 1) := by decide +kernel
theorem d9_13 : decode c9 13 = .ok (.if_icmp .ge 47, 3) := by decide +kernel
theorem d9_16 : decode c9 16 = .ok (.iload_n 3, 1) := by decide +kernel
theorem d9_17 : decode c9 17 = .ok (.bipush 8, 2) := by decide +kernel
theorem d9_19 : decode c9 19 = .ok (.if_icmp .ge 41, 3) := by decide +kernel
theorem d9_60 : decode c9 60 = .ok (.iconst 0, 1) := by decide +kernel
theorem d9_61 : decode c9 61 = .ok (.ireturn, 1) := by decide +kernel
theorem d9_22 : decode c9 22 = .ok (.iload_n 2, 1) := by decide +kernel
theorem d9_23 : decode c9 23 = .ok (.bipush 8, 2) := by decide +kernel
theorem d9_25 : decode c9 25 = .ok (.imul, 1) := by decide +kernel
theorem d9_26 : decode c9 26 = .ok (.iload_n 3, 1) := by decide +kernel
theorem d9_27 : decode c9 27 = .ok (.iadd, 1) := by decide +kernel
theorem d9_28 : decode c9 28 = .ok (.istore 4, 2) := by decide +kernel
theorem d9_30 : decode c9 30 = .ok (.aload_n 0, 1) := by decide +kernel
theorem d9_31 : decode c9 31 = .ok (.getfield 72, 3) := by decide +kernel
theorem d9_34 : decode c9 34 = .ok (.iload 4, 2) := by decide +kernel
theorem d9_36 : decode c9 36 = .ok (.iaload, 1) := by decide +kernel
theorem d9_37 : decode c9 37 = .ok (.iconst 1, 1) := by decide +kernel
theorem d9_38 : decode c9 38 = .ok (.if_icmp .ne 16, 3) := by decide +kernel
theorem d9_41 : decode c9 41 = .ok (.aload_n 0, 1) := by decide +kernel
theorem d9_42 : decode c9 42 = .ok (.getfield 75, 3) := by decide +kernel
theorem d9_45 : decode c9 45 = .ok (.iload 4, 2) := by decide +kernel
theorem d9_47 : decode c9 47 = .ok (.iaload, 1) := by decide +kernel
theorem d9_48 : decode c9 48 = .ok (.iload_n 1, 1) := by decide +kernel
theorem d9_49 : decode c9 49 = .ok (.if_icmp .ne 5, 3) := by decide +kernel
theorem d9_54 : decode c9 54 = .ok (.iinc 3 1, 3) := by decide +kernel
theorem d9_57 : decode c9 57 = .ok (.goto (-51), 3) := by decide +kernel
theorem d9_52 : decode c9 52 = .ok (.iconst 1, 1) := by decide +kernel
theorem d9_53 : decode c9 53 = .ok (.ireturn, 1) := by decide +kernel
abbrev c4 : ByteArray := prog_1_method_4_code
theorem d4_0 : decode c4 0 = .ok (.iload_n 1, 1) := by decide +kernel
theorem d4_1 : decode c4 1 = .ok (.iconst 1, 1) := by decide +kernel
theorem d4_2 : decode c4 2 = .ok (.if_icmp .eq 15, 3) := by decide +kernel
theorem d4_5 : decode c4 5 = .ok (.iload_n 1, 1) := by decide +kernel
theorem d4_6 : decode c4 6 = .ok (.iconst 2, 1) := by decide +kernel
theorem d4_7 : decode c4 7 = .ok (.if_icmp .eq 10, 3) := by decide +kernel
theorem d4_10 : decode c4 10 = .ok (.iload_n 1, 1) := by decide +kernel
theorem d4_11 : decode c4 11 = .ok (.iconst 3, 1) := by decide +kernel
theorem d4_12 : decode c4 12 = .ok (.if_icmp .eq 5, 3) := by decide +kernel
theorem d4_17 : decode c4 17 = .ok (.iload_n 2, 1) := by decide +kernel
theorem d4_18 : decode c4 18 = .ok (.ifCond .lt 10, 3) := by decide +kernel
theorem d4_21 : decode c4 21 = .ok (.iload_n 2, 1) := by decide +kernel
theorem d4_22 : decode c4 22 = .ok (.sipush 1024, 3) := by decide +kernel
theorem d4_25 : decode c4 25 = .ok (.if_icmp .lt 6, 3) := by decide +kernel
theorem d4_31 : decode c4 31 = .ok (.iload_n 2, 1) := by decide +kernel
theorem d4_32 : decode c4 32 = .ok (.iconst 3, 1) := by decide +kernel
theorem d4_33 : decode c4 33 = .ok (.iand, 1) := by decide +kernel
theorem d4_34 : decode c4 34 = .ok (.istore 4, 2) := by decide +kernel
theorem d4_36 : decode c4 36 = .ok (.aload_n 0, 1) := by decide +kernel
theorem d4_37 : decode c4 37 = .ok (.getfield 81, 3) := by decide +kernel
theorem d4_40 : decode c4 40 = .ok (.iload 4, 2) := by decide +kernel
theorem d4_42 : decode c4 42 = .ok (.iaload, 1) := by decide +kernel
theorem d4_43 : decode c4 43 = .ok (.istore 5, 2) := by decide +kernel
theorem d4_45 : decode c4 45 = .ok (.iload 5, 2) := by decide +kernel
theorem d4_47 : decode c4 47 = .ok (.bipush 8, 2) := by decide +kernel
theorem d4_49 : decode c4 49 = .ok (.if_icmp .lt 6, 3) := by decide +kernel
theorem d4_55 : decode c4 55 = .ok (.iload_n 1, 1) := by decide +kernel
theorem d4_56 : decode c4 56 = .ok (.iconst 1, 1) := by decide +kernel
theorem d4_57 : decode c4 57 = .ok (.if_icmp .ne 23, 3) := by decide +kernel
theorem d4_60 : decode c4 60 = .ok (.aload_n 0, 1) := by decide +kernel
theorem d4_61 : decode c4 61 = .ok (.iload_n 2, 1) := by decide +kernel
theorem d4_62 : decode c4 62 = .ok (.invokevirtual 164, 3) := by decide +kernel
theorem d4_65 : decode c4 65 = .ok (.ifCond .ge 15, 3) := by decide +kernel
theorem d4_68 : decode c4 68 = .ok (.aload_n 0, 1) := by decide +kernel
theorem d4_69 : decode c4 69 = .ok (.iload_n 2, 1) := by decide +kernel
theorem d4_70 : decode c4 70 = .ok (.invokevirtual 168, 3) := by decide +kernel
theorem d4_73 : decode c4 73 = .ok (.ifCond .ne 7, 3) := by decide +kernel
theorem d4_80 : decode c4 80 = .ok (.iconst 0, 1) := by decide +kernel
theorem d4_76 : decode c4 76 = .ok (.iconst 1, 1) := by decide +kernel
theorem d4_77 : decode c4 77 = .ok (.goto 4, 3) := by decide +kernel
theorem d4_81 : decode c4 81 = .ok (.istore 6, 2) := by decide +kernel
theorem d4_83 : decode c4 83 = .ok (.iload 6, 2) := by decide +kernel
theorem d4_85 : decode c4 85 = .ok (.ifCond .eq 17, 3) := by decide +kernel
theorem d4_88 : decode c4 88 = .ok (.aload_n 0, 1) := by decide +kernel
theorem d4_89 : decode c4 89 = .ok (.getfield 172, 3) := by decide +kernel
theorem d4_92 : decode c4 92 = .ok (.aload_n 0, 1) := by decide +kernel
theorem d4_93 : decode c4 93 = .ok (.getfield 158, 3) := by decide +kernel
theorem d4_96 : decode c4 96 = .ok (.if_icmp .lt 6, 3) := by decide +kernel
theorem d4_102 : decode c4 102 = .ok (.iload 4, 2) := by decide +kernel
theorem d4_104 : decode c4 104 = .ok (.bipush 8, 2) := by decide +kernel
theorem d4_106 : decode c4 106 = .ok (.imul, 1) := by decide +kernel
theorem d4_107 : decode c4 107 = .ok (.iload 5, 2) := by decide +kernel
theorem d4_109 : decode c4 109 = .ok (.iadd, 1) := by decide +kernel
theorem d4_110 : decode c4 110 = .ok (.istore 7, 2) := by decide +kernel
theorem d4_112 : decode c4 112 = .ok (.aload_n 0, 1) := by decide +kernel
theorem d4_113 : decode c4 113 = .ok (.getfield 72, 3) := by decide +kernel
theorem d4_116 : decode c4 116 = .ok (.iload 7, 2) := by decide +kernel
theorem d4_118 : decode c4 118 = .ok (.iload_n 1, 1) := by decide +kernel
theorem d4_119 : decode c4 119 = .ok (.iastore, 1) := by decide +kernel
theorem d4_120 : decode c4 120 = .ok (.aload_n 0, 1) := by decide +kernel
theorem d4_121 : decode c4 121 = .ok (.getfield 75, 3) := by decide +kernel
theorem d4_124 : decode c4 124 = .ok (.iload 7, 2) := by decide +kernel
theorem d4_126 : decode c4 126 = .ok (.iload_n 2, 1) := by decide +kernel
theorem d4_127 : decode c4 127 = .ok (.iastore, 1) := by decide +kernel
theorem d4_128 : decode c4 128 = .ok (.aload_n 0, 1) := by decide +kernel
theorem d4_129 : decode c4 129 = .ok (.getfield 78, 3) := by decide +kernel
theorem d4_132 : decode c4 132 = .ok (.iload 7, 2) := by decide +kernel
theorem d4_134 : decode c4 134 = .ok (.iload_n 3, 1) := by decide +kernel
theorem d4_135 : decode c4 135 = .ok (.iastore, 1) := by decide +kernel
theorem d4_136 : decode c4 136 = .ok (.aload_n 0, 1) := by decide +kernel
theorem d4_137 : decode c4 137 = .ok (.getfield 81, 3) := by decide +kernel
theorem d4_140 : decode c4 140 = .ok (.iload 4, 2) := by decide +kernel
theorem d4_142 : decode c4 142 = .ok (.iload 5, 2) := by decide +kernel
theorem d4_144 : decode c4 144 = .ok (.iconst 1, 1) := by decide +kernel
theorem d4_145 : decode c4 145 = .ok (.iadd, 1) := by decide +kernel
theorem d4_146 : decode c4 146 = .ok (.iastore, 1) := by decide +kernel
theorem d4_147 : decode c4 147 = .ok (.iload 6, 2) := by decide +kernel
theorem d4_149 : decode c4 149 = .ok (.ifCond .eq 13, 3) := by decide +kernel
theorem d4_152 : decode c4 152 = .ok (.aload_n 0, 1) := by decide +kernel
theorem d4_153 : decode c4 153 = .ok (.dup, 1) := by decide +kernel
theorem d4_154 : decode c4 154 = .ok (.getfield 172, 3) := by decide +kernel
theorem d4_157 : decode c4 157 = .ok (.iconst 1, 1) := by decide +kernel
theorem d4_158 : decode c4 158 = .ok (.iadd, 1) := by decide +kernel
theorem d4_159 : decode c4 159 = .ok (.putfield 172, 3) := by decide +kernel
theorem d4_162 : decode c4 162 = .ok (.iload 5, 2) := by decide +kernel
theorem d4_164 : decode c4 164 = .ok (.ireturn, 1) := by decide +kernel
theorem d4_99 : decode c4 99 = .ok (.bipush (-4), 2) := by decide +kernel
theorem d4_101 : decode c4 101 = .ok (.ireturn, 1) := by decide +kernel
theorem d4_52 : decode c4 52 = .ok (.bipush (-3), 2) := by decide +kernel
theorem d4_54 : decode c4 54 = .ok (.ireturn, 1) := by decide +kernel
theorem d4_28 : decode c4 28 = .ok (.bipush (-2), 2) := by decide +kernel
theorem d4_30 : decode c4 30 = .ok (.ireturn, 1) := by decide +kernel
theorem d4_15 : decode c4 15 = .ok (.iconst (-1), 1) := by decide +kernel
theorem d4_16 : decode c4 16 = .ok (.ireturn, 1) := by decide +kernel
abbrev c11 : ByteArray := prog_1_method_17_code
theorem d11_0 : decode c11 0 = .ok (.iload_n 1, 1) := by decide +kernel
theorem d11_1 : decode c11 1 = .ok (.ifCond .lt 12, 3) := by decide +kernel
theorem d11_4 : decode c11 4 = .ok (.iload_n 1, 1) := by decide +kernel
theorem d11_5 : decode c11 5 = .ok (.iconst 4, 1) := by decide +kernel
theorem d11_6 : decode c11 6 = .ok (.if_icmp .ge 7, 3) := by decide +kernel
theorem d11_13 : decode c11 13 = .ok (.iconst 0, 1) := by decide +kernel
theorem d11_9 : decode c11 9 = .ok (.iconst 1, 1) := by decide +kernel
theorem d11_10 : decode c11 10 = .ok (.goto 4, 3) := by decide +kernel
theorem d11_14 : decode c11 14 = .ok (.ireturn, 1) := by decide +kernel
abbrev c10 : ByteArray := prog_1_method_5_code
theorem d10_0 : decode c10 0 = .ok (.aload_n 0, 1) := by decide +kernel
theorem d10_1 : decode c10 1 = .ok (.iload_n 1, 1) := by decide +kernel
theorem d10_2 : decode c10 2 = .ok (.invokevirtual 175, 3) := by decide +kernel
theorem d10_5 : decode c10 5 = .ok (.ifCond .ne 5, 3) := by decide +kernel
theorem d10_10 : decode c10 10 = .ok (.aload_n 0, 1) := by decide +kernel
theorem d10_11 : decode c10 11 = .ok (.getfield 81, 3) := by decide +kernel
theorem d10_14 : decode c10 14 = .ok (.iload_n 1, 1) := by decide +kernel
theorem d10_15 : decode c10 15 = .ok (.iaload, 1) := by decide +kernel
theorem d10_16 : decode c10 16 = .ok (.ireturn, 1) := by decide +kernel
theorem d10_8 : decode c10 8 = .ok (.iconst (-1), 1) := by decide +kernel
theorem d10_9 : decode c10 9 = .ok (.ireturn, 1) := by decide +kernel
abbrev c12 : ByteArray := prog_1_method_14_code
theorem d12_0 : decode c12 0 = .ok (.aload_n 0, 1) := by decide +kernel
theorem d12_1 : decode c12 1 = .ok (.getfield 172, 3) := by decide +kernel
theorem d12_4 : decode c12 4 = .ok (.ireturn, 1) := by decide +kernel
abbrev c13 : ByteArray := prog_1_method_13_code
theorem d13_0 : decode c13 0 = .ok (.aload_n 0, 1) := by decide +kernel
theorem d13_1 : decode c13 1 = .ok (.getfield 198, 3) := by decide +kernel
theorem d13_4 : decode c13 4 = .ok (.ireturn, 1) := by decide +kernel
abbrev KM_M_clamp (X : Cx (St × Nat)) (Z : State) (a0 : Array Value) (l : Launch) (n1 : Nat) (a : Addr) (h0 : Heap) : Prop := CtxC X Z a0 cC cFS cFA 31 52 l n1 a h0 ce0 ⟨0, 0, 0, 0⟩ "clamp" c3 4 (some .int)
def M_clamp (σ : St) (v1 : Int32) (v2 : Int32) (v3 : Int32) : Option (Int32 × St) :=
  (if v1 < v2 then (some (v2, σ)) else (if v3 < v1 then (some (v3, σ)) else (some (v1, σ))))
theorem ok_M_clamp {X : Cx (St × Nat)} {Z : State} {a0 : Array Value} {l : Launch} {n1 : Nat} {a : Addr} {h0 : Heap} (K : KM_M_clamp X Z a0 l n1 a h0) (hw : HW a0 Z) {σ : St} {v1 : Int32} {v2 : Int32} {v3 : Int32} {r : Int32 × St} (h : M_clamp σ v1 v2 v3 = some r) : Go X (some (.int r.1), (r.2, 31)) 0 [some (.ref 0), some (.int v1), some (.int v2), some (.int v3)] [] (σ, 31) := by
  unfold M_clamp at h
  refine g_iloadN (pc := 0) K.1 d3_0 rfl ?_
  refine g_iloadN (pc := 1) K.1 d3_1 rfl ?_
  rcases ifs h with ⟨hc2, h⟩ | ⟨hc2, h⟩
  · refine g_icF (pc := 2) K.1 d3_2 ((tlt hc2).2.1) ?_
    refine g_iloadN (pc := 5) K.1 d3_5 rfl ?_
    cases h; exact g_ireturn K.1 d3_6 (capC K)
  refine g_icT (pc := 2) (pc' := 7) K.1 d3_2 (by decide) ((flt hc2).2.1) ?_
  refine g_iloadN (pc := 7) K.1 d3_7 rfl ?_
  refine g_iloadN (pc := 8) K.1 d3_8 rfl ?_
  rcases ifs h with ⟨hc9, h⟩ | ⟨hc9, h⟩
  · refine g_icF (pc := 9) K.1 d3_9 ((tlt hc9).2.2.2) ?_
    refine g_iloadN (pc := 12) K.1 d3_12 rfl ?_
    cases h; exact g_ireturn K.1 d3_13 (capC K)
  refine g_icT (pc := 9) (pc' := 14) K.1 d3_9 (by decide) ((flt hc9).2.2.2) ?_
  refine g_iloadN (pc := 14) K.1 d3_14 rfl ?_
  cases h; exact g_ireturn K.1 d3_15 (capC K)
theorem con_M_clamp (l : Launch) (Z : State) (a0 : Array Value) (hw : HW a0 Z) (n1 : Nat) (a : Addr) (ha : n1 ≤ a) {σ : St} {v1 : Int32} {v2 : Int32} {v3 : Int32} {r : Int32 × St} (h : M_clamp σ v1 v2 v3 = some r) : Con l Z cC cFS cFA 31 n1 a ⟨cC, "clamp", "(III)I"⟩ c3 4 (some .int) ⟨0, 0, 0, 0⟩ [.ref 0, .int v1, .int v2, .int v3] σ (some (.int r.1)) r.2 :=
  con_of_go pnC rfl (layW hw) lgood ha (fun X h1 K => ok_M_clamp K hw h)
abbrev KM_M_init (X : Cx (St × Nat)) (Z : State) (a0 : Array Value) (l : Launch) (n1 : Nat) (a : Addr) (h0 : Heap) : Prop := CtxC X Z a0 cC cFS cFA 31 52 l n1 a h0 (ceI cFA) ⟨1, 31, 1628, 16⟩ "<init>" c2 4 none
def M_init_w381 (NF : Nat) (k381 : Int32 → St → Option (St)) (i3 : Int32) (σ : St) : Option (St) :=
  (if i3 < (16 : Int32) then (if 0 ≤ (i3).toInt ∧ (i3).toInt < 16 then k381 (i3 + (1 : Int32)) (sA σ 4 (i3).toInt (-1 : Int32)) else none) else (some σ))
theorem ok_M_init_w381 {X : Cx (St × Nat)} {Z : State} {a0 : Array Value} {l : Launch} {n1 : Nat} {a : Addr} {h0 : Heap} {NF : Nat} (K : KM_M_init X Z a0 l n1 a h0) (hw : HW a0 Z) (hh : h0.size = a + 1) {k381 : Int32 → St → Option (St)} {i3 : Int32} {σ : St} {r : St} (hk381 : ∀ (i3 : Int32) (σ : St) (h : k381 i3 σ = some r), Go X (none, (r, 31)) 381 [some (.ref 0), none, none, some (.int i3)] [] (σ, 31)) (h : M_init_w381 NF k381 i3 σ = some r) : Go X (none, (r, 31)) 381 [some (.ref 0), none, none, some (.int i3)] [] (σ, 31) := by
  unfold M_init_w381 at h
  refine g_iloadN (pc := 381) K.1 d2_381 rfl ?_
  refine g_bipush (pc := 382) (v := 16) K.1 d2_382 (by decide) ?_
  rcases ifs h with ⟨hc384, h⟩ | ⟨hc384, h⟩
  · refine g_icF (pc := 384) K.1 d2_384 ((tlt hc384).2.1) ?_
    refine g_aloadN (pc := 387) K.1 d2_387 rfl ?_
    refine g_getA (pc := 388) K d2_388 (w49 hw) mf_owner rfl ?_
    refine g_iloadN (pc := 391) K.1 d2_391 rfl ?_
    refine g_iconst (pc := 392) (v := -1) K.1 d2_392 (by decide) ?_
    obtain ⟨hc393, h⟩ := ifn h
    refine g_iastore (pc := 393) K d2_393 ma_owner rfl hc393 ?_
    refine g_iinc (pc := 394) (w := 1) (L' := [some (.ref 0), none, none, some (.int (i3 + (1 : Int32)))]) K.1 d2_394 rfl (by decide) rfl ?_
    refine g_goto (pc := 397) (pc' := 381) K.1 d2_397 (by decide) ?_
    exact hk381 _ _ h
  refine g_icT (pc := 384) (pc' := 400) K.1 d2_384 (by decide) ((flt hc384).2.1) ?_
  cases h; exact g_return K.1 d2_400 (capC K)
def M_init_l381 (NF : Nat)  : Nat → Int32 → St → Option (St)
  | 0 => fun _ _ => none
  | n + 1 => fun i3 σ => M_init_w381 NF  (M_init_l381 NF  n) i3 σ
theorem ok_M_init_l381 {X : Cx (St × Nat)} {Z : State} {a0 : Array Value} {l : Launch} {n1 : Nat} {a : Addr} {h0 : Heap} {NF : Nat} (K : KM_M_init X Z a0 l n1 a h0) (hw : HW a0 Z) (hh : h0.size = a + 1) (n : Nat)  {r : St}  : ∀ (i3 : Int32) (σ : St) (h : M_init_l381 NF  n i3 σ = some r), Go X (none, (r, 31)) 381 [some (.ref 0), none, none, some (.int i3)] [] (σ, 31) := by
  induction n with
  | zero => intro i3 σ h; cases h
  | succ n ih => intro i3 σ h; exact ok_M_init_w381 (NF := NF) K hw hh  ih h
def M_init_w359 (NF : Nat) (k359 : Int32 → St → Option (St)) (i3 : Int32) (σ : St) : Option (St) :=
  (if i3 < (256 : Int32) then (if 0 ≤ (i3).toInt ∧ (i3).toInt < 256 then k359 (i3 + (1 : Int32)) (sA σ 1 (i3).toInt (-1 : Int32)) else none) else M_init_l381 NF NF (0 : Int32) σ)
theorem ok_M_init_w359 {X : Cx (St × Nat)} {Z : State} {a0 : Array Value} {l : Launch} {n1 : Nat} {a : Addr} {h0 : Heap} {NF : Nat} (K : KM_M_init X Z a0 l n1 a h0) (hw : HW a0 Z) (hh : h0.size = a + 1) {k359 : Int32 → St → Option (St)} {i3 : Int32} {σ : St} {r : St} (hk359 : ∀ (i3 : Int32) (σ : St) (h : k359 i3 σ = some r), Go X (none, (r, 31)) 359 [some (.ref 0), none, none, some (.int i3)] [] (σ, 31)) (h : M_init_w359 NF k359 i3 σ = some r) : Go X (none, (r, 31)) 359 [some (.ref 0), none, none, some (.int i3)] [] (σ, 31) := by
  unfold M_init_w359 at h
  refine g_iloadN (pc := 359) K.1 d2_359 rfl ?_
  refine g_sipush (pc := 360) (v := 256) K.1 d2_360 (by decide) ?_
  rcases ifs h with ⟨hc363, h⟩ | ⟨hc363, h⟩
  · refine g_icF (pc := 363) K.1 d2_363 ((tlt hc363).2.1) ?_
    refine g_aloadN (pc := 366) K.1 d2_366 rfl ?_
    refine g_getA (pc := 367) K d2_367 (w43 hw) mf_slotKey rfl ?_
    refine g_iloadN (pc := 370) K.1 d2_370 rfl ?_
    refine g_iconst (pc := 371) (v := -1) K.1 d2_371 (by decide) ?_
    obtain ⟨hc372, h⟩ := ifn h
    refine g_iastore (pc := 372) K d2_372 ma_slotKey rfl hc372 ?_
    refine g_iinc (pc := 373) (w := 1) (L' := [some (.ref 0), none, none, some (.int (i3 + (1 : Int32)))]) K.1 d2_373 rfl (by decide) rfl ?_
    refine g_goto (pc := 376) (pc' := 359) K.1 d2_376 (by decide) ?_
    exact hk359 _ _ h
  refine g_icT (pc := 363) (pc' := 379) K.1 d2_363 (by decide) ((flt hc363).2.1) ?_
  refine g_iconst (pc := 379) (v := 0) K.1 d2_379 (by decide) ?_
  refine g_istoreN (pc := 380) (L' := [some (.ref 0), none, none, some (.int (0 : Int32))]) K.1 d2_380 (blt rfl) rfl ?_
  exact ok_M_init_l381 K hw hh NF  _ _ h
def M_init_l359 (NF : Nat)  : Nat → Int32 → St → Option (St)
  | 0 => fun _ _ => none
  | n + 1 => fun i3 σ => M_init_w359 NF  (M_init_l359 NF  n) i3 σ
theorem ok_M_init_l359 {X : Cx (St × Nat)} {Z : State} {a0 : Array Value} {l : Launch} {n1 : Nat} {a : Addr} {h0 : Heap} {NF : Nat} (K : KM_M_init X Z a0 l n1 a h0) (hw : HW a0 Z) (hh : h0.size = a + 1) (n : Nat)  {r : St}  : ∀ (i3 : Int32) (σ : St) (h : M_init_l359 NF  n i3 σ = some r), Go X (none, (r, 31)) 359 [some (.ref 0), none, none, some (.int i3)] [] (σ, 31) := by
  induction n with
  | zero => intro i3 σ h; cases h
  | succ n ih => intro i3 σ h; exact ok_M_init_w359 (NF := NF) K hw hh  ih h
def M_init (NF : Nat) (v1 : Int32) (v2 : Int32) : Option (St) :=
  ((M_clamp (sI (sI (sI (sI (sI (sI (sI (sI (sI (sI (sI (sI (sI (sI (sI (sI z0 119 (0 : Int32)) 120 (1 : Int32)) 121 (2 : Int32)) 122 (3 : Int32)) 123 (4 : Int32)) 124 (5 : Int32)) 125 (6 : Int32)) 126 (7 : Int32)) 127 (8 : Int32)) 128 (16 : Int32)) 129 (256 : Int32)) 130 (64 : Int32)) 131 (12 : Int32)) 132 (200000 : Int32)) 133 (-1 : Int32)) 134 (-1 : Int32)) v1 (8 : Int32) (64 : Int32)).bind fun q339 => ((M_clamp (sI q339.2 135 q339.1) v2 (1 : Int32) (16 : Int32)).bind fun q351 => M_init_l359 NF NF (0 : Int32) (sI q351.2 136 q351.1)))
theorem ok_M_init {X : Cx (St × Nat)} {Z : State} {a0 : Array Value} {l : Launch} {n1 : Nat} {a : Addr} {h0 : Heap} {NF : Nat} (K : KM_M_init X Z a0 l n1 a h0) (hw : HW a0 Z) (hh : h0.size = a + 1) {v1 : Int32} {v2 : Int32} {r : St} (h : M_init NF v1 v2 = some r) : Go X (none, (r, 31)) 0 [some (.ref 0), some (.int v1), some (.int v2), none] [] (z0, 0) := by
  unfold M_init at h
  refine g_aloadN (pc := 0) K.1 d2_0 rfl ?_
  refine g_objinit (pc := 1) K d2_1 (w6 hw) (w7 hw) (w8 hw) rfl (by decide) (by decide) ?_
  refine g_aloadN (pc := 4) K.1 d2_4 rfl ?_
  refine g_iconst (pc := 5) (v := 0) K.1 d2_5 (by decide) ?_
  refine g_putI (pc := 6) (t := .int) (v' := (0 : Int32)) K d2_6 (w9 hw) mf_phDone (Or.inr ⟨(w10 hw), rfl⟩) pfd_I rfl rfl ?_
  refine g_aloadN (pc := 9) K.1 d2_9 rfl ?_
  refine g_iconst (pc := 10) (v := 1) K.1 d2_10 (by decide) ?_
  refine g_putI (pc := 11) (t := .int) (v' := (1 : Int32)) K d2_11 (w11 hw) mf_phRead (Or.inr ⟨(w12 hw), rfl⟩) pfd_I rfl rfl ?_
  refine g_aloadN (pc := 14) K.1 d2_14 rfl ?_
  refine g_iconst (pc := 15) (v := 2) K.1 d2_15 (by decide) ?_
  refine g_putI (pc := 16) (t := .int) (v' := (2 : Int32)) K d2_16 (w13 hw) mf_phSearch (Or.inr ⟨(w14 hw), rfl⟩) pfd_I rfl rfl ?_
  refine g_aloadN (pc := 19) K.1 d2_19 rfl ?_
  refine g_iconst (pc := 20) (v := 3) K.1 d2_20 (by decide) ?_
  refine g_putI (pc := 21) (t := .int) (v' := (3 : Int32)) K d2_21 (w15 hw) mf_phLock (Or.inr ⟨(w16 hw), rfl⟩) pfd_I rfl rfl ?_
  refine g_aloadN (pc := 24) K.1 d2_24 rfl ?_
  refine g_iconst (pc := 25) (v := 4) K.1 d2_25 (by decide) ?_
  refine g_putI (pc := 26) (t := .int) (v' := (4 : Int32)) K d2_26 (w17 hw) mf_phCheck (Or.inr ⟨(w18 hw), rfl⟩) pfd_I rfl rfl ?_
  refine g_aloadN (pc := 29) K.1 d2_29 rfl ?_
  refine g_iconst (pc := 30) (v := 5) K.1 d2_30 (by decide) ?_
  refine g_putI (pc := 31) (t := .int) (v' := (5 : Int32)) K d2_31 (w19 hw) mf_phMove (Or.inr ⟨(w20 hw), rfl⟩) pfd_I rfl rfl ?_
  refine g_aloadN (pc := 34) K.1 d2_34 rfl ?_
  refine g_bipush (pc := 35) (v := 6) K.1 d2_35 (by decide) ?_
  refine g_putI (pc := 37) (t := .int) (v' := (6 : Int32)) K d2_37 (w21 hw) mf_phPlace (Or.inr ⟨(w22 hw), rfl⟩) pfd_I rfl rfl ?_
  refine g_aloadN (pc := 40) K.1 d2_40 rfl ?_
  refine g_bipush (pc := 41) (v := 7) K.1 d2_41 (by decide) ?_
  refine g_putI (pc := 43) (t := .int) (v' := (7 : Int32)) K d2_43 (w23 hw) mf_phClear (Or.inr ⟨(w24 hw), rfl⟩) pfd_I rfl rfl ?_
  refine g_aloadN (pc := 46) K.1 d2_46 rfl ?_
  refine g_bipush (pc := 47) (v := 8) K.1 d2_47 (by decide) ?_
  refine g_putI (pc := 49) (t := .int) (v' := (8 : Int32)) K d2_49 (w25 hw) mf_phUnlock (Or.inr ⟨(w26 hw), rfl⟩) pfd_I rfl rfl ?_
  refine g_aloadN (pc := 52) K.1 d2_52 rfl ?_
  refine g_bipush (pc := 53) (v := 16) K.1 d2_53 (by decide) ?_
  refine g_putI (pc := 55) (t := .int) (v' := (16 : Int32)) K d2_55 (w27 hw) mf_maxStripes (Or.inr ⟨(w28 hw), rfl⟩) pfd_I rfl rfl ?_
  refine g_aloadN (pc := 58) K.1 d2_58 rfl ?_
  refine g_sipush (pc := 59) (v := 256) K.1 d2_59 (by decide) ?_
  refine g_putI (pc := 62) (t := .int) (v' := (256 : Int32)) K d2_62 (w29 hw) mf_tableSlots (Or.inr ⟨(w30 hw), rfl⟩) pfd_I rfl rfl ?_
  refine g_aloadN (pc := 65) K.1 d2_65 rfl ?_
  refine g_bipush (pc := 66) (v := 64) K.1 d2_66 (by decide) ?_
  refine g_putI (pc := 68) (t := .int) (v' := (64 : Int32)) K d2_68 (w31 hw) mf_pathMax (Or.inr ⟨(w32 hw), rfl⟩) pfd_I rfl rfl ?_
  refine g_aloadN (pc := 71) K.1 d2_71 rfl ?_
  refine g_bipush (pc := 72) (v := 12) K.1 d2_72 (by decide) ?_
  refine g_putI (pc := 74) (t := .int) (v' := (12 : Int32)) K d2_74 (w33 hw) mf_readSteps (Or.inr ⟨(w34 hw), rfl⟩) pfd_I rfl rfl ?_
  refine g_aloadN (pc := 77) K.1 d2_77 rfl ?_
  refine g_ldc (pc := 78) K.1 d2_78 (w35 hw) ?_
  refine g_putI (pc := 80) (t := .int) (v' := (200000 : Int32)) K d2_80 (w36 hw) mf_stepBudget (Or.inr ⟨(w37 hw), rfl⟩) pfd_I rfl rfl ?_
  refine g_aloadN (pc := 83) K.1 d2_83 rfl ?_
  refine g_iconst (pc := 84) (v := -1) K.1 d2_84 (by decide) ?_
  refine g_putI (pc := 85) (t := .int) (v' := (-1 : Int32)) K d2_85 (w38 hw) mf_empty (Or.inr ⟨(w39 hw), rfl⟩) pfd_I rfl rfl ?_
  refine g_aloadN (pc := 88) K.1 d2_88 rfl ?_
  refine g_iconst (pc := 89) (v := -1) K.1 d2_89 (by decide) ?_
  refine g_putI (pc := 90) (t := .int) (v' := (-1 : Int32)) K d2_90 (w40 hw) mf_nobody (Or.inr ⟨(w41 hw), rfl⟩) pfd_I rfl rfl ?_
  refine g_aloadN (pc := 93) K.1 d2_93 rfl ?_
  refine g_sipush (pc := 94) (v := 256) K.1 d2_94 (by decide) ?_
  refine g_newput (pc := 97) (j := 0) K d2_97 d2_99 (w42 hw) (w43 hw) mf_slotKey (Or.inr ⟨(w44 hw), rfl⟩) pfd_AI (fun _ => rfl) (fun _ => rfl) (Or.inl rfl) ma_slotKey rfl rfl (by decide) (by decide) (by decide) hh rfl (by decide) (by decide) (by decide) (fun _ => rfl) ?_
  refine g_aloadN (pc := 102) K.1 d2_102 rfl ?_
  refine g_sipush (pc := 103) (v := 256) K.1 d2_103 (by decide) ?_
  refine g_newput (pc := 106) (j := 1) K d2_106 d2_108 (w42 hw) (w45 hw) mf_slotVal (Or.inr ⟨(w46 hw), rfl⟩) pfd_AI (fun _ => rfl) (fun _ => rfl) (Or.inl rfl) ma_slotVal rfl rfl (by decide) (by decide) (by decide) hh rfl (by decide) (by decide) (by decide) (fun _ => rfl) ?_
  refine g_aloadN (pc := 111) K.1 d2_111 rfl ?_
  refine g_bipush (pc := 112) (v := 16) K.1 d2_112 (by decide) ?_
  refine g_newput (pc := 114) (j := 2) K d2_114 d2_116 (w42 hw) (w47 hw) mf_version (Or.inr ⟨(w48 hw), rfl⟩) pfd_AI (fun _ => rfl) (fun _ => rfl) (Or.inl rfl) ma_version rfl rfl (by decide) (by decide) (by decide) hh rfl (by decide) (by decide) (by decide) (fun _ => rfl) ?_
  refine g_aloadN (pc := 119) K.1 d2_119 rfl ?_
  refine g_bipush (pc := 120) (v := 16) K.1 d2_120 (by decide) ?_
  refine g_newput (pc := 122) (j := 3) K d2_122 d2_124 (w42 hw) (w49 hw) mf_owner (Or.inr ⟨(w50 hw), rfl⟩) pfd_AI (fun _ => rfl) (fun _ => rfl) (Or.inl rfl) ma_owner rfl rfl (by decide) (by decide) (by decide) hh rfl (by decide) (by decide) (by decide) (fun _ => rfl) ?_
  refine g_aloadN (pc := 127) K.1 d2_127 rfl ?_
  refine g_bipush (pc := 128) (v := 32) K.1 d2_128 (by decide) ?_
  refine g_newput (pc := 130) (j := 4) K d2_130 d2_132 (w42 hw) (w51 hw) mf_qOp (Or.inr ⟨(w52 hw), rfl⟩) pfd_AI (fun _ => rfl) (fun _ => rfl) (Or.inl rfl) ma_qOp rfl rfl (by decide) (by decide) (by decide) hh rfl (by decide) (by decide) (by decide) (fun _ => rfl) ?_
  refine g_aloadN (pc := 135) K.1 d2_135 rfl ?_
  refine g_bipush (pc := 136) (v := 32) K.1 d2_136 (by decide) ?_
  refine g_newput (pc := 138) (j := 5) K d2_138 d2_140 (w42 hw) (w53 hw) mf_qKey (Or.inr ⟨(w54 hw), rfl⟩) pfd_AI (fun _ => rfl) (fun _ => rfl) (Or.inl rfl) ma_qKey rfl rfl (by decide) (by decide) (by decide) hh rfl (by decide) (by decide) (by decide) (fun _ => rfl) ?_
  refine g_aloadN (pc := 143) K.1 d2_143 rfl ?_
  refine g_bipush (pc := 144) (v := 32) K.1 d2_144 (by decide) ?_
  refine g_newput (pc := 146) (j := 6) K d2_146 d2_148 (w42 hw) (w55 hw) mf_qVal (Or.inr ⟨(w56 hw), rfl⟩) pfd_AI (fun _ => rfl) (fun _ => rfl) (Or.inl rfl) ma_qVal rfl rfl (by decide) (by decide) (by decide) hh rfl (by decide) (by decide) (by decide) (fun _ => rfl) ?_
  refine g_aloadN (pc := 151) K.1 d2_151 rfl ?_
  refine g_iconst (pc := 152) (v := 4) K.1 d2_152 (by decide) ?_
  refine g_newput (pc := 153) (j := 7) K d2_153 d2_155 (w42 hw) (w57 hw) mf_qLen (Or.inr ⟨(w58 hw), rfl⟩) pfd_AI (fun _ => rfl) (fun _ => rfl) (Or.inl rfl) ma_qLen rfl rfl (by decide) (by decide) (by decide) hh rfl (by decide) (by decide) (by decide) (fun _ => rfl) ?_
  refine g_aloadN (pc := 158) K.1 d2_158 rfl ?_
  refine g_bipush (pc := 159) (v := 32) K.1 d2_159 (by decide) ?_
  refine g_newput (pc := 161) (j := 8) K d2_161 d2_163 (w42 hw) (w59 hw) mf_resKey (Or.inr ⟨(w60 hw), rfl⟩) pfd_AI (fun _ => rfl) (fun _ => rfl) (Or.inl rfl) ma_resKey rfl rfl (by decide) (by decide) (by decide) hh rfl (by decide) (by decide) (by decide) (fun _ => rfl) ?_
  refine g_aloadN (pc := 166) K.1 d2_166 rfl ?_
  refine g_bipush (pc := 167) (v := 32) K.1 d2_167 (by decide) ?_
  refine g_newput (pc := 169) (j := 9) K d2_169 d2_171 (w42 hw) (w61 hw) mf_resStatus (Or.inr ⟨(w62 hw), rfl⟩) pfd_AI (fun _ => rfl) (fun _ => rfl) (Or.inl rfl) ma_resStatus rfl rfl (by decide) (by decide) (by decide) hh rfl (by decide) (by decide) (by decide) (fun _ => rfl) ?_
  refine g_aloadN (pc := 174) K.1 d2_174 rfl ?_
  refine g_bipush (pc := 175) (v := 32) K.1 d2_175 (by decide) ?_
  refine g_newput (pc := 177) (j := 10) K d2_177 d2_179 (w42 hw) (w63 hw) mf_resVal (Or.inr ⟨(w64 hw), rfl⟩) pfd_AI (fun _ => rfl) (fun _ => rfl) (Or.inl rfl) ma_resVal rfl rfl (by decide) (by decide) (by decide) hh rfl (by decide) (by decide) (by decide) (fun _ => rfl) ?_
  refine g_aloadN (pc := 182) K.1 d2_182 rfl ?_
  refine g_iconst (pc := 183) (v := 4) K.1 d2_183 (by decide) ?_
  refine g_newput (pc := 184) (j := 11) K d2_184 d2_186 (w42 hw) (w65 hw) mf_resCount (Or.inr ⟨(w66 hw), rfl⟩) pfd_AI (fun _ => rfl) (fun _ => rfl) (Or.inl rfl) ma_resCount rfl rfl (by decide) (by decide) (by decide) hh rfl (by decide) (by decide) (by decide) (fun _ => rfl) ?_
  refine g_aloadN (pc := 189) K.1 d2_189 rfl ?_
  refine g_iconst (pc := 190) (v := 4) K.1 d2_190 (by decide) ?_
  refine g_newput (pc := 191) (j := 12) K d2_191 d2_193 (w42 hw) (w67 hw) mf_phase (Or.inr ⟨(w68 hw), rfl⟩) pfd_AI (fun _ => rfl) (fun _ => rfl) (Or.inl rfl) ma_phase rfl rfl (by decide) (by decide) (by decide) hh rfl (by decide) (by decide) (by decide) (fun _ => rfl) ?_
  refine g_aloadN (pc := 196) K.1 d2_196 rfl ?_
  refine g_iconst (pc := 197) (v := 4) K.1 d2_197 (by decide) ?_
  refine g_newput (pc := 198) (j := 13) K d2_198 d2_200 (w42 hw) (w69 hw) mf_opIdx (Or.inr ⟨(w70 hw), rfl⟩) pfd_AI (fun _ => rfl) (fun _ => rfl) (Or.inl rfl) ma_opIdx rfl rfl (by decide) (by decide) (by decide) hh rfl (by decide) (by decide) (by decide) (fun _ => rfl) ?_
  refine g_aloadN (pc := 203) K.1 d2_203 rfl ?_
  refine g_iconst (pc := 204) (v := 4) K.1 d2_204 (by decide) ?_
  refine g_newput (pc := 205) (j := 14) K d2_205 d2_207 (w42 hw) (w71 hw) mf_cursor (Or.inr ⟨(w72 hw), rfl⟩) pfd_AI (fun _ => rfl) (fun _ => rfl) (Or.inl rfl) ma_cursor rfl rfl (by decide) (by decide) (by decide) hh rfl (by decide) (by decide) (by decide) (fun _ => rfl) ?_
  refine g_aloadN (pc := 210) K.1 d2_210 rfl ?_
  refine g_iconst (pc := 211) (v := 4) K.1 d2_211 (by decide) ?_
  refine g_newput (pc := 212) (j := 15) K d2_212 d2_214 (w42 hw) (w73 hw) mf_lockMask (Or.inr ⟨(w74 hw), rfl⟩) pfd_AI (fun _ => rfl) (fun _ => rfl) (Or.inl rfl) ma_lockMask rfl rfl (by decide) (by decide) (by decide) hh rfl (by decide) (by decide) (by decide) (fun _ => rfl) ?_
  refine g_aloadN (pc := 217) K.1 d2_217 rfl ?_
  refine g_iconst (pc := 218) (v := 4) K.1 d2_218 (by decide) ?_
  refine g_newput (pc := 219) (j := 16) K d2_219 d2_221 (w42 hw) (w75 hw) mf_heldMask (Or.inr ⟨(w76 hw), rfl⟩) pfd_AI (fun _ => rfl) (fun _ => rfl) (Or.inl rfl) ma_heldMask rfl rfl (by decide) (by decide) (by decide) hh rfl (by decide) (by decide) (by decide) (fun _ => rfl) ?_
  refine g_aloadN (pc := 224) K.1 d2_224 rfl ?_
  refine g_iconst (pc := 225) (v := 4) K.1 d2_225 (by decide) ?_
  refine g_newput (pc := 226) (j := 17) K d2_226 d2_228 (w77 hw) (w78 hw) mf_retry (Or.inr ⟨(w79 hw), rfl⟩) pfd_AZ (fun _ => rfl) (fun _ => rfl) (Or.inr (Or.inl rfl)) ma_retry rfl rfl (by decide) (by decide) (by decide) hh rfl (by decide) (by decide) (by decide) (fun _ => rfl) ?_
  refine g_aloadN (pc := 231) K.1 d2_231 rfl ?_
  refine g_iconst (pc := 232) (v := 4) K.1 d2_232 (by decide) ?_
  refine g_newput (pc := 233) (j := 18) K d2_233 d2_235 (w77 hw) (w80 hw) mf_effectDone (Or.inr ⟨(w81 hw), rfl⟩) pfd_AZ (fun _ => rfl) (fun _ => rfl) (Or.inr (Or.inl rfl)) ma_effectDone rfl rfl (by decide) (by decide) (by decide) hh rfl (by decide) (by decide) (by decide) (fun _ => rfl) ?_
  refine g_aloadN (pc := 238) K.1 d2_238 rfl ?_
  refine g_iconst (pc := 239) (v := 4) K.1 d2_239 (by decide) ?_
  refine g_newput (pc := 240) (j := 19) K d2_240 d2_242 (w77 hw) (w82 hw) mf_seen (Or.inr ⟨(w83 hw), rfl⟩) pfd_AZ (fun _ => rfl) (fun _ => rfl) (Or.inr (Or.inl rfl)) ma_seen rfl rfl (by decide) (by decide) (by decide) hh rfl (by decide) (by decide) (by decide) (fun _ => rfl) ?_
  refine g_aloadN (pc := 245) K.1 d2_245 rfl ?_
  refine g_iconst (pc := 246) (v := 4) K.1 d2_246 (by decide) ?_
  refine g_newput (pc := 247) (j := 20) K d2_247 d2_249 (w42 hw) (w84 hw) mf_seenVal (Or.inr ⟨(w85 hw), rfl⟩) pfd_AI (fun _ => rfl) (fun _ => rfl) (Or.inl rfl) ma_seenVal rfl rfl (by decide) (by decide) (by decide) hh rfl (by decide) (by decide) (by decide) (fun _ => rfl) ?_
  refine g_aloadN (pc := 252) K.1 d2_252 rfl ?_
  refine g_bipush (pc := 253) (v := 8) K.1 d2_253 (by decide) ?_
  refine g_newput (pc := 255) (j := 21) K d2_255 d2_257 (w42 hw) (w86 hw) mf_firstVer (Or.inr ⟨(w87 hw), rfl⟩) pfd_AI (fun _ => rfl) (fun _ => rfl) (Or.inl rfl) ma_firstVer rfl rfl (by decide) (by decide) (by decide) hh rfl (by decide) (by decide) (by decide) (fun _ => rfl) ?_
  refine g_aloadN (pc := 260) K.1 d2_260 rfl ?_
  refine g_iconst (pc := 261) (v := 4) K.1 d2_261 (by decide) ?_
  refine g_newput (pc := 262) (j := 22) K d2_262 d2_264 (w42 hw) (w88 hw) mf_moveIdx (Or.inr ⟨(w89 hw), rfl⟩) pfd_AI (fun _ => rfl) (fun _ => rfl) (Or.inl rfl) ma_moveIdx rfl rfl (by decide) (by decide) (by decide) hh rfl (by decide) (by decide) (by decide) (fun _ => rfl) ?_
  refine g_aloadN (pc := 267) K.1 d2_267 rfl ?_
  refine g_iconst (pc := 268) (v := 4) K.1 d2_268 (by decide) ?_
  refine g_newput (pc := 269) (j := 23) K d2_269 d2_271 (w42 hw) (w90 hw) mf_pathLen (Or.inr ⟨(w91 hw), rfl⟩) pfd_AI (fun _ => rfl) (fun _ => rfl) (Or.inl rfl) ma_pathLen rfl rfl (by decide) (by decide) (by decide) hh rfl (by decide) (by decide) (by decide) (fun _ => rfl) ?_
  refine g_aloadN (pc := 274) K.1 d2_274 rfl ?_
  refine g_sipush (pc := 275) (v := 256) K.1 d2_275 (by decide) ?_
  refine g_newput (pc := 278) (j := 24) K d2_278 d2_280 (w42 hw) (w92 hw) mf_pathBucket (Or.inr ⟨(w93 hw), rfl⟩) pfd_AI (fun _ => rfl) (fun _ => rfl) (Or.inl rfl) ma_pathBucket rfl rfl (by decide) (by decide) (by decide) hh rfl (by decide) (by decide) (by decide) (fun _ => rfl) ?_
  refine g_aloadN (pc := 283) K.1 d2_283 rfl ?_
  refine g_sipush (pc := 284) (v := 256) K.1 d2_284 (by decide) ?_
  refine g_newput (pc := 287) (j := 25) K d2_287 d2_289 (w42 hw) (w94 hw) mf_pathSlot (Or.inr ⟨(w95 hw), rfl⟩) pfd_AI (fun _ => rfl) (fun _ => rfl) (Or.inl rfl) ma_pathSlot rfl rfl (by decide) (by decide) (by decide) hh rfl (by decide) (by decide) (by decide) (fun _ => rfl) ?_
  refine g_aloadN (pc := 292) K.1 d2_292 rfl ?_
  refine g_bipush (pc := 293) (v := 64) K.1 d2_293 (by decide) ?_
  refine g_newput (pc := 295) (j := 26) K d2_295 d2_297 (w42 hw) (w96 hw) mf_bfsQueue (Or.inr ⟨(w97 hw), rfl⟩) pfd_AI (fun _ => rfl) (fun _ => rfl) (Or.inl rfl) ma_bfsQueue rfl rfl (by decide) (by decide) (by decide) hh rfl (by decide) (by decide) (by decide) (fun _ => rfl) ?_
  refine g_aloadN (pc := 300) K.1 d2_300 rfl ?_
  refine g_bipush (pc := 301) (v := 64) K.1 d2_301 (by decide) ?_
  refine g_newput (pc := 303) (j := 27) K d2_303 d2_305 (w42 hw) (w98 hw) mf_bfsParent (Or.inr ⟨(w99 hw), rfl⟩) pfd_AI (fun _ => rfl) (fun _ => rfl) (Or.inl rfl) ma_bfsParent rfl rfl (by decide) (by decide) (by decide) hh rfl (by decide) (by decide) (by decide) (fun _ => rfl) ?_
  refine g_aloadN (pc := 308) K.1 d2_308 rfl ?_
  refine g_bipush (pc := 309) (v := 64) K.1 d2_309 (by decide) ?_
  refine g_newput (pc := 311) (j := 28) K d2_311 d2_313 (w42 hw) (w100 hw) mf_bfsParentSlot (Or.inr ⟨(w101 hw), rfl⟩) pfd_AI (fun _ => rfl) (fun _ => rfl) (Or.inl rfl) ma_bfsParentSlot rfl rfl (by decide) (by decide) (by decide) hh rfl (by decide) (by decide) (by decide) (fun _ => rfl) ?_
  refine g_aloadN (pc := 316) K.1 d2_316 rfl ?_
  refine g_bipush (pc := 317) (v := 64) K.1 d2_317 (by decide) ?_
  refine g_newput (pc := 319) (j := 29) K d2_319 d2_321 (w77 hw) (w102 hw) mf_bfsSeen (Or.inr ⟨(w103 hw), rfl⟩) pfd_AZ (fun _ => rfl) (fun _ => rfl) (Or.inr (Or.inl rfl)) ma_bfsSeen rfl rfl (by decide) (by decide) (by decide) hh rfl (by decide) (by decide) (by decide) (fun _ => rfl) ?_
  refine g_aloadN (pc := 324) K.1 d2_324 rfl ?_
  refine g_bipush (pc := 325) (v := 64) K.1 d2_325 (by decide) ?_
  refine g_newput (pc := 327) (j := 30) K d2_327 d2_329 (w42 hw) (w104 hw) mf_chain (Or.inr ⟨(w105 hw), rfl⟩) pfd_AI (fun _ => rfl) (fun _ => rfl) (Or.inl rfl) ma_chain rfl rfl (by decide) (by decide) (by decide) hh rfl (by decide) (by decide) (by decide) (fun _ => rfl) ?_
  refine g_aloadN (pc := 332) K.1 d2_332 rfl ?_
  refine g_aloadN (pc := 333) K.1 d2_333 rfl ?_
  refine g_iloadN (pc := 334) K.1 d2_334 rfl ?_
  refine g_bipush (pc := 335) (v := 8) K.1 d2_335 (by decide) ?_
  refine g_bipush (pc := 337) (v := 64) K.1 d2_337 (by decide) ?_
  obtain ⟨q339, hq339, h⟩ := Option.bind_eq_some_iff.mp h
  refine g_callP (pc := 339) (vs := [.int v1, .int (8 : Int32), .int (64 : Int32)]) K d2_339 (w106 hw) (w107 hw) (w108 hw) (w109 hw) hyC pd_0 rfl rfl (con_M_clamp l Z a0 hw n1 a (ctx_le K) hq339) rfl (Nat.le_of_ble_eq_true rfl) (Nat.le_of_ble_eq_true rfl) rfl rfl ?_
  refine g_putI (pc := 342) (t := .int) (v' := q339.1) K d2_342 (w110 hw) mf_cap (Or.inl (w111 hw)) pfd_I rfl rfl ?_
  refine g_aloadN (pc := 345) K.1 d2_345 rfl ?_
  refine g_aloadN (pc := 346) K.1 d2_346 rfl ?_
  refine g_iloadN (pc := 347) K.1 d2_347 rfl ?_
  refine g_iconst (pc := 348) (v := 1) K.1 d2_348 (by decide) ?_
  refine g_bipush (pc := 349) (v := 16) K.1 d2_349 (by decide) ?_
  obtain ⟨q351, hq351, h⟩ := Option.bind_eq_some_iff.mp h
  refine g_callP (pc := 351) (vs := [.int v2, .int (1 : Int32), .int (16 : Int32)]) K d2_351 (w106 hw) (w107 hw) (w108 hw) (w109 hw) hyC pd_0 rfl rfl (con_M_clamp l Z a0 hw n1 a (ctx_le K) hq351) rfl (Nat.le_of_ble_eq_true rfl) (Nat.le_of_ble_eq_true rfl) rfl rfl ?_
  refine g_putI (pc := 354) (t := .int) (v' := q351.1) K d2_354 (w112 hw) mf_stripeCount (Or.inl (w113 hw)) pfd_I rfl rfl ?_
  refine g_iconst (pc := 357) (v := 0) K.1 d2_357 (by decide) ?_
  refine g_istoreN (pc := 358) (L' := [some (.ref 0), some (.int v1), some (.int v2), some (.int (0 : Int32))]) K.1 d2_358 (blt rfl) rfl ?_
  exact g_less (ok_M_init_l359 K hw hh NF  _ _ h) (ls (ln (ln (ls l0))))
theorem con_M_init (l : Launch) (Z : State) (a0 : Array Value) (hw : HW a0 Z) (n1 : Nat) (a : Addr) (ha : n1 ≤ a) {NF : Nat} {v1 : Int32} {v2 : Int32} {r : St} (h : M_init NF v1 v2 = some r) : ConI l Z cC cFS cFA 31 n1 a ⟨cC, "<init>", "(II)V"⟩ c2 4 ⟨1, 31, 1628, 16⟩ [.ref 0, .int v1, .int v2] r :=
  coni_of_go pnC rfl (layW hw) lgood ha (by decide) (by decide) (fun X h1 hh K => ok_M_init K hw hh h)
abbrev KM_M_slotIndex (X : Cx (St × Nat)) (Z : State) (a0 : Array Value) (l : Launch) (n1 : Nat) (a : Addr) (h0 : Heap) : Prop := CtxC X Z a0 cC cFS cFA 31 52 l n1 a h0 ce0 ⟨0, 0, 0, 0⟩ "slotIndex" c6 3 (some .int)
def M_slotIndex (σ : St) (v1 : Int32) (v2 : Int32) : Option (Int32 × St) :=
  (some ((((v1 &&& (63 : Int32)) <<< ((2 : Int32) &&& 31)) ||| (v2 &&& (3 : Int32))), σ))
theorem ok_M_slotIndex {X : Cx (St × Nat)} {Z : State} {a0 : Array Value} {l : Launch} {n1 : Nat} {a : Addr} {h0 : Heap} (K : KM_M_slotIndex X Z a0 l n1 a h0) (hw : HW a0 Z) {σ : St} {v1 : Int32} {v2 : Int32} {r : Int32 × St} (h : M_slotIndex σ v1 v2 = some r) : Go X (some (.int r.1), (r.2, 31)) 0 [some (.ref 0), some (.int v1), some (.int v2)] [] (σ, 31) := by
  unfold M_slotIndex at h
  refine g_iloadN (pc := 0) K.1 d6_0 rfl ?_
  refine g_bipush (pc := 1) (v := 63) K.1 d6_1 (by decide) ?_
  refine g_iand (pc := 3) K.1 d6_3 ?_
  refine g_iconst (pc := 4) (v := 2) K.1 d6_4 (by decide) ?_
  refine g_ishl (pc := 5) K.1 d6_5 ?_
  refine g_iloadN (pc := 6) K.1 d6_6 rfl ?_
  refine g_iconst (pc := 7) (v := 3) K.1 d6_7 (by decide) ?_
  refine g_iand (pc := 8) K.1 d6_8 ?_
  refine g_ior (pc := 9) K.1 d6_9 ?_
  cases h; exact g_ireturn K.1 d6_10 (capC K)
theorem con_M_slotIndex (l : Launch) (Z : State) (a0 : Array Value) (hw : HW a0 Z) (n1 : Nat) (a : Addr) (ha : n1 ≤ a) {σ : St} {v1 : Int32} {v2 : Int32} {r : Int32 × St} (h : M_slotIndex σ v1 v2 = some r) : Con l Z cC cFS cFA 31 n1 a ⟨cC, "slotIndex", "(II)I"⟩ c6 3 (some .int) ⟨0, 0, 0, 0⟩ [.ref 0, .int v1, .int v2] σ (some (.int r.1)) r.2 :=
  con_of_go pnC rfl (layW hw) lgood ha (fun X h1 K => ok_M_slotIndex K hw h)
abbrev KM_M_bucket1 (X : Cx (St × Nat)) (Z : State) (a0 : Array Value) (l : Launch) (n1 : Nat) (a : Addr) (h0 : Heap) : Prop := CtxC X Z a0 cC cFS cFA 31 52 l n1 a h0 ce0 ⟨0, 0, 0, 0⟩ "bucket1" c7 2 (some .int)
def M_bucket1 (σ : St) (v1 : Int32) : Option (Int32 × St) :=
  (some ((v1 &&& (31 : Int32)), σ))
theorem ok_M_bucket1 {X : Cx (St × Nat)} {Z : State} {a0 : Array Value} {l : Launch} {n1 : Nat} {a : Addr} {h0 : Heap} (K : KM_M_bucket1 X Z a0 l n1 a h0) (hw : HW a0 Z) {σ : St} {v1 : Int32} {r : Int32 × St} (h : M_bucket1 σ v1 = some r) : Go X (some (.int r.1), (r.2, 31)) 0 [some (.ref 0), some (.int v1)] [] (σ, 31) := by
  unfold M_bucket1 at h
  refine g_iloadN (pc := 0) K.1 d7_0 rfl ?_
  refine g_bipush (pc := 1) (v := 31) K.1 d7_1 (by decide) ?_
  refine g_iand (pc := 3) K.1 d7_3 ?_
  cases h; exact g_ireturn K.1 d7_4 (capC K)
theorem con_M_bucket1 (l : Launch) (Z : State) (a0 : Array Value) (hw : HW a0 Z) (n1 : Nat) (a : Addr) (ha : n1 ≤ a) {σ : St} {v1 : Int32} {r : Int32 × St} (h : M_bucket1 σ v1 = some r) : Con l Z cC cFS cFA 31 n1 a ⟨cC, "bucket1", "(I)I"⟩ c7 2 (some .int) ⟨0, 0, 0, 0⟩ [.ref 0, .int v1] σ (some (.int r.1)) r.2 :=
  con_of_go pnC rfl (layW hw) lgood ha (fun X h1 K => ok_M_bucket1 K hw h)
abbrev KM_M_bucket2 (X : Cx (St × Nat)) (Z : State) (a0 : Array Value) (l : Launch) (n1 : Nat) (a : Addr) (h0 : Heap) : Prop := CtxC X Z a0 cC cFS cFA 31 52 l n1 a h0 ce0 ⟨0, 0, 0, 0⟩ "bucket2" c8 2 (some .int)
def M_bucket2 (σ : St) (v1 : Int32) : Option (Int32 × St) :=
  (some (((32 : Int32) + (((v1 >>> ((5 : Int32) &&& 31)) + ((7 : Int32) * (v1 &&& (31 : Int32)))) &&& (31 : Int32))), σ))
theorem ok_M_bucket2 {X : Cx (St × Nat)} {Z : State} {a0 : Array Value} {l : Launch} {n1 : Nat} {a : Addr} {h0 : Heap} (K : KM_M_bucket2 X Z a0 l n1 a h0) (hw : HW a0 Z) {σ : St} {v1 : Int32} {r : Int32 × St} (h : M_bucket2 σ v1 = some r) : Go X (some (.int r.1), (r.2, 31)) 0 [some (.ref 0), some (.int v1)] [] (σ, 31) := by
  unfold M_bucket2 at h
  refine g_bipush (pc := 0) (v := 32) K.1 d8_0 (by decide) ?_
  refine g_iloadN (pc := 2) K.1 d8_2 rfl ?_
  refine g_iconst (pc := 3) (v := 5) K.1 d8_3 (by decide) ?_
  refine g_ishr (pc := 4) K.1 d8_4 ?_
  refine g_bipush (pc := 5) (v := 7) K.1 d8_5 (by decide) ?_
  refine g_iloadN (pc := 7) K.1 d8_7 rfl ?_
  refine g_bipush (pc := 8) (v := 31) K.1 d8_8 (by decide) ?_
  refine g_iand (pc := 10) K.1 d8_10 ?_
  refine g_imul (pc := 11) K.1 d8_11 ?_
  refine g_iadd (pc := 12) K.1 d8_12 ?_
  refine g_bipush (pc := 13) (v := 31) K.1 d8_13 (by decide) ?_
  refine g_iand (pc := 15) K.1 d8_15 ?_
  refine g_iadd (pc := 16) K.1 d8_16 ?_
  cases h; exact g_ireturn K.1 d8_17 (capC K)
theorem con_M_bucket2 (l : Launch) (Z : State) (a0 : Array Value) (hw : HW a0 Z) (n1 : Nat) (a : Addr) (ha : n1 ≤ a) {σ : St} {v1 : Int32} {r : Int32 × St} (h : M_bucket2 σ v1 = some r) : Con l Z cC cFS cFA 31 n1 a ⟨cC, "bucket2", "(I)I"⟩ c8 2 (some .int) ⟨0, 0, 0, 0⟩ [.ref 0, .int v1] σ (some (.int r.1)) r.2 :=
  con_of_go pnC rfl (layW hw) lgood ha (fun X h1 K => ok_M_bucket2 K hw h)
abbrev KM_M_findSlot (X : Cx (St × Nat)) (Z : State) (a0 : Array Value) (l : Launch) (n1 : Nat) (a : Addr) (h0 : Heap) : Prop := CtxC X Z a0 cC cFS cFA 31 52 l n1 a h0 ce0 ⟨1, 0, 0, 14⟩ "findSlot" c5 7 (some .int)
def M_findSlot_w28 (NF : Nat) (k28 : Int32 → Int32 → Int32 → Int32 → St → Option (Int32 × St)) (i1 : Int32) (i2 : Int32) (i3 : Int32) (i4 : Int32) (σ : St) : Option (Int32 × St) :=
  (if i4 < (4 : Int32) then ((M_slotIndex σ i2 i4).bind fun q38 => (if 0 ≤ (q38.1).toInt ∧ (q38.1).toInt < 256 then (if (gA q38.2 1 (q38.1).toInt) = i1 then (some (q38.1, q38.2)) else ((M_slotIndex q38.2 i3 i4).bind fun q61 => (if 0 ≤ (q61.1).toInt ∧ (q61.1).toInt < 256 then (if (gA q61.2 1 (q61.1).toInt) = i1 then (some (q61.1, q61.2)) else k28 i1 i2 i3 (i4 + (1 : Int32)) q61.2) else none))) else none)) else (some ((-1 : Int32), σ)))
theorem ok_M_findSlot_w28 {X : Cx (St × Nat)} {Z : State} {a0 : Array Value} {l : Launch} {n1 : Nat} {a : Addr} {h0 : Heap} {NF : Nat} (K : KM_M_findSlot X Z a0 l n1 a h0) (hw : HW a0 Z) {k28 : Int32 → Int32 → Int32 → Int32 → St → Option (Int32 × St)} {i1 : Int32} {i2 : Int32} {i3 : Int32} {i4 : Int32} {σ : St} {r : Int32 × St} (hk28 : ∀ (i1 : Int32) (i2 : Int32) (i3 : Int32) (i4 : Int32) (σ : St) (h : k28 i1 i2 i3 i4 σ = some r), Go X (some (.int r.1), (r.2, 31)) 28 [some (.ref 0), some (.int i1), some (.int i2), some (.int i3), some (.int i4), none, none] [] (σ, 31)) (h : M_findSlot_w28 NF k28 i1 i2 i3 i4 σ = some r) : Go X (some (.int r.1), (r.2, 31)) 28 [some (.ref 0), some (.int i1), some (.int i2), some (.int i3), some (.int i4), none, none] [] (σ, 31) := by
  unfold M_findSlot_w28 at h
  refine g_iload (pc := 28) K.1 d5_28 rfl ?_
  refine g_iconst (pc := 30) (v := 4) K.1 d5_30 (by decide) ?_
  rcases ifs h with ⟨hc31, h⟩ | ⟨hc31, h⟩
  · refine g_icF (pc := 31) K.1 d5_31 ((tlt hc31).2.1) ?_
    refine g_aloadN (pc := 34) K.1 d5_34 rfl ?_
    refine g_iloadN (pc := 35) K.1 d5_35 rfl ?_
    refine g_iload (pc := 36) K.1 d5_36 rfl ?_
    obtain ⟨q38, hq38, h⟩ := Option.bind_eq_some_iff.mp h
    refine g_callP (pc := 38) (vs := [.int i2, .int i4]) K d5_38 (w131 hw) (w132 hw) (w133 hw) (w134 hw) hyC pd_1 rfl rfl (con_M_slotIndex l Z a0 hw n1 a (ctx_le K) hq38) rfl (Nat.le_of_ble_eq_true rfl) (Nat.le_of_ble_eq_true rfl) rfl rfl ?_
    refine g_istore (pc := 41) (L' := [some (.ref 0), some (.int i1), some (.int i2), some (.int i3), some (.int i4), some (.int q38.1), none]) K.1 d5_41 (blt rfl) rfl ?_
    refine g_aloadN (pc := 43) K.1 d5_43 rfl ?_
    refine g_getA (pc := 44) K d5_44 (w43 hw) mf_slotKey rfl ?_
    refine g_iload (pc := 47) K.1 d5_47 rfl ?_
    obtain ⟨hc49, h⟩ := ifn h
    refine g_iaload (pc := 49) K d5_49 ma_slotKey rfl hc49 ?_
    refine g_iloadN (pc := 50) K.1 d5_50 rfl ?_
    rcases ifs h with ⟨hc51, h⟩ | ⟨hc51, h⟩
    · refine g_icF (pc := 51) K.1 d5_51 ((teq hc51).2) ?_
      refine g_iload (pc := 54) K.1 d5_54 rfl ?_
      cases h; exact g_ireturn K.1 d5_56 (capC K)
    refine g_icT (pc := 51) (pc' := 57) K.1 d5_51 (by decide) ((feq hc51).2) ?_
    refine g_aloadN (pc := 57) K.1 d5_57 rfl ?_
    refine g_iloadN (pc := 58) K.1 d5_58 rfl ?_
    refine g_iload (pc := 59) K.1 d5_59 rfl ?_
    obtain ⟨q61, hq61, h⟩ := Option.bind_eq_some_iff.mp h
    refine g_callP (pc := 61) (vs := [.int i3, .int i4]) K d5_61 (w131 hw) (w132 hw) (w133 hw) (w134 hw) hyC pd_1 rfl rfl (con_M_slotIndex l Z a0 hw n1 a (ctx_le K) hq61) rfl (Nat.le_of_ble_eq_true rfl) (Nat.le_of_ble_eq_true rfl) rfl rfl ?_
    refine g_istore (pc := 64) (L' := [some (.ref 0), some (.int i1), some (.int i2), some (.int i3), some (.int i4), some (.int q38.1), some (.int q61.1)]) K.1 d5_64 (blt rfl) rfl ?_
    refine g_aloadN (pc := 66) K.1 d5_66 rfl ?_
    refine g_getA (pc := 67) K d5_67 (w43 hw) mf_slotKey rfl ?_
    refine g_iload (pc := 70) K.1 d5_70 rfl ?_
    obtain ⟨hc72, h⟩ := ifn h
    refine g_iaload (pc := 72) K d5_72 ma_slotKey rfl hc72 ?_
    refine g_iloadN (pc := 73) K.1 d5_73 rfl ?_
    rcases ifs h with ⟨hc74, h⟩ | ⟨hc74, h⟩
    · refine g_icF (pc := 74) K.1 d5_74 ((teq hc74).2) ?_
      refine g_iload (pc := 77) K.1 d5_77 rfl ?_
      cases h; exact g_ireturn K.1 d5_79 (capC K)
    refine g_icT (pc := 74) (pc' := 80) K.1 d5_74 (by decide) ((feq hc74).2) ?_
    refine g_iinc (pc := 80) (w := 1) (L' := [some (.ref 0), some (.int i1), some (.int i2), some (.int i3), some (.int (i4 + (1 : Int32))), some (.int q38.1), some (.int q61.1)]) K.1 d5_80 rfl (by decide) rfl ?_
    refine g_goto (pc := 83) (pc' := 28) K.1 d5_83 (by decide) ?_
    exact g_less (hk28 _ _ _ _ _ h) (ls (ls (ls (ls (ls (ln (ln l0)))))))
  refine g_icT (pc := 31) (pc' := 86) K.1 d5_31 (by decide) ((flt hc31).2.1) ?_
  refine g_iconst (pc := 86) (v := -1) K.1 d5_86 (by decide) ?_
  cases h; exact g_ireturn K.1 d5_87 (capC K)
def M_findSlot_l28 (NF : Nat)  : Nat → Int32 → Int32 → Int32 → Int32 → St → Option (Int32 × St)
  | 0 => fun _ _ _ _ _ => none
  | n + 1 => fun i1 i2 i3 i4 σ => M_findSlot_w28 NF  (M_findSlot_l28 NF  n) i1 i2 i3 i4 σ
theorem ok_M_findSlot_l28 {X : Cx (St × Nat)} {Z : State} {a0 : Array Value} {l : Launch} {n1 : Nat} {a : Addr} {h0 : Heap} {NF : Nat} (K : KM_M_findSlot X Z a0 l n1 a h0) (hw : HW a0 Z) (n : Nat)  {r : Int32 × St}  : ∀ (i1 : Int32) (i2 : Int32) (i3 : Int32) (i4 : Int32) (σ : St) (h : M_findSlot_l28 NF  n i1 i2 i3 i4 σ = some r), Go X (some (.int r.1), (r.2, 31)) 28 [some (.ref 0), some (.int i1), some (.int i2), some (.int i3), some (.int i4), none, none] [] (σ, 31) := by
  induction n with
  | zero => intro i1 i2 i3 i4 σ h; cases h
  | succ n ih => intro i1 i2 i3 i4 σ h; exact ok_M_findSlot_w28 (NF := NF) K hw  ih h
def M_findSlot (NF : Nat) (σ : St) (v1 : Int32) : Option (Int32 × St) :=
  (if v1 < 0 then (some ((-1 : Int32), σ)) else (if v1 < (1024 : Int32) then ((M_bucket1 σ v1).bind fun q15 => ((M_bucket2 q15.2 v1).bind fun q21 => M_findSlot_l28 NF NF v1 q15.1 q21.1 (0 : Int32) q21.2)) else (some ((-1 : Int32), σ))))
theorem ok_M_findSlot {X : Cx (St × Nat)} {Z : State} {a0 : Array Value} {l : Launch} {n1 : Nat} {a : Addr} {h0 : Heap} {NF : Nat} (K : KM_M_findSlot X Z a0 l n1 a h0) (hw : HW a0 Z) {σ : St} {v1 : Int32} {r : Int32 × St} (h : M_findSlot NF σ v1 = some r) : Go X (some (.int r.1), (r.2, 31)) 0 [some (.ref 0), some (.int v1), none, none, none, none, none] [] (σ, 31) := by
  unfold M_findSlot at h
  refine g_iloadN (pc := 0) K.1 d5_0 rfl ?_
  rcases ifs h with ⟨hc1, h⟩ | ⟨hc1, h⟩
  · refine g_ifT (pc := 1) (pc' := 11) K.1 d5_1 (by decide) ((if0 _ _).trans (tlt hc1).1) ?_
    refine g_iconst (pc := 11) (v := -1) K.1 d5_11 (by decide) ?_
    cases h; exact g_ireturn K.1 d5_12 (capC K)
  refine g_ifF (pc := 1) K.1 d5_1 ((if0 _ _).trans (flt hc1).1) ?_
  refine g_iloadN (pc := 4) K.1 d5_4 rfl ?_
  refine g_sipush (pc := 5) (v := 1024) K.1 d5_5 (by decide) ?_
  rcases ifs h with ⟨hc8, h⟩ | ⟨hc8, h⟩
  · refine g_icT (pc := 8) (pc' := 13) K.1 d5_8 (by decide) ((tlt hc8).1) ?_
    refine g_aloadN (pc := 13) K.1 d5_13 rfl ?_
    refine g_iloadN (pc := 14) K.1 d5_14 rfl ?_
    obtain ⟨q15, hq15, h⟩ := Option.bind_eq_some_iff.mp h
    refine g_callP (pc := 15) (vs := [.int v1]) K d5_15 (w123 hw) (w124 hw) (w125 hw) (w126 hw) hyC pd_2 rfl rfl (con_M_bucket1 l Z a0 hw n1 a (ctx_le K) hq15) rfl (Nat.le_of_ble_eq_true rfl) (Nat.le_of_ble_eq_true rfl) rfl rfl ?_
    refine g_istoreN (pc := 18) (L' := [some (.ref 0), some (.int v1), some (.int q15.1), none, none, none, none]) K.1 d5_18 (blt rfl) rfl ?_
    refine g_aloadN (pc := 19) K.1 d5_19 rfl ?_
    refine g_iloadN (pc := 20) K.1 d5_20 rfl ?_
    obtain ⟨q21, hq21, h⟩ := Option.bind_eq_some_iff.mp h
    refine g_callP (pc := 21) (vs := [.int v1]) K d5_21 (w127 hw) (w128 hw) (w129 hw) (w130 hw) hyC pd_2 rfl rfl (con_M_bucket2 l Z a0 hw n1 a (ctx_le K) hq21) rfl (Nat.le_of_ble_eq_true rfl) (Nat.le_of_ble_eq_true rfl) rfl rfl ?_
    refine g_istoreN (pc := 24) (L' := [some (.ref 0), some (.int v1), some (.int q15.1), some (.int q21.1), none, none, none]) K.1 d5_24 (blt rfl) rfl ?_
    refine g_iconst (pc := 25) (v := 0) K.1 d5_25 (by decide) ?_
    refine g_istore (pc := 26) (L' := [some (.ref 0), some (.int v1), some (.int q15.1), some (.int q21.1), some (.int (0 : Int32)), none, none]) K.1 d5_26 (blt rfl) rfl ?_
    exact ok_M_findSlot_l28 K hw NF  _ _ _ _ _ h
  refine g_icF (pc := 8) K.1 d5_8 ((flt hc8).1) ?_
  refine g_iconst (pc := 11) (v := -1) K.1 d5_11 (by decide) ?_
  cases h; exact g_ireturn K.1 d5_12 (capC K)
theorem con_M_findSlot (l : Launch) (Z : State) (a0 : Array Value) (hw : HW a0 Z) (n1 : Nat) (a : Addr) (ha : n1 ≤ a) {NF : Nat} {σ : St} {v1 : Int32} {r : Int32 × St} (h : M_findSlot NF σ v1 = some r) : Con l Z cC cFS cFA 31 n1 a ⟨cC, "findSlot", "(I)I"⟩ c5 7 (some .int) ⟨1, 0, 0, 14⟩ [.ref 0, .int v1] σ (some (.int r.1)) r.2 :=
  con_of_go pnC rfl (layW hw) lgood ha (fun X h1 K => ok_M_findSlot K hw h)
abbrev KM_M_insertQueued (X : Cx (St × Nat)) (Z : State) (a0 : Array Value) (l : Launch) (n1 : Nat) (a : Addr) (h0 : Heap) : Prop := CtxC X Z a0 cC cFS cFA 31 52 l n1 a h0 ce0 ⟨0, 0, 0, 0⟩ "insertQueued" c9 5 (some .boolean)
def M_insertQueued_b54 (NF : Nat) (k6 : Int32 → Int32 → Int32 → St → Option (Int32 × St)) (i1 : Int32) (i2 : Int32) (i3 : Int32) (σ : St) : Option (Int32 × St) :=
  k6 i1 i2 (i3 + (1 : Int32)) σ
theorem ok_M_insertQueued_b54 {X : Cx (St × Nat)} {Z : State} {a0 : Array Value} {l : Launch} {n1 : Nat} {a : Addr} {h0 : Heap} {NF : Nat} (K : KM_M_insertQueued X Z a0 l n1 a h0) (hw : HW a0 Z) {k6 : Int32 → Int32 → Int32 → St → Option (Int32 × St)} {i1 : Int32} {i2 : Int32} {i3 : Int32} {σ : St} {r : Int32 × St} (hk6 : ∀ (i1 : Int32) (i2 : Int32) (i3 : Int32) (σ : St) (h : k6 i1 i2 i3 σ = some r), Go X (some (.int r.1), (r.2, 31)) 6 [some (.ref 0), some (.int i1), some (.int i2), some (.int i3), none] [] (σ, 31)) (h : M_insertQueued_b54 NF k6 i1 i2 i3 σ = some r) : Go X (some (.int r.1), (r.2, 31)) 54 [some (.ref 0), some (.int i1), some (.int i2), some (.int i3), none] [] (σ, 31) := by
  unfold M_insertQueued_b54 at h
  refine g_iinc (pc := 54) (w := 1) (L' := [some (.ref 0), some (.int i1), some (.int i2), some (.int (i3 + (1 : Int32))), none]) K.1 d9_54 rfl (by decide) rfl ?_
  refine g_goto (pc := 57) (pc' := 6) K.1 d9_57 (by decide) ?_
  exact hk6 _ _ _ _ h
def M_insertQueued_w6 (NF : Nat) (k6 : Int32 → Int32 → Int32 → St → Option (Int32 × St)) (i1 : Int32) (i2 : Int32) (i3 : Int32) (σ : St) : Option (Int32 × St) :=
  (if 0 ≤ (i2).toInt ∧ (i2).toInt < 4 then (if i3 < (gA σ 8 (i2).toInt) then (if i3 < (8 : Int32) then (if 0 ≤ (((i2 * (8 : Int32)) + i3)).toInt ∧ (((i2 * (8 : Int32)) + i3)).toInt < 32 then (if (gA σ 5 (((i2 * (8 : Int32)) + i3)).toInt) = (1 : Int32) then (if 0 ≤ (((i2 * (8 : Int32)) + i3)).toInt ∧ (((i2 * (8 : Int32)) + i3)).toInt < 32 then (if (gA σ 6 (((i2 * (8 : Int32)) + i3)).toInt) = i1 then (some ((1 : Int32), σ)) else M_insertQueued_b54 NF k6 i1 i2 i3 σ) else none) else M_insertQueued_b54 NF k6 i1 i2 i3 σ) else none) else (some ((0 : Int32), σ))) else (some ((0 : Int32), σ))) else none)
theorem ok_M_insertQueued_w6 {X : Cx (St × Nat)} {Z : State} {a0 : Array Value} {l : Launch} {n1 : Nat} {a : Addr} {h0 : Heap} {NF : Nat} (K : KM_M_insertQueued X Z a0 l n1 a h0) (hw : HW a0 Z) {k6 : Int32 → Int32 → Int32 → St → Option (Int32 × St)} {i1 : Int32} {i2 : Int32} {i3 : Int32} {σ : St} {r : Int32 × St} (hk6 : ∀ (i1 : Int32) (i2 : Int32) (i3 : Int32) (σ : St) (h : k6 i1 i2 i3 σ = some r), Go X (some (.int r.1), (r.2, 31)) 6 [some (.ref 0), some (.int i1), some (.int i2), some (.int i3), none] [] (σ, 31)) (h : M_insertQueued_w6 NF k6 i1 i2 i3 σ = some r) : Go X (some (.int r.1), (r.2, 31)) 6 [some (.ref 0), some (.int i1), some (.int i2), some (.int i3), none] [] (σ, 31) := by
  unfold M_insertQueued_w6 at h
  refine g_iloadN (pc := 6) K.1 d9_6 rfl ?_
  refine g_aloadN (pc := 7) K.1 d9_7 rfl ?_
  refine g_getA (pc := 8) K d9_8 (w57 hw) mf_qLen rfl ?_
  refine g_iloadN (pc := 11) K.1 d9_11 rfl ?_
  obtain ⟨hc12, h⟩ := ifn h
  refine g_iaload (pc := 12) K d9_12 ma_qLen rfl hc12 ?_
  rcases ifs h with ⟨hc13, h⟩ | ⟨hc13, h⟩
  · refine g_icF (pc := 13) K.1 d9_13 ((tlt hc13).2.1) ?_
    refine g_iloadN (pc := 16) K.1 d9_16 rfl ?_
    refine g_bipush (pc := 17) (v := 8) K.1 d9_17 (by decide) ?_
    rcases ifs h with ⟨hc19, h⟩ | ⟨hc19, h⟩
    · refine g_icF (pc := 19) K.1 d9_19 ((tlt hc19).2.1) ?_
      refine g_iloadN (pc := 22) K.1 d9_22 rfl ?_
      refine g_bipush (pc := 23) (v := 8) K.1 d9_23 (by decide) ?_
      refine g_imul (pc := 25) K.1 d9_25 ?_
      refine g_iloadN (pc := 26) K.1 d9_26 rfl ?_
      refine g_iadd (pc := 27) K.1 d9_27 ?_
      refine g_istore (pc := 28) (L' := [some (.ref 0), some (.int i1), some (.int i2), some (.int i3), some (.int ((i2 * (8 : Int32)) + i3))]) K.1 d9_28 (blt rfl) rfl ?_
      refine g_aloadN (pc := 30) K.1 d9_30 rfl ?_
      refine g_getA (pc := 31) K d9_31 (w51 hw) mf_qOp rfl ?_
      refine g_iload (pc := 34) K.1 d9_34 rfl ?_
      obtain ⟨hc36, h⟩ := ifn h
      refine g_iaload (pc := 36) K d9_36 ma_qOp rfl hc36 ?_
      refine g_iconst (pc := 37) (v := 1) K.1 d9_37 (by decide) ?_
      rcases ifs h with ⟨hc38, h⟩ | ⟨hc38, h⟩
      · refine g_icF (pc := 38) K.1 d9_38 ((teq hc38).2) ?_
        refine g_aloadN (pc := 41) K.1 d9_41 rfl ?_
        refine g_getA (pc := 42) K d9_42 (w53 hw) mf_qKey rfl ?_
        refine g_iload (pc := 45) K.1 d9_45 rfl ?_
        obtain ⟨hc47, h⟩ := ifn h
        refine g_iaload (pc := 47) K d9_47 ma_qKey rfl hc47 ?_
        refine g_iloadN (pc := 48) K.1 d9_48 rfl ?_
        rcases ifs h with ⟨hc49, h⟩ | ⟨hc49, h⟩
        · refine g_icF (pc := 49) K.1 d9_49 ((teq hc49).2) ?_
          refine g_iconst (pc := 52) (v := 1) K.1 d9_52 (by decide) ?_
          cases h; exact g_ireturnN (t := .boolean) K.1 rfl (Or.inl rfl) d9_53 rfl (capC K)
        refine g_icT (pc := 49) (pc' := 54) K.1 d9_49 (by decide) ((feq hc49).2) ?_
        exact g_less (ok_M_insertQueued_b54 K hw hk6 h) (ls (ls (ls (ls (ln l0)))))
      refine g_icT (pc := 38) (pc' := 54) K.1 d9_38 (by decide) ((feq hc38).2) ?_
      exact g_less (ok_M_insertQueued_b54 K hw hk6 h) (ls (ls (ls (ls (ln l0)))))
    refine g_icT (pc := 19) (pc' := 60) K.1 d9_19 (by decide) ((flt hc19).2.1) ?_
    refine g_iconst (pc := 60) (v := 0) K.1 d9_60 (by decide) ?_
    cases h; exact g_ireturnN (t := .boolean) K.1 rfl (Or.inl rfl) d9_61 rfl (capC K)
  refine g_icT (pc := 13) (pc' := 60) K.1 d9_13 (by decide) ((flt hc13).2.1) ?_
  refine g_iconst (pc := 60) (v := 0) K.1 d9_60 (by decide) ?_
  cases h; exact g_ireturnN (t := .boolean) K.1 rfl (Or.inl rfl) d9_61 rfl (capC K)
def M_insertQueued_l6 (NF : Nat)  : Nat → Int32 → Int32 → Int32 → St → Option (Int32 × St)
  | 0 => fun _ _ _ _ => none
  | n + 1 => fun i1 i2 i3 σ => M_insertQueued_w6 NF  (M_insertQueued_l6 NF  n) i1 i2 i3 σ
theorem ok_M_insertQueued_l6 {X : Cx (St × Nat)} {Z : State} {a0 : Array Value} {l : Launch} {n1 : Nat} {a : Addr} {h0 : Heap} {NF : Nat} (K : KM_M_insertQueued X Z a0 l n1 a h0) (hw : HW a0 Z) (n : Nat)  {r : Int32 × St}  : ∀ (i1 : Int32) (i2 : Int32) (i3 : Int32) (σ : St) (h : M_insertQueued_l6 NF  n i1 i2 i3 σ = some r), Go X (some (.int r.1), (r.2, 31)) 6 [some (.ref 0), some (.int i1), some (.int i2), some (.int i3), none] [] (σ, 31) := by
  induction n with
  | zero => intro i1 i2 i3 σ h; cases h
  | succ n ih => intro i1 i2 i3 σ h; exact ok_M_insertQueued_w6 (NF := NF) K hw  ih h
def M_insertQueued (NF : Nat) (σ : St) (v1 : Int32) : Option (Int32 × St) :=
  M_insertQueued_l6 NF NF v1 (v1 &&& (3 : Int32)) (0 : Int32) σ
theorem ok_M_insertQueued {X : Cx (St × Nat)} {Z : State} {a0 : Array Value} {l : Launch} {n1 : Nat} {a : Addr} {h0 : Heap} {NF : Nat} (K : KM_M_insertQueued X Z a0 l n1 a h0) (hw : HW a0 Z) {σ : St} {v1 : Int32} {r : Int32 × St} (h : M_insertQueued NF σ v1 = some r) : Go X (some (.int r.1), (r.2, 31)) 0 [some (.ref 0), some (.int v1), none, none, none] [] (σ, 31) := by
  unfold M_insertQueued at h
  refine g_iloadN (pc := 0) K.1 d9_0 rfl ?_
  refine g_iconst (pc := 1) (v := 3) K.1 d9_1 (by decide) ?_
  refine g_iand (pc := 2) K.1 d9_2 ?_
  refine g_istoreN (pc := 3) (L' := [some (.ref 0), some (.int v1), some (.int (v1 &&& (3 : Int32))), none, none]) K.1 d9_3 (blt rfl) rfl ?_
  refine g_iconst (pc := 4) (v := 0) K.1 d9_4 (by decide) ?_
  refine g_istoreN (pc := 5) (L' := [some (.ref 0), some (.int v1), some (.int (v1 &&& (3 : Int32))), some (.int (0 : Int32)), none]) K.1 d9_5 (blt rfl) rfl ?_
  exact ok_M_insertQueued_l6 K hw NF  _ _ _ _ h
theorem con_M_insertQueued (l : Launch) (Z : State) (a0 : Array Value) (hw : HW a0 Z) (n1 : Nat) (a : Addr) (ha : n1 ≤ a) {NF : Nat} {σ : St} {v1 : Int32} {r : Int32 × St} (h : M_insertQueued NF σ v1 = some r) : Con l Z cC cFS cFA 31 n1 a ⟨cC, "insertQueued", "(I)Z"⟩ c9 5 (some .boolean) ⟨0, 0, 0, 0⟩ [.ref 0, .int v1] σ (some (.int r.1)) r.2 :=
  con_of_go pnC rfl (layW hw) lgood ha (fun X h1 K => ok_M_insertQueued K hw h)
abbrev KM_M_submit (X : Cx (St × Nat)) (Z : State) (a0 : Array Value) (l : Launch) (n1 : Nat) (a : Addr) (h0 : Heap) : Prop := CtxC X Z a0 cC cFS cFA 31 52 l n1 a h0 ce0 ⟨2, 0, 0, 32⟩ "submit" c4 8 (some .int)
def M_submit_b102 (NF : Nat)  (i1 : Int32) (i2 : Int32) (i3 : Int32) (i4 : Int32) (i5 : Int32) (i6 : Int32) (σ : St) : Option (Int32 × St) :=
  (if 0 ≤ (((i4 * (8 : Int32)) + i5)).toInt ∧ (((i4 * (8 : Int32)) + i5)).toInt < 32 then (if 0 ≤ (((i4 * (8 : Int32)) + i5)).toInt ∧ (((i4 * (8 : Int32)) + i5)).toInt < 32 then (if 0 ≤ (((i4 * (8 : Int32)) + i5)).toInt ∧ (((i4 * (8 : Int32)) + i5)).toInt < 32 then (if 0 ≤ (i4).toInt ∧ (i4).toInt < 4 then (if i6 = 0 then (some (i5, (sA (sA (sA (sA σ 5 (((i4 * (8 : Int32)) + i5)).toInt i1) 6 (((i4 * (8 : Int32)) + i5)).toInt i2) 7 (((i4 * (8 : Int32)) + i5)).toInt i3) 8 (i4).toInt (i5 + (1 : Int32))))) else (some (i5, (sI (sA (sA (sA (sA σ 5 (((i4 * (8 : Int32)) + i5)).toInt i1) 6 (((i4 * (8 : Int32)) + i5)).toInt i2) 7 (((i4 * (8 : Int32)) + i5)).toInt i3) 8 (i4).toInt (i5 + (1 : Int32))) 140 ((gI (sA (sA (sA (sA σ 5 (((i4 * (8 : Int32)) + i5)).toInt i1) 6 (((i4 * (8 : Int32)) + i5)).toInt i2) 7 (((i4 * (8 : Int32)) + i5)).toInt i3) 8 (i4).toInt (i5 + (1 : Int32))) 140) + (1 : Int32)))))) else none) else none) else none) else none)
theorem ok_M_submit_b102 {X : Cx (St × Nat)} {Z : State} {a0 : Array Value} {l : Launch} {n1 : Nat} {a : Addr} {h0 : Heap} {NF : Nat} (K : KM_M_submit X Z a0 l n1 a h0) (hw : HW a0 Z)  {i1 : Int32} {i2 : Int32} {i3 : Int32} {i4 : Int32} {i5 : Int32} {i6 : Int32} {σ : St} {r : Int32 × St}  (h : M_submit_b102 NF  i1 i2 i3 i4 i5 i6 σ = some r) : Go X (some (.int r.1), (r.2, 31)) 102 [some (.ref 0), some (.int i1), some (.int i2), some (.int i3), some (.int i4), some (.int i5), some (.int i6), none] [] (σ, 31) := by
  unfold M_submit_b102 at h
  refine g_iload (pc := 102) K.1 d4_102 rfl ?_
  refine g_bipush (pc := 104) (v := 8) K.1 d4_104 (by decide) ?_
  refine g_imul (pc := 106) K.1 d4_106 ?_
  refine g_iload (pc := 107) K.1 d4_107 rfl ?_
  refine g_iadd (pc := 109) K.1 d4_109 ?_
  refine g_istore (pc := 110) (L' := [some (.ref 0), some (.int i1), some (.int i2), some (.int i3), some (.int i4), some (.int i5), some (.int i6), some (.int ((i4 * (8 : Int32)) + i5))]) K.1 d4_110 (blt rfl) rfl ?_
  refine g_aloadN (pc := 112) K.1 d4_112 rfl ?_
  refine g_getA (pc := 113) K d4_113 (w51 hw) mf_qOp rfl ?_
  refine g_iload (pc := 116) K.1 d4_116 rfl ?_
  refine g_iloadN (pc := 118) K.1 d4_118 rfl ?_
  obtain ⟨hc119, h⟩ := ifn h
  refine g_iastore (pc := 119) K d4_119 ma_qOp rfl hc119 ?_
  refine g_aloadN (pc := 120) K.1 d4_120 rfl ?_
  refine g_getA (pc := 121) K d4_121 (w53 hw) mf_qKey rfl ?_
  refine g_iload (pc := 124) K.1 d4_124 rfl ?_
  refine g_iloadN (pc := 126) K.1 d4_126 rfl ?_
  obtain ⟨hc127, h⟩ := ifn h
  refine g_iastore (pc := 127) K d4_127 ma_qKey rfl hc127 ?_
  refine g_aloadN (pc := 128) K.1 d4_128 rfl ?_
  refine g_getA (pc := 129) K d4_129 (w55 hw) mf_qVal rfl ?_
  refine g_iload (pc := 132) K.1 d4_132 rfl ?_
  refine g_iloadN (pc := 134) K.1 d4_134 rfl ?_
  obtain ⟨hc135, h⟩ := ifn h
  refine g_iastore (pc := 135) K d4_135 ma_qVal rfl hc135 ?_
  refine g_aloadN (pc := 136) K.1 d4_136 rfl ?_
  refine g_getA (pc := 137) K d4_137 (w57 hw) mf_qLen rfl ?_
  refine g_iload (pc := 140) K.1 d4_140 rfl ?_
  refine g_iload (pc := 142) K.1 d4_142 rfl ?_
  refine g_iconst (pc := 144) (v := 1) K.1 d4_144 (by decide) ?_
  refine g_iadd (pc := 145) K.1 d4_145 ?_
  obtain ⟨hc146, h⟩ := ifn h
  refine g_iastore (pc := 146) K d4_146 ma_qLen rfl hc146 ?_
  refine g_iload (pc := 147) K.1 d4_147 rfl ?_
  rcases ifs h with ⟨hc149, h⟩ | ⟨hc149, h⟩
  · refine g_ifT (pc := 149) (pc' := 162) K.1 d4_149 (by decide) ((if0 _ _).trans (teq hc149).1) ?_
    refine g_iload (pc := 162) K.1 d4_162 rfl ?_
    cases h; exact g_ireturn K.1 d4_164 (capC K)
  refine g_ifF (pc := 149) K.1 d4_149 ((if0 _ _).trans (feq hc149).1) ?_
  refine g_aloadN (pc := 152) K.1 d4_152 rfl ?_
  refine g_dup (pc := 153) K.1 d4_153 rfl ?_
  refine g_getI (pc := 154) K d4_154 (w139 hw) mf_reservedCount ?_
  refine g_iconst (pc := 157) (v := 1) K.1 d4_157 (by decide) ?_
  refine g_iadd (pc := 158) K.1 d4_158 ?_
  refine g_putI (pc := 159) (t := .int) (v' := ((gI (sA (sA (sA (sA σ 5 (((i4 * (8 : Int32)) + i5)).toInt i1) 6 (((i4 * (8 : Int32)) + i5)).toInt i2) 7 (((i4 * (8 : Int32)) + i5)).toInt i3) 8 (i4).toInt (i5 + (1 : Int32))) 140) + (1 : Int32))) K d4_159 (w139 hw) mf_reservedCount (Or.inl (w140 hw)) pfd_I rfl rfl ?_
  refine g_iload (pc := 162) K.1 d4_162 rfl ?_
  cases h; exact g_ireturn K.1 d4_164 (capC K)
def M_submit_b81 (NF : Nat)  (i1 : Int32) (i2 : Int32) (i3 : Int32) (i4 : Int32) (i5 : Int32) (t0 : Int32) (σ : St) : Option (Int32 × St) :=
  (if t0 = 0 then M_submit_b102 NF i1 i2 i3 i4 i5 t0 σ else (if (gI σ 140) < (gI σ 135) then M_submit_b102 NF i1 i2 i3 i4 i5 t0 σ else (some ((-4 : Int32), σ))))
theorem ok_M_submit_b81 {X : Cx (St × Nat)} {Z : State} {a0 : Array Value} {l : Launch} {n1 : Nat} {a : Addr} {h0 : Heap} {NF : Nat} (K : KM_M_submit X Z a0 l n1 a h0) (hw : HW a0 Z)  {i1 : Int32} {i2 : Int32} {i3 : Int32} {i4 : Int32} {i5 : Int32} {t0 : Int32} {σ : St} {r : Int32 × St}  (h : M_submit_b81 NF  i1 i2 i3 i4 i5 t0 σ = some r) : Go X (some (.int r.1), (r.2, 31)) 81 [some (.ref 0), some (.int i1), some (.int i2), some (.int i3), some (.int i4), some (.int i5), none, none] [.int t0] (σ, 31) := by
  unfold M_submit_b81 at h
  refine g_istore (pc := 81) (L' := [some (.ref 0), some (.int i1), some (.int i2), some (.int i3), some (.int i4), some (.int i5), some (.int t0), none]) K.1 d4_81 (blt rfl) rfl ?_
  refine g_iload (pc := 83) K.1 d4_83 rfl ?_
  rcases ifs h with ⟨hc85, h⟩ | ⟨hc85, h⟩
  · refine g_ifT (pc := 85) (pc' := 102) K.1 d4_85 (by decide) ((if0 _ _).trans (teq hc85).1) ?_
    exact ok_M_submit_b102 K hw  h
  refine g_ifF (pc := 85) K.1 d4_85 ((if0 _ _).trans (feq hc85).1) ?_
  refine g_aloadN (pc := 88) K.1 d4_88 rfl ?_
  refine g_getI (pc := 89) K d4_89 (w139 hw) mf_reservedCount ?_
  refine g_aloadN (pc := 92) K.1 d4_92 rfl ?_
  refine g_getI (pc := 93) K d4_93 (w110 hw) mf_cap ?_
  rcases ifs h with ⟨hc96, h⟩ | ⟨hc96, h⟩
  · refine g_icT (pc := 96) (pc' := 102) K.1 d4_96 (by decide) ((tlt hc96).1) ?_
    exact ok_M_submit_b102 K hw  h
  refine g_icF (pc := 96) K.1 d4_96 ((flt hc96).1) ?_
  refine g_bipush (pc := 99) (v := -4) K.1 d4_99 (by decide) ?_
  cases h; exact g_ireturn K.1 d4_101 (capC K)
def M_submit_b80 (NF : Nat)  (i1 : Int32) (i2 : Int32) (i3 : Int32) (i4 : Int32) (i5 : Int32) (σ : St) : Option (Int32 × St) :=
  M_submit_b81 NF i1 i2 i3 i4 i5 (0 : Int32) σ
theorem ok_M_submit_b80 {X : Cx (St × Nat)} {Z : State} {a0 : Array Value} {l : Launch} {n1 : Nat} {a : Addr} {h0 : Heap} {NF : Nat} (K : KM_M_submit X Z a0 l n1 a h0) (hw : HW a0 Z)  {i1 : Int32} {i2 : Int32} {i3 : Int32} {i4 : Int32} {i5 : Int32} {σ : St} {r : Int32 × St}  (h : M_submit_b80 NF  i1 i2 i3 i4 i5 σ = some r) : Go X (some (.int r.1), (r.2, 31)) 80 [some (.ref 0), some (.int i1), some (.int i2), some (.int i3), some (.int i4), some (.int i5), none, none] [] (σ, 31) := by
  unfold M_submit_b80 at h
  refine g_iconst (pc := 80) (v := 0) K.1 d4_80 (by decide) ?_
  exact ok_M_submit_b81 K hw  h
def M_submit_b17 (NF : Nat)  (i1 : Int32) (i2 : Int32) (i3 : Int32) (σ : St) : Option (Int32 × St) :=
  (if i2 < 0 then (some ((-2 : Int32), σ)) else (if i2 < (1024 : Int32) then (if 0 ≤ ((i2 &&& (3 : Int32))).toInt ∧ ((i2 &&& (3 : Int32))).toInt < 4 then (if (gA σ 8 ((i2 &&& (3 : Int32))).toInt) < (8 : Int32) then (if i1 = (1 : Int32) then ((M_findSlot NF σ i2).bind fun q62 => (if q62.1 < 0 then ((M_insertQueued NF q62.2 i2).bind fun q70 => (if q70.1 = 0 then M_submit_b81 NF i1 i2 i3 (i2 &&& (3 : Int32)) (gA σ 8 ((i2 &&& (3 : Int32))).toInt) (1 : Int32) q70.2 else M_submit_b80 NF i1 i2 i3 (i2 &&& (3 : Int32)) (gA σ 8 ((i2 &&& (3 : Int32))).toInt) q70.2)) else M_submit_b80 NF i1 i2 i3 (i2 &&& (3 : Int32)) (gA σ 8 ((i2 &&& (3 : Int32))).toInt) q62.2)) else M_submit_b80 NF i1 i2 i3 (i2 &&& (3 : Int32)) (gA σ 8 ((i2 &&& (3 : Int32))).toInt) σ) else (some ((-3 : Int32), σ))) else none) else (some ((-2 : Int32), σ))))
theorem ok_M_submit_b17 {X : Cx (St × Nat)} {Z : State} {a0 : Array Value} {l : Launch} {n1 : Nat} {a : Addr} {h0 : Heap} {NF : Nat} (K : KM_M_submit X Z a0 l n1 a h0) (hw : HW a0 Z)  {i1 : Int32} {i2 : Int32} {i3 : Int32} {σ : St} {r : Int32 × St}  (h : M_submit_b17 NF  i1 i2 i3 σ = some r) : Go X (some (.int r.1), (r.2, 31)) 17 [some (.ref 0), some (.int i1), some (.int i2), some (.int i3), none, none, none, none] [] (σ, 31) := by
  unfold M_submit_b17 at h
  refine g_iloadN (pc := 17) K.1 d4_17 rfl ?_
  rcases ifs h with ⟨hc18, h⟩ | ⟨hc18, h⟩
  · refine g_ifT (pc := 18) (pc' := 28) K.1 d4_18 (by decide) ((if0 _ _).trans (tlt hc18).1) ?_
    refine g_bipush (pc := 28) (v := -2) K.1 d4_28 (by decide) ?_
    cases h; exact g_ireturn K.1 d4_30 (capC K)
  refine g_ifF (pc := 18) K.1 d4_18 ((if0 _ _).trans (flt hc18).1) ?_
  refine g_iloadN (pc := 21) K.1 d4_21 rfl ?_
  refine g_sipush (pc := 22) (v := 1024) K.1 d4_22 (by decide) ?_
  rcases ifs h with ⟨hc25, h⟩ | ⟨hc25, h⟩
  · refine g_icT (pc := 25) (pc' := 31) K.1 d4_25 (by decide) ((tlt hc25).1) ?_
    refine g_iloadN (pc := 31) K.1 d4_31 rfl ?_
    refine g_iconst (pc := 32) (v := 3) K.1 d4_32 (by decide) ?_
    refine g_iand (pc := 33) K.1 d4_33 ?_
    refine g_istore (pc := 34) (L' := [some (.ref 0), some (.int i1), some (.int i2), some (.int i3), some (.int (i2 &&& (3 : Int32))), none, none, none]) K.1 d4_34 (blt rfl) rfl ?_
    refine g_aloadN (pc := 36) K.1 d4_36 rfl ?_
    refine g_getA (pc := 37) K d4_37 (w57 hw) mf_qLen rfl ?_
    refine g_iload (pc := 40) K.1 d4_40 rfl ?_
    obtain ⟨hc42, h⟩ := ifn h
    refine g_iaload (pc := 42) K d4_42 ma_qLen rfl hc42 ?_
    refine g_istore (pc := 43) (L' := [some (.ref 0), some (.int i1), some (.int i2), some (.int i3), some (.int (i2 &&& (3 : Int32))), some (.int (gA σ 8 ((i2 &&& (3 : Int32))).toInt)), none, none]) K.1 d4_43 (blt rfl) rfl ?_
    refine g_iload (pc := 45) K.1 d4_45 rfl ?_
    refine g_bipush (pc := 47) (v := 8) K.1 d4_47 (by decide) ?_
    rcases ifs h with ⟨hc49, h⟩ | ⟨hc49, h⟩
    · refine g_icT (pc := 49) (pc' := 55) K.1 d4_49 (by decide) ((tlt hc49).1) ?_
      refine g_iloadN (pc := 55) K.1 d4_55 rfl ?_
      refine g_iconst (pc := 56) (v := 1) K.1 d4_56 (by decide) ?_
      rcases ifs h with ⟨hc57, h⟩ | ⟨hc57, h⟩
      · refine g_icF (pc := 57) K.1 d4_57 ((teq hc57).2) ?_
        refine g_aloadN (pc := 60) K.1 d4_60 rfl ?_
        refine g_iloadN (pc := 61) K.1 d4_61 rfl ?_
        obtain ⟨q62, hq62, h⟩ := Option.bind_eq_some_iff.mp h
        refine g_callP (pc := 62) (vs := [.int i2]) K d4_62 (w119 hw) (w120 hw) (w121 hw) (w122 hw) hyC pd_2 rfl rfl (con_M_findSlot l Z a0 hw n1 a (ctx_le K) hq62) rfl (Nat.le_of_ble_eq_true rfl) (Nat.le_of_ble_eq_true rfl) rfl rfl ?_
        rcases ifs h with ⟨hc65, h⟩ | ⟨hc65, h⟩
        · refine g_ifF (pc := 65) K.1 d4_65 ((if0 _ _).trans (tlt hc65).2.1) ?_
          refine g_aloadN (pc := 68) K.1 d4_68 rfl ?_
          refine g_iloadN (pc := 69) K.1 d4_69 rfl ?_
          obtain ⟨q70, hq70, h⟩ := Option.bind_eq_some_iff.mp h
          refine g_callP (pc := 70) (vs := [.int i2]) K d4_70 (w135 hw) (w136 hw) (w137 hw) (w138 hw) hyC pd_3 rfl rfl (con_M_insertQueued l Z a0 hw n1 a (ctx_le K) hq70) rfl (Nat.le_of_ble_eq_true rfl) (Nat.le_of_ble_eq_true rfl) rfl rfl ?_
          rcases ifs h with ⟨hc73, h⟩ | ⟨hc73, h⟩
          · refine g_ifF (pc := 73) K.1 d4_73 ((if0 _ _).trans (teq hc73).2) ?_
            refine g_iconst (pc := 76) (v := 1) K.1 d4_76 (by decide) ?_
            refine g_goto (pc := 77) (pc' := 81) K.1 d4_77 (by decide) ?_
            exact ok_M_submit_b81 K hw  h
          refine g_ifT (pc := 73) (pc' := 80) K.1 d4_73 (by decide) ((if0 _ _).trans (feq hc73).2) ?_
          exact ok_M_submit_b80 K hw  h
        refine g_ifT (pc := 65) (pc' := 80) K.1 d4_65 (by decide) ((if0 _ _).trans (flt hc65).2.1) ?_
        exact ok_M_submit_b80 K hw  h
      refine g_icT (pc := 57) (pc' := 80) K.1 d4_57 (by decide) ((feq hc57).2) ?_
      exact ok_M_submit_b80 K hw  h
    refine g_icF (pc := 49) K.1 d4_49 ((flt hc49).1) ?_
    refine g_bipush (pc := 52) (v := -3) K.1 d4_52 (by decide) ?_
    cases h; exact g_ireturn K.1 d4_54 (capC K)
  refine g_icF (pc := 25) K.1 d4_25 ((flt hc25).1) ?_
  refine g_bipush (pc := 28) (v := -2) K.1 d4_28 (by decide) ?_
  cases h; exact g_ireturn K.1 d4_30 (capC K)
def M_submit (NF : Nat) (σ : St) (v1 : Int32) (v2 : Int32) (v3 : Int32) : Option (Int32 × St) :=
  (if v1 = (1 : Int32) then M_submit_b17 NF v1 v2 v3 σ else (if v1 = (2 : Int32) then M_submit_b17 NF v1 v2 v3 σ else (if v1 = (3 : Int32) then M_submit_b17 NF v1 v2 v3 σ else (some ((-1 : Int32), σ)))))
theorem ok_M_submit {X : Cx (St × Nat)} {Z : State} {a0 : Array Value} {l : Launch} {n1 : Nat} {a : Addr} {h0 : Heap} {NF : Nat} (K : KM_M_submit X Z a0 l n1 a h0) (hw : HW a0 Z) {σ : St} {v1 : Int32} {v2 : Int32} {v3 : Int32} {r : Int32 × St} (h : M_submit NF σ v1 v2 v3 = some r) : Go X (some (.int r.1), (r.2, 31)) 0 [some (.ref 0), some (.int v1), some (.int v2), some (.int v3), none, none, none, none] [] (σ, 31) := by
  unfold M_submit at h
  refine g_iloadN (pc := 0) K.1 d4_0 rfl ?_
  refine g_iconst (pc := 1) (v := 1) K.1 d4_1 (by decide) ?_
  rcases ifs h with ⟨hc2, h⟩ | ⟨hc2, h⟩
  · refine g_icT (pc := 2) (pc' := 17) K.1 d4_2 (by decide) ((teq hc2).1) ?_
    exact ok_M_submit_b17 K hw  h
  refine g_icF (pc := 2) K.1 d4_2 ((feq hc2).1) ?_
  refine g_iloadN (pc := 5) K.1 d4_5 rfl ?_
  refine g_iconst (pc := 6) (v := 2) K.1 d4_6 (by decide) ?_
  rcases ifs h with ⟨hc7, h⟩ | ⟨hc7, h⟩
  · refine g_icT (pc := 7) (pc' := 17) K.1 d4_7 (by decide) ((teq hc7).1) ?_
    exact ok_M_submit_b17 K hw  h
  refine g_icF (pc := 7) K.1 d4_7 ((feq hc7).1) ?_
  refine g_iloadN (pc := 10) K.1 d4_10 rfl ?_
  refine g_iconst (pc := 11) (v := 3) K.1 d4_11 (by decide) ?_
  rcases ifs h with ⟨hc12, h⟩ | ⟨hc12, h⟩
  · refine g_icT (pc := 12) (pc' := 17) K.1 d4_12 (by decide) ((teq hc12).1) ?_
    exact ok_M_submit_b17 K hw  h
  refine g_icF (pc := 12) K.1 d4_12 ((feq hc12).1) ?_
  refine g_iconst (pc := 15) (v := -1) K.1 d4_15 (by decide) ?_
  cases h; exact g_ireturn K.1 d4_16 (capC K)
theorem con_M_submit (l : Launch) (Z : State) (a0 : Array Value) (hw : HW a0 Z) (n1 : Nat) (a : Addr) (ha : n1 ≤ a) {NF : Nat} {σ : St} {v1 : Int32} {v2 : Int32} {v3 : Int32} {r : Int32 × St} (h : M_submit NF σ v1 v2 v3 = some r) : Con l Z cC cFS cFA 31 n1 a ⟨cC, "submit", "(III)I"⟩ c4 8 (some .int) ⟨2, 0, 0, 32⟩ [.ref 0, .int v1, .int v2, .int v3] σ (some (.int r.1)) r.2 :=
  con_of_go pnC rfl (layW hw) lgood ha (fun X h1 K => ok_M_submit K hw h)
abbrev KM_M_validThread (X : Cx (St × Nat)) (Z : State) (a0 : Array Value) (l : Launch) (n1 : Nat) (a : Addr) (h0 : Heap) : Prop := CtxC X Z a0 cC cFS cFA 31 52 l n1 a h0 ce0 ⟨0, 0, 0, 0⟩ "validThread" c11 2 (some .boolean)
def M_validThread (σ : St) (v1 : Int32) : Option (Int32 × St) :=
  (if v1 < 0 then (some ((0 : Int32), σ)) else (if v1 < (4 : Int32) then (some ((1 : Int32), σ)) else (some ((0 : Int32), σ))))
theorem ok_M_validThread {X : Cx (St × Nat)} {Z : State} {a0 : Array Value} {l : Launch} {n1 : Nat} {a : Addr} {h0 : Heap} (K : KM_M_validThread X Z a0 l n1 a h0) (hw : HW a0 Z) {σ : St} {v1 : Int32} {r : Int32 × St} (h : M_validThread σ v1 = some r) : Go X (some (.int r.1), (r.2, 31)) 0 [some (.ref 0), some (.int v1)] [] (σ, 31) := by
  unfold M_validThread at h
  refine g_iloadN (pc := 0) K.1 d11_0 rfl ?_
  rcases ifs h with ⟨hc1, h⟩ | ⟨hc1, h⟩
  · refine g_ifT (pc := 1) (pc' := 13) K.1 d11_1 (by decide) ((if0 _ _).trans (tlt hc1).1) ?_
    refine g_iconst (pc := 13) (v := 0) K.1 d11_13 (by decide) ?_
    cases h; exact g_ireturnN (t := .boolean) K.1 rfl (Or.inl rfl) d11_14 rfl (capC K)
  refine g_ifF (pc := 1) K.1 d11_1 ((if0 _ _).trans (flt hc1).1) ?_
  refine g_iloadN (pc := 4) K.1 d11_4 rfl ?_
  refine g_iconst (pc := 5) (v := 4) K.1 d11_5 (by decide) ?_
  rcases ifs h with ⟨hc6, h⟩ | ⟨hc6, h⟩
  · refine g_icF (pc := 6) K.1 d11_6 ((tlt hc6).2.1) ?_
    refine g_iconst (pc := 9) (v := 1) K.1 d11_9 (by decide) ?_
    refine g_goto (pc := 10) (pc' := 14) K.1 d11_10 (by decide) ?_
    cases h; exact g_ireturnN (t := .boolean) K.1 rfl (Or.inl rfl) d11_14 rfl (capC K)
  refine g_icT (pc := 6) (pc' := 13) K.1 d11_6 (by decide) ((flt hc6).2.1) ?_
  refine g_iconst (pc := 13) (v := 0) K.1 d11_13 (by decide) ?_
  cases h; exact g_ireturnN (t := .boolean) K.1 rfl (Or.inl rfl) d11_14 rfl (capC K)
theorem con_M_validThread (l : Launch) (Z : State) (a0 : Array Value) (hw : HW a0 Z) (n1 : Nat) (a : Addr) (ha : n1 ≤ a) {σ : St} {v1 : Int32} {r : Int32 × St} (h : M_validThread σ v1 = some r) : Con l Z cC cFS cFA 31 n1 a ⟨cC, "validThread", "(I)Z"⟩ c11 2 (some .boolean) ⟨0, 0, 0, 0⟩ [.ref 0, .int v1] σ (some (.int r.1)) r.2 :=
  con_of_go pnC rfl (layW hw) lgood ha (fun X h1 K => ok_M_validThread K hw h)
abbrev KM_M_pending (X : Cx (St × Nat)) (Z : State) (a0 : Array Value) (l : Launch) (n1 : Nat) (a : Addr) (h0 : Heap) : Prop := CtxC X Z a0 cC cFS cFA 31 52 l n1 a h0 ce0 ⟨1, 0, 0, 13⟩ "pending" c10 2 (some .int)
def M_pending (σ : St) (v1 : Int32) : Option (Int32 × St) :=
  ((M_validThread σ v1).bind fun q2 => (if q2.1 = 0 then (some ((-1 : Int32), q2.2)) else (if 0 ≤ (v1).toInt ∧ (v1).toInt < 4 then (some ((gA q2.2 8 (v1).toInt), q2.2)) else none)))
theorem ok_M_pending {X : Cx (St × Nat)} {Z : State} {a0 : Array Value} {l : Launch} {n1 : Nat} {a : Addr} {h0 : Heap} (K : KM_M_pending X Z a0 l n1 a h0) (hw : HW a0 Z) {σ : St} {v1 : Int32} {r : Int32 × St} (h : M_pending σ v1 = some r) : Go X (some (.int r.1), (r.2, 31)) 0 [some (.ref 0), some (.int v1)] [] (σ, 31) := by
  unfold M_pending at h
  refine g_aloadN (pc := 0) K.1 d10_0 rfl ?_
  refine g_iloadN (pc := 1) K.1 d10_1 rfl ?_
  obtain ⟨q2, hq2, h⟩ := Option.bind_eq_some_iff.mp h
  refine g_callP (pc := 2) (vs := [.int v1]) K d10_2 (w146 hw) (w147 hw) (w148 hw) (w149 hw) hyC pd_3 rfl rfl (con_M_validThread l Z a0 hw n1 a (ctx_le K) hq2) rfl (Nat.le_of_ble_eq_true rfl) (Nat.le_of_ble_eq_true rfl) rfl rfl ?_
  rcases ifs h with ⟨hc5, h⟩ | ⟨hc5, h⟩
  · refine g_ifF (pc := 5) K.1 d10_5 ((if0 _ _).trans (teq hc5).2) ?_
    refine g_iconst (pc := 8) (v := -1) K.1 d10_8 (by decide) ?_
    cases h; exact g_ireturn K.1 d10_9 (capC K)
  refine g_ifT (pc := 5) (pc' := 10) K.1 d10_5 (by decide) ((if0 _ _).trans (feq hc5).2) ?_
  refine g_aloadN (pc := 10) K.1 d10_10 rfl ?_
  refine g_getA (pc := 11) K d10_11 (w57 hw) mf_qLen rfl ?_
  refine g_iloadN (pc := 14) K.1 d10_14 rfl ?_
  obtain ⟨hc15, h⟩ := ifn h
  refine g_iaload (pc := 15) K d10_15 ma_qLen rfl hc15 ?_
  cases h; exact g_ireturn K.1 d10_16 (capC K)
theorem con_M_pending (l : Launch) (Z : State) (a0 : Array Value) (hw : HW a0 Z) (n1 : Nat) (a : Addr) (ha : n1 ≤ a) {σ : St} {v1 : Int32} {r : Int32 × St} (h : M_pending σ v1 = some r) : Con l Z cC cFS cFA 31 n1 a ⟨cC, "pending", "(I)I"⟩ c10 2 (some .int) ⟨1, 0, 0, 13⟩ [.ref 0, .int v1] σ (some (.int r.1)) r.2 :=
  con_of_go pnC rfl (layW hw) lgood ha (fun X h1 K => ok_M_pending K hw h)
abbrev KM_M_reserved (X : Cx (St × Nat)) (Z : State) (a0 : Array Value) (l : Launch) (n1 : Nat) (a : Addr) (h0 : Heap) : Prop := CtxC X Z a0 cC cFS cFA 31 52 l n1 a h0 ce0 ⟨0, 0, 0, 0⟩ "reserved" c12 1 (some .int)
def M_reserved (σ : St) : Option (Int32 × St) :=
  (some ((gI σ 140), σ))
theorem ok_M_reserved {X : Cx (St × Nat)} {Z : State} {a0 : Array Value} {l : Launch} {n1 : Nat} {a : Addr} {h0 : Heap} (K : KM_M_reserved X Z a0 l n1 a h0) (hw : HW a0 Z) {σ : St} {r : Int32 × St} (h : M_reserved σ = some r) : Go X (some (.int r.1), (r.2, 31)) 0 [some (.ref 0)] [] (σ, 31) := by
  unfold M_reserved at h
  refine g_aloadN (pc := 0) K.1 d12_0 rfl ?_
  refine g_getI (pc := 1) K d12_1 (w139 hw) mf_reservedCount ?_
  cases h; exact g_ireturn K.1 d12_4 (capC K)
theorem con_M_reserved (l : Launch) (Z : State) (a0 : Array Value) (hw : HW a0 Z) (n1 : Nat) (a : Addr) (ha : n1 ≤ a) {σ : St} {r : Int32 × St} (h : M_reserved σ = some r) : Con l Z cC cFS cFA 31 n1 a ⟨cC, "reserved", "()I"⟩ c12 1 (some .int) ⟨0, 0, 0, 0⟩ [.ref 0] σ (some (.int r.1)) r.2 :=
  con_of_go pnC rfl (layW hw) lgood ha (fun X h1 K => ok_M_reserved K hw h)
abbrev KM_M_size (X : Cx (St × Nat)) (Z : State) (a0 : Array Value) (l : Launch) (n1 : Nat) (a : Addr) (h0 : Heap) : Prop := CtxC X Z a0 cC cFS cFA 31 52 l n1 a h0 ce0 ⟨0, 0, 0, 0⟩ "size" c13 1 (some .int)
def M_size (σ : St) : Option (Int32 × St) :=
  (some ((gI σ 139), σ))
theorem ok_M_size {X : Cx (St × Nat)} {Z : State} {a0 : Array Value} {l : Launch} {n1 : Nat} {a : Addr} {h0 : Heap} (K : KM_M_size X Z a0 l n1 a h0) (hw : HW a0 Z) {σ : St} {r : Int32 × St} (h : M_size σ = some r) : Go X (some (.int r.1), (r.2, 31)) 0 [some (.ref 0)] [] (σ, 31) := by
  unfold M_size at h
  refine g_aloadN (pc := 0) K.1 d13_0 rfl ?_
  refine g_getI (pc := 1) K d13_1 (w160 hw) mf_sizeCount ?_
  cases h; exact g_ireturn K.1 d13_4 (capC K)
theorem con_M_size (l : Launch) (Z : State) (a0 : Array Value) (hw : HW a0 Z) (n1 : Nat) (a : Addr) (ha : n1 ≤ a) {σ : St} {r : Int32 × St} (h : M_size σ = some r) : Con l Z cC cFS cFA 31 n1 a ⟨cC, "size", "()I"⟩ c13 1 (some .int) ⟨0, 0, 0, 0⟩ [.ref 0] σ (some (.int r.1)) r.2 :=
  con_of_go pnC rfl (layW hw) lgood ha (fun X h1 K => ok_M_size K hw h)
abbrev KM_LAW (X : Cx (List (St × Nat))) (Z : State) (a0 : Array Value) (l : Launch) (n1 : Nat) (sc : Addr) (H0 : Heap) : Prop := CtxL X Z a0 cC cFS cFA 31 52 l n1 sc H0 (ceL 52 cFA) ⟨6, 72, 3456, 160⟩ 72 3456 "OptiCuckooL2" "law" code 24 (some .boolean)
def LAW_b314 (NF : Nat)  (i6 : Int32) (i7 : Int32) (i10 : Int32) (i11 : Int32) (i12 : Int32) (i13 : Int32) (i17 : Int32) (i20 : Int32) (i21 : Int32) (i22 : Int32) (t0 : Int32) (t1 : Int32) (x0 : St) : Option (Int32 × List (St × Nat)) :=
  (if i6 = i17 then (if i7 = i20 then (if i10 = i21 then (if i11 = i22 then (if i12 = (t0 - t1) then (if i13 = 0 then (some ((1 : Int32), [(x0, 31)])) else (some ((0 : Int32), [(x0, 31)]))) else (some ((0 : Int32), [(x0, 31)]))) else (some ((0 : Int32), [(x0, 31)]))) else (some ((0 : Int32), [(x0, 31)]))) else (some ((0 : Int32), [(x0, 31)]))) else (some ((0 : Int32), [(x0, 31)])))
theorem ok_LAW_b314 {X : Cx (List (St × Nat))} {Z : State} {a0 : Array Value} {l : Launch} {n1 : Nat} {sc : Addr} {H0 : Heap} {NF : Nat} (K : KM_LAW X Z a0 l n1 sc H0) (hw : HW a0 Z) (hs0 : hsz X = n1)  {i6 : Int32} {i7 : Int32} {i10 : Int32} {i11 : Int32} {i12 : Int32} {i13 : Int32} {i17 : Int32} {i20 : Int32} {i21 : Int32} {i22 : Int32} {t0 : Int32} {t1 : Int32} {x0 : St} {r : Int32 × List (St × Nat)}  (h : LAW_b314 NF  i6 i7 i10 i11 i12 i13 i17 i20 i21 i22 t0 t1 x0 = some r) : Go X (some (.int r.1), r.2) 314 [none, none, none, none, none, none, some (.int i6), some (.int i7), none, none, some (.int i10), some (.int i11), some (.int i12), some (.int i13), none, none, none, some (.int i17), none, none, some (.int i20), some (.int i21), some (.int i22), none] [.int t1, .int t0] [(x0, 31)] := by
  unfold LAW_b314 at h
  refine g_isub (pc := 314) K.1 at_314 ?_
  refine g_istore (pc := 315) (L' := [none, none, none, none, none, none, some (.int i6), some (.int i7), none, none, some (.int i10), some (.int i11), some (.int i12), some (.int i13), none, none, none, some (.int i17), none, none, some (.int i20), some (.int i21), some (.int i22), some (.int (t0 - t1))]) K.1 at_315 (blt rfl) rfl ?_
  refine g_iload (pc := 317) K.1 at_317 rfl ?_
  refine g_iload (pc := 319) K.1 at_319 rfl ?_
  rcases ifs h with ⟨hc321, h⟩ | ⟨hc321, h⟩
  · refine g_icF (pc := 321) K.1 at_321 ((teq hc321).2) ?_
    refine g_iload (pc := 324) K.1 at_324 rfl ?_
    refine g_iload (pc := 326) K.1 at_326 rfl ?_
    rcases ifs h with ⟨hc328, h⟩ | ⟨hc328, h⟩
    · refine g_icF (pc := 328) K.1 at_328 ((teq hc328).2) ?_
      refine g_iload (pc := 331) K.1 at_331 rfl ?_
      refine g_iload (pc := 333) K.1 at_333 rfl ?_
      rcases ifs h with ⟨hc335, h⟩ | ⟨hc335, h⟩
      · refine g_icF (pc := 335) K.1 at_335 ((teq hc335).2) ?_
        refine g_iload (pc := 338) K.1 at_338 rfl ?_
        refine g_iload (pc := 340) K.1 at_340 rfl ?_
        rcases ifs h with ⟨hc342, h⟩ | ⟨hc342, h⟩
        · refine g_icF (pc := 342) K.1 at_342 ((teq hc342).2) ?_
          refine g_iload (pc := 345) K.1 at_345 rfl ?_
          refine g_iload (pc := 347) K.1 at_347 rfl ?_
          rcases ifs h with ⟨hc349, h⟩ | ⟨hc349, h⟩
          · refine g_icF (pc := 349) K.1 at_349 ((teq hc349).2) ?_
            refine g_iload (pc := 352) K.1 at_352 rfl ?_
            rcases ifs h with ⟨hc354, h⟩ | ⟨hc354, h⟩
            · refine g_ifF (pc := 354) K.1 at_354 ((if0 _ _).trans (teq hc354).2) ?_
              refine g_iconst (pc := 357) (v := 1) K.1 at_357 (by decide) ?_
              refine g_goto (pc := 358) (pc' := 362) K.1 at_358 (by decide) ?_
              cases h; exact g_ireturnN (t := .boolean) K.1 rfl (Or.inl rfl) at_362 rfl (capL K (capJ1 cj_31 rfl) (capJ2 cj_31 rfl))
            refine g_ifT (pc := 354) (pc' := 361) K.1 at_354 (by decide) ((if0 _ _).trans (feq hc354).2) ?_
            refine g_iconst (pc := 361) (v := 0) K.1 at_361 (by decide) ?_
            cases h; exact g_ireturnN (t := .boolean) K.1 rfl (Or.inl rfl) at_362 rfl (capL K (capJ1 cj_31 rfl) (capJ2 cj_31 rfl))
          refine g_icT (pc := 349) (pc' := 361) K.1 at_349 (by decide) ((feq hc349).2) ?_
          refine g_iconst (pc := 361) (v := 0) K.1 at_361 (by decide) ?_
          cases h; exact g_ireturnN (t := .boolean) K.1 rfl (Or.inl rfl) at_362 rfl (capL K (capJ1 cj_31 rfl) (capJ2 cj_31 rfl))
        refine g_icT (pc := 342) (pc' := 361) K.1 at_342 (by decide) ((feq hc342).2) ?_
        refine g_iconst (pc := 361) (v := 0) K.1 at_361 (by decide) ?_
        cases h; exact g_ireturnN (t := .boolean) K.1 rfl (Or.inl rfl) at_362 rfl (capL K (capJ1 cj_31 rfl) (capJ2 cj_31 rfl))
      refine g_icT (pc := 335) (pc' := 361) K.1 at_335 (by decide) ((feq hc335).2) ?_
      refine g_iconst (pc := 361) (v := 0) K.1 at_361 (by decide) ?_
      cases h; exact g_ireturnN (t := .boolean) K.1 rfl (Or.inl rfl) at_362 rfl (capL K (capJ1 cj_31 rfl) (capJ2 cj_31 rfl))
    refine g_icT (pc := 328) (pc' := 361) K.1 at_328 (by decide) ((feq hc328).2) ?_
    refine g_iconst (pc := 361) (v := 0) K.1 at_361 (by decide) ?_
    cases h; exact g_ireturnN (t := .boolean) K.1 rfl (Or.inl rfl) at_362 rfl (capL K (capJ1 cj_31 rfl) (capJ2 cj_31 rfl))
  refine g_icT (pc := 321) (pc' := 361) K.1 at_321 (by decide) ((feq hc321).2) ?_
  refine g_iconst (pc := 361) (v := 0) K.1 at_361 (by decide) ?_
  cases h; exact g_ireturnN (t := .boolean) K.1 rfl (Or.inl rfl) at_362 rfl (capL K (capJ1 cj_31 rfl) (capJ2 cj_31 rfl))
def LAW_b313 (NF : Nat)  (i6 : Int32) (i7 : Int32) (i10 : Int32) (i11 : Int32) (i12 : Int32) (i13 : Int32) (i17 : Int32) (i20 : Int32) (i21 : Int32) (i22 : Int32) (t0 : Int32) (x0 : St) : Option (Int32 × List (St × Nat)) :=
  LAW_b314 NF i6 i7 i10 i11 i12 i13 i17 i20 i21 i22 t0 (0 : Int32) x0
theorem ok_LAW_b313 {X : Cx (List (St × Nat))} {Z : State} {a0 : Array Value} {l : Launch} {n1 : Nat} {sc : Addr} {H0 : Heap} {NF : Nat} (K : KM_LAW X Z a0 l n1 sc H0) (hw : HW a0 Z) (hs0 : hsz X = n1)  {i6 : Int32} {i7 : Int32} {i10 : Int32} {i11 : Int32} {i12 : Int32} {i13 : Int32} {i17 : Int32} {i20 : Int32} {i21 : Int32} {i22 : Int32} {t0 : Int32} {x0 : St} {r : Int32 × List (St × Nat)}  (h : LAW_b313 NF  i6 i7 i10 i11 i12 i13 i17 i20 i21 i22 t0 x0 = some r) : Go X (some (.int r.1), r.2) 313 [none, none, none, none, none, none, some (.int i6), some (.int i7), none, none, some (.int i10), some (.int i11), some (.int i12), some (.int i13), none, none, none, some (.int i17), none, none, some (.int i20), some (.int i21), some (.int i22), none] [.int t0] [(x0, 31)] := by
  unfold LAW_b313 at h
  refine g_iconst (pc := 313) (v := 0) K.1 at_313 (by decide) ?_
  exact ok_LAW_b314 K hw hs0  h
def LAW_b287 (NF : Nat)  (i1 : Int32) (i2 : Int32) (i4 : Int32) (i6 : Int32) (i7 : Int32) (i10 : Int32) (i11 : Int32) (i12 : Int32) (i13 : Int32) (i17 : Int32) (i18 : Int32) (i19 : Int32) (i20 : Int32) (i21 : Int32) (i22 : Int32) (t0 : Int32) (t1 : Int32) (x0 : St) : Option (Int32 × List (St × Nat)) :=
  (if i18 = 0 then LAW_b313 NF i6 i7 i10 i11 i12 i13 i17 i20 i21 i22 (t0 + t1) x0 else (if i1 = (1 : Int32) then (if i19 = 0 then LAW_b313 NF i6 i7 i10 i11 i12 i13 i17 i20 i21 i22 (t0 + t1) x0 else (if i2 = i4 then LAW_b314 NF i6 i7 i10 i11 i12 i13 i17 i20 i21 i22 (t0 + t1) (1 : Int32) x0 else LAW_b313 NF i6 i7 i10 i11 i12 i13 i17 i20 i21 i22 (t0 + t1) x0)) else LAW_b313 NF i6 i7 i10 i11 i12 i13 i17 i20 i21 i22 (t0 + t1) x0))
theorem ok_LAW_b287 {X : Cx (List (St × Nat))} {Z : State} {a0 : Array Value} {l : Launch} {n1 : Nat} {sc : Addr} {H0 : Heap} {NF : Nat} (K : KM_LAW X Z a0 l n1 sc H0) (hw : HW a0 Z) (hs0 : hsz X = n1)  {i1 : Int32} {i2 : Int32} {i4 : Int32} {i6 : Int32} {i7 : Int32} {i10 : Int32} {i11 : Int32} {i12 : Int32} {i13 : Int32} {i17 : Int32} {i18 : Int32} {i19 : Int32} {i20 : Int32} {i21 : Int32} {i22 : Int32} {t0 : Int32} {t1 : Int32} {x0 : St} {r : Int32 × List (St × Nat)}  (h : LAW_b287 NF  i1 i2 i4 i6 i7 i10 i11 i12 i13 i17 i18 i19 i20 i21 i22 t0 t1 x0 = some r) : Go X (some (.int r.1), r.2) 287 [none, some (.int i1), some (.int i2), none, some (.int i4), none, some (.int i6), some (.int i7), none, none, some (.int i10), some (.int i11), some (.int i12), some (.int i13), none, none, none, some (.int i17), some (.int i18), some (.int i19), some (.int i20), some (.int i21), some (.int i22), none] [.int t1, .int t0] [(x0, 31)] := by
  unfold LAW_b287 at h
  refine g_iadd (pc := 287) K.1 at_287 ?_
  refine g_iload (pc := 288) K.1 at_288 rfl ?_
  rcases ifs h with ⟨hc290, h⟩ | ⟨hc290, h⟩
  · refine g_ifT (pc := 290) (pc' := 313) K.1 at_290 (by decide) ((if0 _ _).trans (teq hc290).1) ?_
    exact g_less (ok_LAW_b313 K hw hs0  h) (ls (ln (ln (ls (ln (ls (ls (ls (ls (ls (ls (ls (ls (ls (ls (ls (ls (ls (ln (ln (ls (ls (ls (ls l0))))))))))))))))))))))))
  refine g_ifF (pc := 290) K.1 at_290 ((if0 _ _).trans (feq hc290).1) ?_
  refine g_iloadN (pc := 293) K.1 at_293 rfl ?_
  refine g_iconst (pc := 294) (v := 1) K.1 at_294 (by decide) ?_
  rcases ifs h with ⟨hc295, h⟩ | ⟨hc295, h⟩
  · refine g_icF (pc := 295) K.1 at_295 ((teq hc295).2) ?_
    refine g_iload (pc := 298) K.1 at_298 rfl ?_
    rcases ifs h with ⟨hc300, h⟩ | ⟨hc300, h⟩
    · refine g_ifT (pc := 300) (pc' := 313) K.1 at_300 (by decide) ((if0 _ _).trans (teq hc300).1) ?_
      exact g_less (ok_LAW_b313 K hw hs0  h) (ls (ln (ln (ls (ln (ls (ls (ls (ls (ls (ls (ls (ls (ls (ls (ls (ls (ls (ln (ln (ls (ls (ls (ls l0))))))))))))))))))))))))
    refine g_ifF (pc := 300) K.1 at_300 ((if0 _ _).trans (feq hc300).1) ?_
    refine g_iloadN (pc := 303) K.1 at_303 rfl ?_
    refine g_iload (pc := 304) K.1 at_304 rfl ?_
    rcases ifs h with ⟨hc306, h⟩ | ⟨hc306, h⟩
    · refine g_icF (pc := 306) K.1 at_306 ((teq hc306).2) ?_
      refine g_iconst (pc := 309) (v := 1) K.1 at_309 (by decide) ?_
      refine g_goto (pc := 310) (pc' := 314) K.1 at_310 (by decide) ?_
      exact g_less (ok_LAW_b314 K hw hs0  h) (ls (ln (ln (ls (ln (ls (ls (ls (ls (ls (ls (ls (ls (ls (ls (ls (ls (ls (ln (ln (ls (ls (ls (ls l0))))))))))))))))))))))))
    refine g_icT (pc := 306) (pc' := 313) K.1 at_306 (by decide) ((feq hc306).2) ?_
    exact g_less (ok_LAW_b313 K hw hs0  h) (ls (ln (ln (ls (ln (ls (ls (ls (ls (ls (ls (ls (ls (ls (ls (ls (ls (ls (ln (ln (ls (ls (ls (ls l0))))))))))))))))))))))))
  refine g_icT (pc := 295) (pc' := 313) K.1 at_295 (by decide) ((feq hc295).2) ?_
  exact g_less (ok_LAW_b313 K hw hs0  h) (ls (ln (ln (ls (ln (ls (ls (ls (ls (ls (ls (ls (ls (ls (ls (ls (ls (ls (ln (ln (ls (ls (ls (ls l0))))))))))))))))))))))))
def LAW_b277 (NF : Nat)  (i1 : Int32) (i2 : Int32) (i4 : Int32) (i6 : Int32) (i7 : Int32) (i10 : Int32) (i11 : Int32) (i12 : Int32) (i13 : Int32) (i17 : Int32) (i18 : Int32) (i19 : Int32) (i20 : Int32) (i21 : Int32) (i22 : Int32) (t0 : Int32) (x0 : St) : Option (Int32 × List (St × Nat)) :=
  (if i19 = 0 then LAW_b287 NF i1 i2 i4 i6 i7 i10 i11 i12 i13 i17 i18 i19 i20 i21 i22 t0 (0 : Int32) x0 else LAW_b287 NF i1 i2 i4 i6 i7 i10 i11 i12 i13 i17 i18 i19 i20 i21 i22 t0 (1 : Int32) x0)
theorem ok_LAW_b277 {X : Cx (List (St × Nat))} {Z : State} {a0 : Array Value} {l : Launch} {n1 : Nat} {sc : Addr} {H0 : Heap} {NF : Nat} (K : KM_LAW X Z a0 l n1 sc H0) (hw : HW a0 Z) (hs0 : hsz X = n1)  {i1 : Int32} {i2 : Int32} {i4 : Int32} {i6 : Int32} {i7 : Int32} {i10 : Int32} {i11 : Int32} {i12 : Int32} {i13 : Int32} {i17 : Int32} {i18 : Int32} {i19 : Int32} {i20 : Int32} {i21 : Int32} {i22 : Int32} {t0 : Int32} {x0 : St} {r : Int32 × List (St × Nat)}  (h : LAW_b277 NF  i1 i2 i4 i6 i7 i10 i11 i12 i13 i17 i18 i19 i20 i21 i22 t0 x0 = some r) : Go X (some (.int r.1), r.2) 277 [none, some (.int i1), some (.int i2), none, some (.int i4), none, some (.int i6), some (.int i7), none, none, some (.int i10), some (.int i11), some (.int i12), some (.int i13), none, none, none, some (.int i17), some (.int i18), some (.int i19), some (.int i20), some (.int i21), some (.int i22), none] [.int t0] [(x0, 31)] := by
  unfold LAW_b277 at h
  refine g_iload (pc := 277) K.1 at_277 rfl ?_
  rcases ifs h with ⟨hc279, h⟩ | ⟨hc279, h⟩
  · refine g_ifT (pc := 279) (pc' := 286) K.1 at_279 (by decide) ((if0 _ _).trans (teq hc279).1) ?_
    refine g_iconst (pc := 286) (v := 0) K.1 at_286 (by decide) ?_
    exact ok_LAW_b287 K hw hs0  h
  refine g_ifF (pc := 279) K.1 at_279 ((if0 _ _).trans (feq hc279).1) ?_
  refine g_iconst (pc := 282) (v := 1) K.1 at_282 (by decide) ?_
  refine g_goto (pc := 283) (pc' := 287) K.1 at_283 (by decide) ?_
  exact ok_LAW_b287 K hw hs0  h
def LAW_b276 (NF : Nat)  (i1 : Int32) (i2 : Int32) (i4 : Int32) (i6 : Int32) (i7 : Int32) (i10 : Int32) (i11 : Int32) (i12 : Int32) (i13 : Int32) (i17 : Int32) (i18 : Int32) (i19 : Int32) (i20 : Int32) (i21 : Int32) (i22 : Int32) (x0 : St) : Option (Int32 × List (St × Nat)) :=
  LAW_b277 NF i1 i2 i4 i6 i7 i10 i11 i12 i13 i17 i18 i19 i20 i21 i22 (0 : Int32) x0
theorem ok_LAW_b276 {X : Cx (List (St × Nat))} {Z : State} {a0 : Array Value} {l : Launch} {n1 : Nat} {sc : Addr} {H0 : Heap} {NF : Nat} (K : KM_LAW X Z a0 l n1 sc H0) (hw : HW a0 Z) (hs0 : hsz X = n1)  {i1 : Int32} {i2 : Int32} {i4 : Int32} {i6 : Int32} {i7 : Int32} {i10 : Int32} {i11 : Int32} {i12 : Int32} {i13 : Int32} {i17 : Int32} {i18 : Int32} {i19 : Int32} {i20 : Int32} {i21 : Int32} {i22 : Int32} {x0 : St} {r : Int32 × List (St × Nat)}  (h : LAW_b276 NF  i1 i2 i4 i6 i7 i10 i11 i12 i13 i17 i18 i19 i20 i21 i22 x0 = some r) : Go X (some (.int r.1), r.2) 276 [none, some (.int i1), some (.int i2), none, some (.int i4), none, some (.int i6), some (.int i7), none, none, some (.int i10), some (.int i11), some (.int i12), some (.int i13), none, none, none, some (.int i17), some (.int i18), some (.int i19), some (.int i20), some (.int i21), some (.int i22), none] [] [(x0, 31)] := by
  unfold LAW_b276 at h
  refine g_iconst (pc := 276) (v := 0) K.1 at_276 (by decide) ?_
  exact ok_LAW_b277 K hw hs0  h
def LAW_b259 (NF : Nat)  (i1 : Int32) (i2 : Int32) (i4 : Int32) (i6 : Int32) (i7 : Int32) (i10 : Int32) (i11 : Int32) (i12 : Int32) (i13 : Int32) (i17 : Int32) (i18 : Int32) (i19 : Int32) (i20 : Int32) (i21 : Int32) (t0 : Int32) (t1 : Int32) (x0 : St) : Option (Int32 × List (St × Nat)) :=
  (if i18 = 0 then LAW_b276 NF i1 i2 i4 i6 i7 i10 i11 i12 i13 i17 i18 i19 i20 i21 (t0 + t1) x0 else (if i1 = (1 : Int32) then LAW_b277 NF i1 i2 i4 i6 i7 i10 i11 i12 i13 i17 i18 i19 i20 i21 (t0 + t1) (1 : Int32) x0 else LAW_b276 NF i1 i2 i4 i6 i7 i10 i11 i12 i13 i17 i18 i19 i20 i21 (t0 + t1) x0))
theorem ok_LAW_b259 {X : Cx (List (St × Nat))} {Z : State} {a0 : Array Value} {l : Launch} {n1 : Nat} {sc : Addr} {H0 : Heap} {NF : Nat} (K : KM_LAW X Z a0 l n1 sc H0) (hw : HW a0 Z) (hs0 : hsz X = n1)  {i1 : Int32} {i2 : Int32} {i4 : Int32} {i6 : Int32} {i7 : Int32} {i10 : Int32} {i11 : Int32} {i12 : Int32} {i13 : Int32} {i17 : Int32} {i18 : Int32} {i19 : Int32} {i20 : Int32} {i21 : Int32} {t0 : Int32} {t1 : Int32} {x0 : St} {r : Int32 × List (St × Nat)}  (h : LAW_b259 NF  i1 i2 i4 i6 i7 i10 i11 i12 i13 i17 i18 i19 i20 i21 t0 t1 x0 = some r) : Go X (some (.int r.1), r.2) 259 [none, some (.int i1), some (.int i2), none, some (.int i4), none, some (.int i6), some (.int i7), none, none, some (.int i10), some (.int i11), some (.int i12), some (.int i13), none, none, none, some (.int i17), some (.int i18), some (.int i19), some (.int i20), some (.int i21), none, none] [.int t1, .int t0] [(x0, 31)] := by
  unfold LAW_b259 at h
  refine g_iadd (pc := 259) K.1 at_259 ?_
  refine g_istore (pc := 260) (L' := [none, some (.int i1), some (.int i2), none, some (.int i4), none, some (.int i6), some (.int i7), none, none, some (.int i10), some (.int i11), some (.int i12), some (.int i13), none, none, none, some (.int i17), some (.int i18), some (.int i19), some (.int i20), some (.int i21), some (.int (t0 + t1)), none]) K.1 at_260 (blt rfl) rfl ?_
  refine g_iload (pc := 262) K.1 at_262 rfl ?_
  rcases ifs h with ⟨hc264, h⟩ | ⟨hc264, h⟩
  · refine g_ifT (pc := 264) (pc' := 276) K.1 at_264 (by decide) ((if0 _ _).trans (teq hc264).1) ?_
    exact ok_LAW_b276 K hw hs0  h
  refine g_ifF (pc := 264) K.1 at_264 ((if0 _ _).trans (feq hc264).1) ?_
  refine g_iloadN (pc := 267) K.1 at_267 rfl ?_
  refine g_iconst (pc := 268) (v := 1) K.1 at_268 (by decide) ?_
  rcases ifs h with ⟨hc269, h⟩ | ⟨hc269, h⟩
  · refine g_icF (pc := 269) K.1 at_269 ((teq hc269).2) ?_
    refine g_iconst (pc := 272) (v := 1) K.1 at_272 (by decide) ?_
    refine g_goto (pc := 273) (pc' := 277) K.1 at_273 (by decide) ?_
    exact ok_LAW_b277 K hw hs0  h
  refine g_icT (pc := 269) (pc' := 276) K.1 at_269 (by decide) ((feq hc269).2) ?_
  exact ok_LAW_b276 K hw hs0  h
def LAW_b249 (NF : Nat)  (i1 : Int32) (i2 : Int32) (i4 : Int32) (i6 : Int32) (i7 : Int32) (i10 : Int32) (i11 : Int32) (i12 : Int32) (i13 : Int32) (i17 : Int32) (i18 : Int32) (i19 : Int32) (i20 : Int32) (i21 : Int32) (t0 : Int32) (x0 : St) : Option (Int32 × List (St × Nat)) :=
  (if i19 = 0 then LAW_b259 NF i1 i2 i4 i6 i7 i10 i11 i12 i13 i17 i18 i19 i20 i21 t0 (0 : Int32) x0 else LAW_b259 NF i1 i2 i4 i6 i7 i10 i11 i12 i13 i17 i18 i19 i20 i21 t0 (1 : Int32) x0)
theorem ok_LAW_b249 {X : Cx (List (St × Nat))} {Z : State} {a0 : Array Value} {l : Launch} {n1 : Nat} {sc : Addr} {H0 : Heap} {NF : Nat} (K : KM_LAW X Z a0 l n1 sc H0) (hw : HW a0 Z) (hs0 : hsz X = n1)  {i1 : Int32} {i2 : Int32} {i4 : Int32} {i6 : Int32} {i7 : Int32} {i10 : Int32} {i11 : Int32} {i12 : Int32} {i13 : Int32} {i17 : Int32} {i18 : Int32} {i19 : Int32} {i20 : Int32} {i21 : Int32} {t0 : Int32} {x0 : St} {r : Int32 × List (St × Nat)}  (h : LAW_b249 NF  i1 i2 i4 i6 i7 i10 i11 i12 i13 i17 i18 i19 i20 i21 t0 x0 = some r) : Go X (some (.int r.1), r.2) 249 [none, some (.int i1), some (.int i2), none, some (.int i4), none, some (.int i6), some (.int i7), none, none, some (.int i10), some (.int i11), some (.int i12), some (.int i13), none, none, none, some (.int i17), some (.int i18), some (.int i19), some (.int i20), some (.int i21), none, none] [.int t0] [(x0, 31)] := by
  unfold LAW_b249 at h
  refine g_iload (pc := 249) K.1 at_249 rfl ?_
  rcases ifs h with ⟨hc251, h⟩ | ⟨hc251, h⟩
  · refine g_ifT (pc := 251) (pc' := 258) K.1 at_251 (by decide) ((if0 _ _).trans (teq hc251).1) ?_
    refine g_iconst (pc := 258) (v := 0) K.1 at_258 (by decide) ?_
    exact ok_LAW_b259 K hw hs0  h
  refine g_ifF (pc := 251) K.1 at_251 ((if0 _ _).trans (feq hc251).1) ?_
  refine g_iconst (pc := 254) (v := 1) K.1 at_254 (by decide) ?_
  refine g_goto (pc := 255) (pc' := 259) K.1 at_255 (by decide) ?_
  exact ok_LAW_b259 K hw hs0  h
def LAW_b248 (NF : Nat)  (i1 : Int32) (i2 : Int32) (i4 : Int32) (i6 : Int32) (i7 : Int32) (i10 : Int32) (i11 : Int32) (i12 : Int32) (i13 : Int32) (i17 : Int32) (i18 : Int32) (i19 : Int32) (i20 : Int32) (i21 : Int32) (x0 : St) : Option (Int32 × List (St × Nat)) :=
  LAW_b249 NF i1 i2 i4 i6 i7 i10 i11 i12 i13 i17 i18 i19 i20 i21 (0 : Int32) x0
theorem ok_LAW_b248 {X : Cx (List (St × Nat))} {Z : State} {a0 : Array Value} {l : Launch} {n1 : Nat} {sc : Addr} {H0 : Heap} {NF : Nat} (K : KM_LAW X Z a0 l n1 sc H0) (hw : HW a0 Z) (hs0 : hsz X = n1)  {i1 : Int32} {i2 : Int32} {i4 : Int32} {i6 : Int32} {i7 : Int32} {i10 : Int32} {i11 : Int32} {i12 : Int32} {i13 : Int32} {i17 : Int32} {i18 : Int32} {i19 : Int32} {i20 : Int32} {i21 : Int32} {x0 : St} {r : Int32 × List (St × Nat)}  (h : LAW_b248 NF  i1 i2 i4 i6 i7 i10 i11 i12 i13 i17 i18 i19 i20 i21 x0 = some r) : Go X (some (.int r.1), r.2) 248 [none, some (.int i1), some (.int i2), none, some (.int i4), none, some (.int i6), some (.int i7), none, none, some (.int i10), some (.int i11), some (.int i12), some (.int i13), none, none, none, some (.int i17), some (.int i18), some (.int i19), some (.int i20), some (.int i21), none, none] [] [(x0, 31)] := by
  unfold LAW_b248 at h
  refine g_iconst (pc := 248) (v := 0) K.1 at_248 (by decide) ?_
  exact ok_LAW_b249 K hw hs0  h
def LAW_b229 (NF : Nat)  (i1 : Int32) (i2 : Int32) (i4 : Int32) (i6 : Int32) (i7 : Int32) (i8 : Int32) (i9 : Int32) (i10 : Int32) (i11 : Int32) (i12 : Int32) (i13 : Int32) (i17 : Int32) (i18 : Int32) (i19 : Int32) (i20 : Int32) (t0 : Int32) (t1 : Int32) (x0 : St) : Option (Int32 × List (St × Nat)) :=
  (if i18 = 0 then LAW_b248 NF i1 i2 i4 i6 i7 i10 i11 i12 i13 i17 i18 i19 i20 (t0 + t1) x0 else (if i8 = i9 then LAW_b249 NF i1 i2 i4 i6 i7 i10 i11 i12 i13 i17 i18 i19 i20 (t0 + t1) (1 : Int32) x0 else LAW_b248 NF i1 i2 i4 i6 i7 i10 i11 i12 i13 i17 i18 i19 i20 (t0 + t1) x0))
theorem ok_LAW_b229 {X : Cx (List (St × Nat))} {Z : State} {a0 : Array Value} {l : Launch} {n1 : Nat} {sc : Addr} {H0 : Heap} {NF : Nat} (K : KM_LAW X Z a0 l n1 sc H0) (hw : HW a0 Z) (hs0 : hsz X = n1)  {i1 : Int32} {i2 : Int32} {i4 : Int32} {i6 : Int32} {i7 : Int32} {i8 : Int32} {i9 : Int32} {i10 : Int32} {i11 : Int32} {i12 : Int32} {i13 : Int32} {i17 : Int32} {i18 : Int32} {i19 : Int32} {i20 : Int32} {t0 : Int32} {t1 : Int32} {x0 : St} {r : Int32 × List (St × Nat)}  (h : LAW_b229 NF  i1 i2 i4 i6 i7 i8 i9 i10 i11 i12 i13 i17 i18 i19 i20 t0 t1 x0 = some r) : Go X (some (.int r.1), r.2) 229 [none, some (.int i1), some (.int i2), none, some (.int i4), none, some (.int i6), some (.int i7), some (.int i8), some (.int i9), some (.int i10), some (.int i11), some (.int i12), some (.int i13), none, none, none, some (.int i17), some (.int i18), some (.int i19), some (.int i20), none, none, none] [.int t1, .int t0] [(x0, 31)] := by
  unfold LAW_b229 at h
  refine g_iadd (pc := 229) K.1 at_229 ?_
  refine g_istore (pc := 230) (L' := [none, some (.int i1), some (.int i2), none, some (.int i4), none, some (.int i6), some (.int i7), some (.int i8), some (.int i9), some (.int i10), some (.int i11), some (.int i12), some (.int i13), none, none, none, some (.int i17), some (.int i18), some (.int i19), some (.int i20), some (.int (t0 + t1)), none, none]) K.1 at_230 (blt rfl) rfl ?_
  refine g_iload (pc := 232) K.1 at_232 rfl ?_
  rcases ifs h with ⟨hc234, h⟩ | ⟨hc234, h⟩
  · refine g_ifT (pc := 234) (pc' := 248) K.1 at_234 (by decide) ((if0 _ _).trans (teq hc234).1) ?_
    exact g_less (ok_LAW_b248 K hw hs0  h) (ls (ls (ls (ls (ls (ls (ls (ls (ln (ln (ls (ls (ls (ls (ls (ls (ls (ls (ls (ls (ls (ls (ls (ls l0))))))))))))))))))))))))
  refine g_ifF (pc := 234) K.1 at_234 ((if0 _ _).trans (feq hc234).1) ?_
  refine g_iload (pc := 237) K.1 at_237 rfl ?_
  refine g_iload (pc := 239) K.1 at_239 rfl ?_
  rcases ifs h with ⟨hc241, h⟩ | ⟨hc241, h⟩
  · refine g_icF (pc := 241) K.1 at_241 ((teq hc241).2) ?_
    refine g_iconst (pc := 244) (v := 1) K.1 at_244 (by decide) ?_
    refine g_goto (pc := 245) (pc' := 249) K.1 at_245 (by decide) ?_
    exact g_less (ok_LAW_b249 K hw hs0  h) (ls (ls (ls (ls (ls (ls (ls (ls (ln (ln (ls (ls (ls (ls (ls (ls (ls (ls (ls (ls (ls (ls (ls (ls l0))))))))))))))))))))))))
  refine g_icT (pc := 241) (pc' := 248) K.1 at_241 (by decide) ((feq hc241).2) ?_
  exact g_less (ok_LAW_b248 K hw hs0  h) (ls (ls (ls (ls (ls (ls (ls (ls (ln (ln (ls (ls (ls (ls (ls (ls (ls (ls (ls (ls (ls (ls (ls (ls l0))))))))))))))))))))))))
def LAW_b228 (NF : Nat)  (i1 : Int32) (i2 : Int32) (i4 : Int32) (i6 : Int32) (i7 : Int32) (i8 : Int32) (i9 : Int32) (i10 : Int32) (i11 : Int32) (i12 : Int32) (i13 : Int32) (i17 : Int32) (i18 : Int32) (i19 : Int32) (i20 : Int32) (t0 : Int32) (x0 : St) : Option (Int32 × List (St × Nat)) :=
  LAW_b229 NF i1 i2 i4 i6 i7 i8 i9 i10 i11 i12 i13 i17 i18 i19 i20 t0 (0 : Int32) x0
theorem ok_LAW_b228 {X : Cx (List (St × Nat))} {Z : State} {a0 : Array Value} {l : Launch} {n1 : Nat} {sc : Addr} {H0 : Heap} {NF : Nat} (K : KM_LAW X Z a0 l n1 sc H0) (hw : HW a0 Z) (hs0 : hsz X = n1)  {i1 : Int32} {i2 : Int32} {i4 : Int32} {i6 : Int32} {i7 : Int32} {i8 : Int32} {i9 : Int32} {i10 : Int32} {i11 : Int32} {i12 : Int32} {i13 : Int32} {i17 : Int32} {i18 : Int32} {i19 : Int32} {i20 : Int32} {t0 : Int32} {x0 : St} {r : Int32 × List (St × Nat)}  (h : LAW_b228 NF  i1 i2 i4 i6 i7 i8 i9 i10 i11 i12 i13 i17 i18 i19 i20 t0 x0 = some r) : Go X (some (.int r.1), r.2) 228 [none, some (.int i1), some (.int i2), none, some (.int i4), none, some (.int i6), some (.int i7), some (.int i8), some (.int i9), some (.int i10), some (.int i11), some (.int i12), some (.int i13), none, none, none, some (.int i17), some (.int i18), some (.int i19), some (.int i20), none, none, none] [.int t0] [(x0, 31)] := by
  unfold LAW_b228 at h
  refine g_iconst (pc := 228) (v := 0) K.1 at_228 (by decide) ?_
  exact ok_LAW_b229 K hw hs0  h
def LAW_b212 (NF : Nat)  (i1 : Int32) (i2 : Int32) (i4 : Int32) (i6 : Int32) (i7 : Int32) (i8 : Int32) (i9 : Int32) (i10 : Int32) (i11 : Int32) (i12 : Int32) (i13 : Int32) (i17 : Int32) (i18 : Int32) (i19 : Int32) (i20 : Int32) (t0 : Int32) (x0 : St) : Option (Int32 × List (St × Nat)) :=
  (if i19 = 0 then LAW_b228 NF i1 i2 i4 i6 i7 i8 i9 i10 i11 i12 i13 i17 i18 i19 i20 t0 x0 else (if i9 = i8 then LAW_b229 NF i1 i2 i4 i6 i7 i8 i9 i10 i11 i12 i13 i17 i18 i19 i20 t0 (1 : Int32) x0 else LAW_b228 NF i1 i2 i4 i6 i7 i8 i9 i10 i11 i12 i13 i17 i18 i19 i20 t0 x0))
theorem ok_LAW_b212 {X : Cx (List (St × Nat))} {Z : State} {a0 : Array Value} {l : Launch} {n1 : Nat} {sc : Addr} {H0 : Heap} {NF : Nat} (K : KM_LAW X Z a0 l n1 sc H0) (hw : HW a0 Z) (hs0 : hsz X = n1)  {i1 : Int32} {i2 : Int32} {i4 : Int32} {i6 : Int32} {i7 : Int32} {i8 : Int32} {i9 : Int32} {i10 : Int32} {i11 : Int32} {i12 : Int32} {i13 : Int32} {i17 : Int32} {i18 : Int32} {i19 : Int32} {i20 : Int32} {t0 : Int32} {x0 : St} {r : Int32 × List (St × Nat)}  (h : LAW_b212 NF  i1 i2 i4 i6 i7 i8 i9 i10 i11 i12 i13 i17 i18 i19 i20 t0 x0 = some r) : Go X (some (.int r.1), r.2) 212 [none, some (.int i1), some (.int i2), none, some (.int i4), none, some (.int i6), some (.int i7), some (.int i8), some (.int i9), some (.int i10), some (.int i11), some (.int i12), some (.int i13), none, none, none, some (.int i17), some (.int i18), some (.int i19), some (.int i20), none, none, none] [.int t0] [(x0, 31)] := by
  unfold LAW_b212 at h
  refine g_iload (pc := 212) K.1 at_212 rfl ?_
  rcases ifs h with ⟨hc214, h⟩ | ⟨hc214, h⟩
  · refine g_ifT (pc := 214) (pc' := 228) K.1 at_214 (by decide) ((if0 _ _).trans (teq hc214).1) ?_
    exact ok_LAW_b228 K hw hs0  h
  refine g_ifF (pc := 214) K.1 at_214 ((if0 _ _).trans (feq hc214).1) ?_
  refine g_iload (pc := 217) K.1 at_217 rfl ?_
  refine g_iload (pc := 219) K.1 at_219 rfl ?_
  rcases ifs h with ⟨hc221, h⟩ | ⟨hc221, h⟩
  · refine g_icF (pc := 221) K.1 at_221 ((teq hc221).2) ?_
    refine g_iconst (pc := 224) (v := 1) K.1 at_224 (by decide) ?_
    refine g_goto (pc := 225) (pc' := 229) K.1 at_225 (by decide) ?_
    exact ok_LAW_b229 K hw hs0  h
  refine g_icT (pc := 221) (pc' := 228) K.1 at_221 (by decide) ((feq hc221).2) ?_
  exact ok_LAW_b228 K hw hs0  h
def LAW_b200 (NF : Nat)  (i1 : Int32) (i2 : Int32) (i4 : Int32) (i6 : Int32) (i7 : Int32) (i8 : Int32) (i9 : Int32) (i10 : Int32) (i11 : Int32) (i12 : Int32) (i13 : Int32) (i17 : Int32) (i18 : Int32) (i19 : Int32) (t0 : Int32) (x0 : St) : Option (Int32 × List (St × Nat)) :=
  (if i18 = 0 then LAW_b212 NF i1 i2 i4 i6 i7 i8 i9 i10 i11 i12 i13 i17 i18 i19 t0 (0 : Int32) x0 else LAW_b212 NF i1 i2 i4 i6 i7 i8 i9 i10 i11 i12 i13 i17 i18 i19 t0 (1 : Int32) x0)
theorem ok_LAW_b200 {X : Cx (List (St × Nat))} {Z : State} {a0 : Array Value} {l : Launch} {n1 : Nat} {sc : Addr} {H0 : Heap} {NF : Nat} (K : KM_LAW X Z a0 l n1 sc H0) (hw : HW a0 Z) (hs0 : hsz X = n1)  {i1 : Int32} {i2 : Int32} {i4 : Int32} {i6 : Int32} {i7 : Int32} {i8 : Int32} {i9 : Int32} {i10 : Int32} {i11 : Int32} {i12 : Int32} {i13 : Int32} {i17 : Int32} {i18 : Int32} {i19 : Int32} {t0 : Int32} {x0 : St} {r : Int32 × List (St × Nat)}  (h : LAW_b200 NF  i1 i2 i4 i6 i7 i8 i9 i10 i11 i12 i13 i17 i18 i19 t0 x0 = some r) : Go X (some (.int r.1), r.2) 200 [none, some (.int i1), some (.int i2), none, some (.int i4), none, some (.int i6), some (.int i7), some (.int i8), some (.int i9), some (.int i10), some (.int i11), some (.int i12), some (.int i13), none, none, none, some (.int i17), some (.int i18), some (.int i19), none, none, none, none] [.int t0] [(x0, 31)] := by
  unfold LAW_b200 at h
  refine g_istore (pc := 200) (L' := [none, some (.int i1), some (.int i2), none, some (.int i4), none, some (.int i6), some (.int i7), some (.int i8), some (.int i9), some (.int i10), some (.int i11), some (.int i12), some (.int i13), none, none, none, some (.int i17), some (.int i18), some (.int i19), some (.int t0), none, none, none]) K.1 at_200 (blt rfl) rfl ?_
  refine g_iload (pc := 202) K.1 at_202 rfl ?_
  rcases ifs h with ⟨hc204, h⟩ | ⟨hc204, h⟩
  · refine g_ifT (pc := 204) (pc' := 211) K.1 at_204 (by decide) ((if0 _ _).trans (teq hc204).1) ?_
    refine g_iconst (pc := 211) (v := 0) K.1 at_211 (by decide) ?_
    exact ok_LAW_b212 K hw hs0  h
  refine g_ifF (pc := 204) K.1 at_204 ((if0 _ _).trans (feq hc204).1) ?_
  refine g_iconst (pc := 207) (v := 1) K.1 at_207 (by decide) ?_
  refine g_goto (pc := 208) (pc' := 212) K.1 at_208 (by decide) ?_
  exact ok_LAW_b212 K hw hs0  h
def LAW_b199 (NF : Nat)  (i1 : Int32) (i2 : Int32) (i4 : Int32) (i6 : Int32) (i7 : Int32) (i8 : Int32) (i9 : Int32) (i10 : Int32) (i11 : Int32) (i12 : Int32) (i13 : Int32) (i17 : Int32) (i18 : Int32) (i19 : Int32) (x0 : St) : Option (Int32 × List (St × Nat)) :=
  LAW_b200 NF i1 i2 i4 i6 i7 i8 i9 i10 i11 i12 i13 i17 i18 i19 (0 : Int32) x0
theorem ok_LAW_b199 {X : Cx (List (St × Nat))} {Z : State} {a0 : Array Value} {l : Launch} {n1 : Nat} {sc : Addr} {H0 : Heap} {NF : Nat} (K : KM_LAW X Z a0 l n1 sc H0) (hw : HW a0 Z) (hs0 : hsz X = n1)  {i1 : Int32} {i2 : Int32} {i4 : Int32} {i6 : Int32} {i7 : Int32} {i8 : Int32} {i9 : Int32} {i10 : Int32} {i11 : Int32} {i12 : Int32} {i13 : Int32} {i17 : Int32} {i18 : Int32} {i19 : Int32} {x0 : St} {r : Int32 × List (St × Nat)}  (h : LAW_b199 NF  i1 i2 i4 i6 i7 i8 i9 i10 i11 i12 i13 i17 i18 i19 x0 = some r) : Go X (some (.int r.1), r.2) 199 [none, some (.int i1), some (.int i2), none, some (.int i4), none, some (.int i6), some (.int i7), some (.int i8), some (.int i9), some (.int i10), some (.int i11), some (.int i12), some (.int i13), none, none, none, some (.int i17), some (.int i18), some (.int i19), none, none, none, none] [] [(x0, 31)] := by
  unfold LAW_b199 at h
  refine g_iconst (pc := 199) (v := 0) K.1 at_199 (by decide) ?_
  exact ok_LAW_b200 K hw hs0  h
def LAW_b167 (NF : Nat)  (i1 : Int32) (i2 : Int32) (i4 : Int32) (i6 : Int32) (i7 : Int32) (i8 : Int32) (i9 : Int32) (i10 : Int32) (i11 : Int32) (i12 : Int32) (i13 : Int32) (i16 : Int32) (i17 : Int32) (t0 : Int32) (x0 : St) : Option (Int32 × List (St × Nat)) :=
  (if i16 = 0 then LAW_b200 NF i1 i2 i4 i6 i7 i8 i9 i10 i11 i12 i13 i17 t0 i16 (-2 : Int32) x0 else (if t0 = 0 then LAW_b199 NF i1 i2 i4 i6 i7 i8 i9 i10 i11 i12 i13 i17 t0 i16 x0 else (if i8 = i9 then LAW_b200 NF i1 i2 i4 i6 i7 i8 i9 i10 i11 i12 i13 i17 t0 i16 (1 : Int32) x0 else LAW_b199 NF i1 i2 i4 i6 i7 i8 i9 i10 i11 i12 i13 i17 t0 i16 x0)))
theorem ok_LAW_b167 {X : Cx (List (St × Nat))} {Z : State} {a0 : Array Value} {l : Launch} {n1 : Nat} {sc : Addr} {H0 : Heap} {NF : Nat} (K : KM_LAW X Z a0 l n1 sc H0) (hw : HW a0 Z) (hs0 : hsz X = n1)  {i1 : Int32} {i2 : Int32} {i4 : Int32} {i6 : Int32} {i7 : Int32} {i8 : Int32} {i9 : Int32} {i10 : Int32} {i11 : Int32} {i12 : Int32} {i13 : Int32} {i16 : Int32} {i17 : Int32} {t0 : Int32} {x0 : St} {r : Int32 × List (St × Nat)}  (h : LAW_b167 NF  i1 i2 i4 i6 i7 i8 i9 i10 i11 i12 i13 i16 i17 t0 x0 = some r) : Go X (some (.int r.1), r.2) 167 [none, some (.int i1), some (.int i2), none, some (.int i4), none, some (.int i6), some (.int i7), some (.int i8), some (.int i9), some (.int i10), some (.int i11), some (.int i12), some (.int i13), none, none, some (.int i16), some (.int i17), none, none, none, none, none, none] [.int t0] [(x0, 31)] := by
  unfold LAW_b167 at h
  refine g_istore (pc := 167) (L' := [none, some (.int i1), some (.int i2), none, some (.int i4), none, some (.int i6), some (.int i7), some (.int i8), some (.int i9), some (.int i10), some (.int i11), some (.int i12), some (.int i13), none, none, some (.int i16), some (.int i17), some (.int t0), none, none, none, none, none]) K.1 at_167 (blt rfl) rfl ?_
  refine g_iload (pc := 169) K.1 at_169 rfl ?_
  refine g_istore (pc := 171) (L' := [none, some (.int i1), some (.int i2), none, some (.int i4), none, some (.int i6), some (.int i7), some (.int i8), some (.int i9), some (.int i10), some (.int i11), some (.int i12), some (.int i13), none, none, some (.int i16), some (.int i17), some (.int t0), some (.int i16), none, none, none, none]) K.1 at_171 (blt rfl) rfl ?_
  refine g_iload (pc := 173) K.1 at_173 rfl ?_
  rcases ifs h with ⟨hc175, h⟩ | ⟨hc175, h⟩
  · refine g_ifF (pc := 175) K.1 at_175 ((if0 _ _).trans (teq hc175).2) ?_
    refine g_bipush (pc := 178) (v := -2) K.1 at_178 (by decide) ?_
    refine g_goto (pc := 180) (pc' := 200) K.1 at_180 (by decide) ?_
    exact g_less (ok_LAW_b200 K hw hs0  h) (ls (ls (ls (ls (ls (ls (ls (ls (ls (ls (ls (ls (ls (ls (ls (ls (ln (ls (ls (ls (ls (ls (ls (ls l0))))))))))))))))))))))))
  refine g_ifT (pc := 175) (pc' := 183) K.1 at_175 (by decide) ((if0 _ _).trans (feq hc175).2) ?_
  refine g_iload (pc := 183) K.1 at_183 rfl ?_
  rcases ifs h with ⟨hc185, h⟩ | ⟨hc185, h⟩
  · refine g_ifT (pc := 185) (pc' := 199) K.1 at_185 (by decide) ((if0 _ _).trans (teq hc185).1) ?_
    exact g_less (ok_LAW_b199 K hw hs0  h) (ls (ls (ls (ls (ls (ls (ls (ls (ls (ls (ls (ls (ls (ls (ls (ls (ln (ls (ls (ls (ls (ls (ls (ls l0))))))))))))))))))))))))
  refine g_ifF (pc := 185) K.1 at_185 ((if0 _ _).trans (feq hc185).1) ?_
  refine g_iload (pc := 188) K.1 at_188 rfl ?_
  refine g_iload (pc := 190) K.1 at_190 rfl ?_
  rcases ifs h with ⟨hc192, h⟩ | ⟨hc192, h⟩
  · refine g_icF (pc := 192) K.1 at_192 ((teq hc192).2) ?_
    refine g_iconst (pc := 195) (v := 1) K.1 at_195 (by decide) ?_
    refine g_goto (pc := 196) (pc' := 200) K.1 at_196 (by decide) ?_
    exact g_less (ok_LAW_b200 K hw hs0  h) (ls (ls (ls (ls (ls (ls (ls (ls (ls (ls (ls (ls (ls (ls (ls (ls (ln (ls (ls (ls (ls (ls (ls (ls l0))))))))))))))))))))))))
  refine g_icT (pc := 192) (pc' := 199) K.1 at_192 (by decide) ((feq hc192).2) ?_
  exact g_less (ok_LAW_b199 K hw hs0  h) (ls (ls (ls (ls (ls (ls (ls (ls (ls (ls (ls (ls (ls (ls (ls (ls (ln (ls (ls (ls (ls (ls (ls (ls l0))))))))))))))))))))))))
def LAW_b155 (NF : Nat)  (i1 : Int32) (i2 : Int32) (i4 : Int32) (i6 : Int32) (i7 : Int32) (i8 : Int32) (i9 : Int32) (i10 : Int32) (i11 : Int32) (i12 : Int32) (i13 : Int32) (i16 : Int32) (t0 : Int32) (x0 : St) : Option (Int32 × List (St × Nat)) :=
  (if t0 = 0 then LAW_b167 NF i1 i2 i4 i6 i7 i8 i9 i10 i11 i12 i13 i16 t0 (1 : Int32) x0 else LAW_b167 NF i1 i2 i4 i6 i7 i8 i9 i10 i11 i12 i13 i16 t0 (0 : Int32) x0)
theorem ok_LAW_b155 {X : Cx (List (St × Nat))} {Z : State} {a0 : Array Value} {l : Launch} {n1 : Nat} {sc : Addr} {H0 : Heap} {NF : Nat} (K : KM_LAW X Z a0 l n1 sc H0) (hw : HW a0 Z) (hs0 : hsz X = n1)  {i1 : Int32} {i2 : Int32} {i4 : Int32} {i6 : Int32} {i7 : Int32} {i8 : Int32} {i9 : Int32} {i10 : Int32} {i11 : Int32} {i12 : Int32} {i13 : Int32} {i16 : Int32} {t0 : Int32} {x0 : St} {r : Int32 × List (St × Nat)}  (h : LAW_b155 NF  i1 i2 i4 i6 i7 i8 i9 i10 i11 i12 i13 i16 t0 x0 = some r) : Go X (some (.int r.1), r.2) 155 [none, some (.int i1), some (.int i2), none, some (.int i4), none, some (.int i6), some (.int i7), some (.int i8), some (.int i9), some (.int i10), some (.int i11), some (.int i12), some (.int i13), none, none, some (.int i16), none, none, none, none, none, none, none] [.int t0] [(x0, 31)] := by
  unfold LAW_b155 at h
  refine g_istore (pc := 155) (L' := [none, some (.int i1), some (.int i2), none, some (.int i4), none, some (.int i6), some (.int i7), some (.int i8), some (.int i9), some (.int i10), some (.int i11), some (.int i12), some (.int i13), none, none, some (.int i16), some (.int t0), none, none, none, none, none, none]) K.1 at_155 (blt rfl) rfl ?_
  refine g_iload (pc := 157) K.1 at_157 rfl ?_
  rcases ifs h with ⟨hc159, h⟩ | ⟨hc159, h⟩
  · refine g_ifF (pc := 159) K.1 at_159 ((if0 _ _).trans (teq hc159).2) ?_
    refine g_iconst (pc := 162) (v := 1) K.1 at_162 (by decide) ?_
    refine g_goto (pc := 163) (pc' := 167) K.1 at_163 (by decide) ?_
    exact ok_LAW_b167 K hw hs0  h
  refine g_ifT (pc := 159) (pc' := 166) K.1 at_159 (by decide) ((if0 _ _).trans (feq hc159).2) ?_
  refine g_iconst (pc := 166) (v := 0) K.1 at_166 (by decide) ?_
  exact ok_LAW_b167 K hw hs0  h
def LAW_b133 (NF : Nat)  (i1 : Int32) (i2 : Int32) (i4 : Int32) (i6 : Int32) (i7 : Int32) (i8 : Int32) (i9 : Int32) (i10 : Int32) (i11 : Int32) (i12 : Int32) (i13 : Int32) (i14 : Int32) (i15 : Int32) (t0 : Int32) (x0 : St) : Option (Int32 × List (St × Nat)) :=
  (if i14 = 0 then LAW_b155 NF i1 i2 i4 i6 i7 i8 i9 i10 i11 i12 i13 t0 (-1 : Int32) x0 else (if i15 = 0 then LAW_b155 NF i1 i2 i4 i6 i7 i8 i9 i10 i11 i12 i13 t0 (-2 : Int32) x0 else LAW_b155 NF i1 i2 i4 i6 i7 i8 i9 i10 i11 i12 i13 t0 (0 : Int32) x0))
theorem ok_LAW_b133 {X : Cx (List (St × Nat))} {Z : State} {a0 : Array Value} {l : Launch} {n1 : Nat} {sc : Addr} {H0 : Heap} {NF : Nat} (K : KM_LAW X Z a0 l n1 sc H0) (hw : HW a0 Z) (hs0 : hsz X = n1)  {i1 : Int32} {i2 : Int32} {i4 : Int32} {i6 : Int32} {i7 : Int32} {i8 : Int32} {i9 : Int32} {i10 : Int32} {i11 : Int32} {i12 : Int32} {i13 : Int32} {i14 : Int32} {i15 : Int32} {t0 : Int32} {x0 : St} {r : Int32 × List (St × Nat)}  (h : LAW_b133 NF  i1 i2 i4 i6 i7 i8 i9 i10 i11 i12 i13 i14 i15 t0 x0 = some r) : Go X (some (.int r.1), r.2) 133 [none, some (.int i1), some (.int i2), none, some (.int i4), none, some (.int i6), some (.int i7), some (.int i8), some (.int i9), some (.int i10), some (.int i11), some (.int i12), some (.int i13), some (.int i14), some (.int i15), none, none, none, none, none, none, none, none] [.int t0] [(x0, 31)] := by
  unfold LAW_b133 at h
  refine g_istore (pc := 133) (L' := [none, some (.int i1), some (.int i2), none, some (.int i4), none, some (.int i6), some (.int i7), some (.int i8), some (.int i9), some (.int i10), some (.int i11), some (.int i12), some (.int i13), some (.int i14), some (.int i15), some (.int t0), none, none, none, none, none, none, none]) K.1 at_133 (blt rfl) rfl ?_
  refine g_iload (pc := 135) K.1 at_135 rfl ?_
  rcases ifs h with ⟨hc137, h⟩ | ⟨hc137, h⟩
  · refine g_ifF (pc := 137) K.1 at_137 ((if0 _ _).trans (teq hc137).2) ?_
    refine g_iconst (pc := 140) (v := -1) K.1 at_140 (by decide) ?_
    refine g_goto (pc := 141) (pc' := 155) K.1 at_141 (by decide) ?_
    exact g_less (ok_LAW_b155 K hw hs0  h) (ls (ls (ls (ls (ls (ls (ls (ls (ls (ls (ls (ls (ls (ls (ln (ln (ls (ls (ls (ls (ls (ls (ls (ls l0))))))))))))))))))))))))
  refine g_ifT (pc := 137) (pc' := 144) K.1 at_137 (by decide) ((if0 _ _).trans (feq hc137).2) ?_
  refine g_iload (pc := 144) K.1 at_144 rfl ?_
  rcases ifs h with ⟨hc146, h⟩ | ⟨hc146, h⟩
  · refine g_ifF (pc := 146) K.1 at_146 ((if0 _ _).trans (teq hc146).2) ?_
    refine g_bipush (pc := 149) (v := -2) K.1 at_149 (by decide) ?_
    refine g_goto (pc := 151) (pc' := 155) K.1 at_151 (by decide) ?_
    exact g_less (ok_LAW_b155 K hw hs0  h) (ls (ls (ls (ls (ls (ls (ls (ls (ls (ls (ls (ls (ls (ls (ln (ln (ls (ls (ls (ls (ls (ls (ls (ls l0))))))))))))))))))))))))
  refine g_ifT (pc := 146) (pc' := 154) K.1 at_146 (by decide) ((if0 _ _).trans (feq hc146).2) ?_
  refine g_iconst (pc := 154) (v := 0) K.1 at_154 (by decide) ?_
  exact g_less (ok_LAW_b155 K hw hs0  h) (ls (ls (ls (ls (ls (ls (ls (ls (ls (ls (ls (ls (ls (ls (ln (ln (ls (ls (ls (ls (ls (ls (ls (ls l0))))))))))))))))))))))))
def LAW_b132 (NF : Nat)  (i1 : Int32) (i2 : Int32) (i4 : Int32) (i6 : Int32) (i7 : Int32) (i8 : Int32) (i9 : Int32) (i10 : Int32) (i11 : Int32) (i12 : Int32) (i13 : Int32) (i14 : Int32) (i15 : Int32) (x0 : St) : Option (Int32 × List (St × Nat)) :=
  LAW_b133 NF i1 i2 i4 i6 i7 i8 i9 i10 i11 i12 i13 i14 i15 (0 : Int32) x0
theorem ok_LAW_b132 {X : Cx (List (St × Nat))} {Z : State} {a0 : Array Value} {l : Launch} {n1 : Nat} {sc : Addr} {H0 : Heap} {NF : Nat} (K : KM_LAW X Z a0 l n1 sc H0) (hw : HW a0 Z) (hs0 : hsz X = n1)  {i1 : Int32} {i2 : Int32} {i4 : Int32} {i6 : Int32} {i7 : Int32} {i8 : Int32} {i9 : Int32} {i10 : Int32} {i11 : Int32} {i12 : Int32} {i13 : Int32} {i14 : Int32} {i15 : Int32} {x0 : St} {r : Int32 × List (St × Nat)}  (h : LAW_b132 NF  i1 i2 i4 i6 i7 i8 i9 i10 i11 i12 i13 i14 i15 x0 = some r) : Go X (some (.int r.1), r.2) 132 [none, some (.int i1), some (.int i2), none, some (.int i4), none, some (.int i6), some (.int i7), some (.int i8), some (.int i9), some (.int i10), some (.int i11), some (.int i12), some (.int i13), some (.int i14), some (.int i15), none, none, none, none, none, none, none, none] [] [(x0, 31)] := by
  unfold LAW_b132 at h
  refine g_iconst (pc := 132) (v := 0) K.1 at_132 (by decide) ?_
  exact ok_LAW_b133 K hw hs0  h
def LAW_b113 (NF : Nat)  (i1 : Int32) (i2 : Int32) (i4 : Int32) (i6 : Int32) (i7 : Int32) (i8 : Int32) (i9 : Int32) (i10 : Int32) (i11 : Int32) (i12 : Int32) (i13 : Int32) (i14 : Int32) (t0 : Int32) (x0 : St) : Option (Int32 × List (St × Nat)) :=
  (if i4 < 0 then LAW_b132 NF i1 i2 i4 i6 i7 i8 i9 i10 i11 i12 i13 i14 t0 x0 else (if (1023 : Int32) < i4 then LAW_b132 NF i1 i2 i4 i6 i7 i8 i9 i10 i11 i12 i13 i14 t0 x0 else LAW_b133 NF i1 i2 i4 i6 i7 i8 i9 i10 i11 i12 i13 i14 t0 (1 : Int32) x0))
theorem ok_LAW_b113 {X : Cx (List (St × Nat))} {Z : State} {a0 : Array Value} {l : Launch} {n1 : Nat} {sc : Addr} {H0 : Heap} {NF : Nat} (K : KM_LAW X Z a0 l n1 sc H0) (hw : HW a0 Z) (hs0 : hsz X = n1)  {i1 : Int32} {i2 : Int32} {i4 : Int32} {i6 : Int32} {i7 : Int32} {i8 : Int32} {i9 : Int32} {i10 : Int32} {i11 : Int32} {i12 : Int32} {i13 : Int32} {i14 : Int32} {t0 : Int32} {x0 : St} {r : Int32 × List (St × Nat)}  (h : LAW_b113 NF  i1 i2 i4 i6 i7 i8 i9 i10 i11 i12 i13 i14 t0 x0 = some r) : Go X (some (.int r.1), r.2) 113 [none, some (.int i1), some (.int i2), none, some (.int i4), none, some (.int i6), some (.int i7), some (.int i8), some (.int i9), some (.int i10), some (.int i11), some (.int i12), some (.int i13), some (.int i14), none, none, none, none, none, none, none, none, none] [.int t0] [(x0, 31)] := by
  unfold LAW_b113 at h
  refine g_istore (pc := 113) (L' := [none, some (.int i1), some (.int i2), none, some (.int i4), none, some (.int i6), some (.int i7), some (.int i8), some (.int i9), some (.int i10), some (.int i11), some (.int i12), some (.int i13), some (.int i14), some (.int t0), none, none, none, none, none, none, none, none]) K.1 at_113 (blt rfl) rfl ?_
  refine g_iload (pc := 115) K.1 at_115 rfl ?_
  rcases ifs h with ⟨hc117, h⟩ | ⟨hc117, h⟩
  · refine g_ifT (pc := 117) (pc' := 132) K.1 at_117 (by decide) ((if0 _ _).trans (tlt hc117).1) ?_
    exact ok_LAW_b132 K hw hs0  h
  refine g_ifF (pc := 117) K.1 at_117 ((if0 _ _).trans (flt hc117).1) ?_
  refine g_iload (pc := 120) K.1 at_120 rfl ?_
  refine g_sipush (pc := 122) (v := 1023) K.1 at_122 (by decide) ?_
  rcases ifs h with ⟨hc125, h⟩ | ⟨hc125, h⟩
  · refine g_icT (pc := 125) (pc' := 132) K.1 at_125 (by decide) ((tlt hc125).2.2.1) ?_
    exact ok_LAW_b132 K hw hs0  h
  refine g_icF (pc := 125) K.1 at_125 ((flt hc125).2.2.1) ?_
  refine g_iconst (pc := 128) (v := 1) K.1 at_128 (by decide) ?_
  refine g_goto (pc := 129) (pc' := 133) K.1 at_129 (by decide) ?_
  exact ok_LAW_b133 K hw hs0  h
def LAW_b112 (NF : Nat)  (i1 : Int32) (i2 : Int32) (i4 : Int32) (i6 : Int32) (i7 : Int32) (i8 : Int32) (i9 : Int32) (i10 : Int32) (i11 : Int32) (i12 : Int32) (i13 : Int32) (i14 : Int32) (x0 : St) : Option (Int32 × List (St × Nat)) :=
  LAW_b113 NF i1 i2 i4 i6 i7 i8 i9 i10 i11 i12 i13 i14 (0 : Int32) x0
theorem ok_LAW_b112 {X : Cx (List (St × Nat))} {Z : State} {a0 : Array Value} {l : Launch} {n1 : Nat} {sc : Addr} {H0 : Heap} {NF : Nat} (K : KM_LAW X Z a0 l n1 sc H0) (hw : HW a0 Z) (hs0 : hsz X = n1)  {i1 : Int32} {i2 : Int32} {i4 : Int32} {i6 : Int32} {i7 : Int32} {i8 : Int32} {i9 : Int32} {i10 : Int32} {i11 : Int32} {i12 : Int32} {i13 : Int32} {i14 : Int32} {x0 : St} {r : Int32 × List (St × Nat)}  (h : LAW_b112 NF  i1 i2 i4 i6 i7 i8 i9 i10 i11 i12 i13 i14 x0 = some r) : Go X (some (.int r.1), r.2) 112 [none, some (.int i1), some (.int i2), none, some (.int i4), none, some (.int i6), some (.int i7), some (.int i8), some (.int i9), some (.int i10), some (.int i11), some (.int i12), some (.int i13), some (.int i14), none, none, none, none, none, none, none, none, none] [] [(x0, 31)] := by
  unfold LAW_b112 at h
  refine g_iconst (pc := 112) (v := 0) K.1 at_112 (by decide) ?_
  exact ok_LAW_b113 K hw hs0  h
def LAW_b95 (NF : Nat)  (i1 : Int32) (i2 : Int32) (i4 : Int32) (i6 : Int32) (i7 : Int32) (i8 : Int32) (i9 : Int32) (i10 : Int32) (i11 : Int32) (i12 : Int32) (i13 : Int32) (t0 : Int32) (x0 : St) : Option (Int32 × List (St × Nat)) :=
  (if i2 < 0 then LAW_b112 NF i1 i2 i4 i6 i7 i8 i9 i10 i11 i12 i13 t0 x0 else (if (1023 : Int32) < i2 then LAW_b112 NF i1 i2 i4 i6 i7 i8 i9 i10 i11 i12 i13 t0 x0 else LAW_b113 NF i1 i2 i4 i6 i7 i8 i9 i10 i11 i12 i13 t0 (1 : Int32) x0))
theorem ok_LAW_b95 {X : Cx (List (St × Nat))} {Z : State} {a0 : Array Value} {l : Launch} {n1 : Nat} {sc : Addr} {H0 : Heap} {NF : Nat} (K : KM_LAW X Z a0 l n1 sc H0) (hw : HW a0 Z) (hs0 : hsz X = n1)  {i1 : Int32} {i2 : Int32} {i4 : Int32} {i6 : Int32} {i7 : Int32} {i8 : Int32} {i9 : Int32} {i10 : Int32} {i11 : Int32} {i12 : Int32} {i13 : Int32} {t0 : Int32} {x0 : St} {r : Int32 × List (St × Nat)}  (h : LAW_b95 NF  i1 i2 i4 i6 i7 i8 i9 i10 i11 i12 i13 t0 x0 = some r) : Go X (some (.int r.1), r.2) 95 [none, some (.int i1), some (.int i2), none, some (.int i4), none, some (.int i6), some (.int i7), some (.int i8), some (.int i9), some (.int i10), some (.int i11), some (.int i12), some (.int i13), none, none, none, none, none, none, none, none, none, none] [.int t0] [(x0, 31)] := by
  unfold LAW_b95 at h
  refine g_istore (pc := 95) (L' := [none, some (.int i1), some (.int i2), none, some (.int i4), none, some (.int i6), some (.int i7), some (.int i8), some (.int i9), some (.int i10), some (.int i11), some (.int i12), some (.int i13), some (.int t0), none, none, none, none, none, none, none, none, none]) K.1 at_95 (blt rfl) rfl ?_
  refine g_iloadN (pc := 97) K.1 at_97 rfl ?_
  rcases ifs h with ⟨hc98, h⟩ | ⟨hc98, h⟩
  · refine g_ifT (pc := 98) (pc' := 112) K.1 at_98 (by decide) ((if0 _ _).trans (tlt hc98).1) ?_
    exact ok_LAW_b112 K hw hs0  h
  refine g_ifF (pc := 98) K.1 at_98 ((if0 _ _).trans (flt hc98).1) ?_
  refine g_iloadN (pc := 101) K.1 at_101 rfl ?_
  refine g_sipush (pc := 102) (v := 1023) K.1 at_102 (by decide) ?_
  rcases ifs h with ⟨hc105, h⟩ | ⟨hc105, h⟩
  · refine g_icT (pc := 105) (pc' := 112) K.1 at_105 (by decide) ((tlt hc105).2.2.1) ?_
    exact ok_LAW_b112 K hw hs0  h
  refine g_icF (pc := 105) K.1 at_105 ((flt hc105).2.2.1) ?_
  refine g_iconst (pc := 108) (v := 1) K.1 at_108 (by decide) ?_
  refine g_goto (pc := 109) (pc' := 113) K.1 at_109 (by decide) ?_
  exact ok_LAW_b113 K hw hs0  h
def LAW_b90 (NF : Nat)  (i1 : Int32) (i2 : Int32) (i4 : Int32) (i6 : Int32) (i7 : Int32) (i8 : Int32) (i9 : Int32) (i10 : Int32) (i11 : Int32) (i12 : Int32) (i13 : Int32) (x0 : St) : Option (Int32 × List (St × Nat)) :=
  LAW_b95 NF i1 i2 i4 i6 i7 i8 i9 i10 i11 i12 i13 (1 : Int32) x0
theorem ok_LAW_b90 {X : Cx (List (St × Nat))} {Z : State} {a0 : Array Value} {l : Launch} {n1 : Nat} {sc : Addr} {H0 : Heap} {NF : Nat} (K : KM_LAW X Z a0 l n1 sc H0) (hw : HW a0 Z) (hs0 : hsz X = n1)  {i1 : Int32} {i2 : Int32} {i4 : Int32} {i6 : Int32} {i7 : Int32} {i8 : Int32} {i9 : Int32} {i10 : Int32} {i11 : Int32} {i12 : Int32} {i13 : Int32} {x0 : St} {r : Int32 × List (St × Nat)}  (h : LAW_b90 NF  i1 i2 i4 i6 i7 i8 i9 i10 i11 i12 i13 x0 = some r) : Go X (some (.int r.1), r.2) 90 [none, some (.int i1), some (.int i2), none, some (.int i4), none, some (.int i6), some (.int i7), some (.int i8), some (.int i9), some (.int i10), some (.int i11), some (.int i12), some (.int i13), none, none, none, none, none, none, none, none, none, none] [] [(x0, 31)] := by
  unfold LAW_b90 at h
  refine g_iconst (pc := 90) (v := 1) K.1 at_90 (by decide) ?_
  refine g_goto (pc := 91) (pc' := 95) K.1 at_91 (by decide) ?_
  exact ok_LAW_b95 K hw hs0  h
def LAW (NF : Nat) (v0 : Int32) (v1 : Int32) (v2 : Int32) (v3 : Int32) (v4 : Int32) : Option (Int32 × List (St × Nat)) :=
  ((M_init NF v0 (4 : Int32)).bind fun q6 => ((M_submit NF q6 v1 v2 v3).bind fun q16 => ((M_submit NF q16.2 (1 : Int32) v4 v3).bind fun q27 => ((M_pending q27.2 (v2 &&& (3 : Int32))).bind fun q47 => ((M_pending q47.2 (v4 &&& (3 : Int32))).bind fun q56 => ((M_reserved q56.2).bind fun q63 => ((M_size q63.2).bind fun q70 => (if v1 = (1 : Int32) then LAW_b90 NF v1 v2 v4 q16.1 q27.1 (v2 &&& (3 : Int32)) (v4 &&& (3 : Int32)) q47.1 q56.1 q63.1 q70.1 q70.2 else (if v1 = (2 : Int32) then LAW_b90 NF v1 v2 v4 q16.1 q27.1 (v2 &&& (3 : Int32)) (v4 &&& (3 : Int32)) q47.1 q56.1 q63.1 q70.1 q70.2 else (if v1 = (3 : Int32) then LAW_b90 NF v1 v2 v4 q16.1 q27.1 (v2 &&& (3 : Int32)) (v4 &&& (3 : Int32)) q47.1 q56.1 q63.1 q70.1 q70.2 else LAW_b95 NF v1 v2 v4 q16.1 q27.1 (v2 &&& (3 : Int32)) (v4 &&& (3 : Int32)) q47.1 q56.1 q63.1 q70.1 (0 : Int32) q70.2))))))))))
theorem ok_LAW {X : Cx (List (St × Nat))} {Z : State} {a0 : Array Value} {l : Launch} {n1 : Nat} {sc : Addr} {H0 : Heap} {NF : Nat} (K : KM_LAW X Z a0 l n1 sc H0) (hw : HW a0 Z) (hs0 : hsz X = n1) {v0 : Int32} {v1 : Int32} {v2 : Int32} {v3 : Int32} {v4 : Int32} {r : Int32 × List (St × Nat)} (h : LAW NF v0 v1 v2 v3 v4 = some r) : Go X (some (.int r.1), r.2) 0 [some (.int v0), some (.int v1), some (.int v2), some (.int v3), some (.int v4), none, none, none, none, none, none, none, none, none, none, none, none, none, none, none, none, none, none, none] [] [] := by
  unfold LAW at h
  refine l_new (pc := 0) (i := 0) K at_0 (w0 hw) rfl (by decide) hs0 ceI_0 (capN1 cn_ rfl) (capN2 cn_ rfl) rfl ?_
  refine g_dup (pc := 3) K.1 at_3 rfl ?_
  refine g_iloadN (pc := 4) K.1 at_4 rfl ?_
  refine g_iconst (pc := 5) (v := 4) K.1 at_5 (by decide) ?_
  obtain ⟨q6, hq6, h⟩ := Option.bind_eq_some_iff.mp h
  refine l_init (pc := 6) (vs := [.int v0, .int (4 : Int32)]) (i := 0) (W0 := []) (W' := [(q6, 31)]) K at_6 (w3 hw) (w4 hw) (w5 hw) hyC pd_5 (by intro v q; simp only [List.mem_cons, List.not_mem_nil, or_false] at q; rcases q with rfl | rfl <;> rfl) rfl rfl rfl rfl (by decide) rfl rfl (con_M_init l Z a0 hw n1 _ (Nat.le_add_right _ _) hq6) rfl (by decide) (by decide) rfl ceI_nA ceI_0 (capJ1 cj_31 rfl) (capJ2 cj_31 rfl) ?_
  refine g_astore (pc := 9) (L' := [some (.int v0), some (.int v1), some (.int v2), some (.int v3), some (.int v4), some (.ref 0), none, none, none, none, none, none, none, none, none, none, none, none, none, none, none, none, none, none]) K.1 at_9 (blt rfl) rfl ?_
  refine g_aload (pc := 11) K.1 at_11 rfl ?_
  refine g_iloadN (pc := 13) K.1 at_13 rfl ?_
  refine g_iloadN (pc := 14) K.1 at_14 rfl ?_
  refine g_iloadN (pc := 15) K.1 at_15 rfl ?_
  obtain ⟨q16, hq16, h⟩ := Option.bind_eq_some_iff.mp h
  refine l_call (pc := 16) (vs := [.int v1, .int v2, .int v3]) (i := 0) (W' := [(q16.2, 31)]) K at_16 (w114 hw) (w116 hw) (w115 hw) (w117 hw) (w118 hw) hyC pd_0 (by intro v q; simp only [List.mem_cons, List.not_mem_nil, or_false] at q; rcases q with rfl | rfl | rfl <;> rfl) (by decide) rfl rfl (fun _ q => by cases q; rfl) rfl rfl (con_M_submit l Z a0 hw n1 _ (Nat.le_add_right _ _) hq16) rfl (by decide) (by decide) rfl rfl (ceL_eq rfl) (capJ1 cj_31 rfl) (capJ2 cj_31 rfl) ?_
  refine g_istore (pc := 19) (L' := [some (.int v0), some (.int v1), some (.int v2), some (.int v3), some (.int v4), some (.ref 0), some (.int q16.1), none, none, none, none, none, none, none, none, none, none, none, none, none, none, none, none, none]) K.1 at_19 (blt rfl) rfl ?_
  refine g_aload (pc := 21) K.1 at_21 rfl ?_
  refine g_iconst (pc := 23) (v := 1) K.1 at_23 (by decide) ?_
  refine g_iload (pc := 24) K.1 at_24 rfl ?_
  refine g_iloadN (pc := 26) K.1 at_26 rfl ?_
  obtain ⟨q27, hq27, h⟩ := Option.bind_eq_some_iff.mp h
  refine l_call (pc := 27) (vs := [.int (1 : Int32), .int v4, .int v3]) (i := 0) (W' := [(q27.2, 31)]) K at_27 (w114 hw) (w116 hw) (w115 hw) (w117 hw) (w118 hw) hyC pd_0 (by intro v q; simp only [List.mem_cons, List.not_mem_nil, or_false] at q; rcases q with rfl | rfl | rfl <;> rfl) (by decide) rfl rfl (fun _ q => by cases q; rfl) rfl rfl (con_M_submit l Z a0 hw n1 _ (Nat.le_add_right _ _) hq27) rfl (by decide) (by decide) rfl rfl (ceL_eq rfl) (capJ1 cj_31 rfl) (capJ2 cj_31 rfl) ?_
  refine g_istore (pc := 30) (L' := [some (.int v0), some (.int v1), some (.int v2), some (.int v3), some (.int v4), some (.ref 0), some (.int q16.1), some (.int q27.1), none, none, none, none, none, none, none, none, none, none, none, none, none, none, none, none]) K.1 at_30 (blt rfl) rfl ?_
  refine g_iloadN (pc := 32) K.1 at_32 rfl ?_
  refine g_iconst (pc := 33) (v := 3) K.1 at_33 (by decide) ?_
  refine g_iand (pc := 34) K.1 at_34 ?_
  refine g_istore (pc := 35) (L' := [some (.int v0), some (.int v1), some (.int v2), some (.int v3), some (.int v4), some (.ref 0), some (.int q16.1), some (.int q27.1), some (.int (v2 &&& (3 : Int32))), none, none, none, none, none, none, none, none, none, none, none, none, none, none, none]) K.1 at_35 (blt rfl) rfl ?_
  refine g_iload (pc := 37) K.1 at_37 rfl ?_
  refine g_iconst (pc := 39) (v := 3) K.1 at_39 (by decide) ?_
  refine g_iand (pc := 40) K.1 at_40 ?_
  refine g_istore (pc := 41) (L' := [some (.int v0), some (.int v1), some (.int v2), some (.int v3), some (.int v4), some (.ref 0), some (.int q16.1), some (.int q27.1), some (.int (v2 &&& (3 : Int32))), some (.int (v4 &&& (3 : Int32))), none, none, none, none, none, none, none, none, none, none, none, none, none, none]) K.1 at_41 (blt rfl) rfl ?_
  refine g_aload (pc := 43) K.1 at_43 rfl ?_
  refine g_iload (pc := 45) K.1 at_45 rfl ?_
  obtain ⟨q47, hq47, h⟩ := Option.bind_eq_some_iff.mp h
  refine l_call (pc := 47) (vs := [.int (v2 &&& (3 : Int32))]) (i := 0) (W' := [(q47.2, 31)]) K at_47 (w141 hw) (w143 hw) (w142 hw) (w144 hw) (w145 hw) hyC pd_2 (by intro v q; simp only [List.mem_cons, List.not_mem_nil, or_false] at q; subst q <;> rfl) (by decide) rfl rfl (fun _ q => by cases q; rfl) rfl rfl (con_M_pending l Z a0 hw n1 _ (Nat.le_add_right _ _) hq47) rfl (by decide) (by decide) rfl rfl (ceL_eq rfl) (capJ1 cj_31 rfl) (capJ2 cj_31 rfl) ?_
  refine g_istore (pc := 50) (L' := [some (.int v0), some (.int v1), some (.int v2), some (.int v3), some (.int v4), some (.ref 0), some (.int q16.1), some (.int q27.1), some (.int (v2 &&& (3 : Int32))), some (.int (v4 &&& (3 : Int32))), some (.int q47.1), none, none, none, none, none, none, none, none, none, none, none, none, none]) K.1 at_50 (blt rfl) rfl ?_
  refine g_aload (pc := 52) K.1 at_52 rfl ?_
  refine g_iload (pc := 54) K.1 at_54 rfl ?_
  obtain ⟨q56, hq56, h⟩ := Option.bind_eq_some_iff.mp h
  refine l_call (pc := 56) (vs := [.int (v4 &&& (3 : Int32))]) (i := 0) (W' := [(q56.2, 31)]) K at_56 (w141 hw) (w143 hw) (w142 hw) (w144 hw) (w145 hw) hyC pd_2 (by intro v q; simp only [List.mem_cons, List.not_mem_nil, or_false] at q; subst q <;> rfl) (by decide) rfl rfl (fun _ q => by cases q; rfl) rfl rfl (con_M_pending l Z a0 hw n1 _ (Nat.le_add_right _ _) hq56) rfl (by decide) (by decide) rfl rfl (ceL_eq rfl) (capJ1 cj_31 rfl) (capJ2 cj_31 rfl) ?_
  refine g_istore (pc := 59) (L' := [some (.int v0), some (.int v1), some (.int v2), some (.int v3), some (.int v4), some (.ref 0), some (.int q16.1), some (.int q27.1), some (.int (v2 &&& (3 : Int32))), some (.int (v4 &&& (3 : Int32))), some (.int q47.1), some (.int q56.1), none, none, none, none, none, none, none, none, none, none, none, none]) K.1 at_59 (blt rfl) rfl ?_
  refine g_aload (pc := 61) K.1 at_61 rfl ?_
  obtain ⟨q63, hq63, h⟩ := Option.bind_eq_some_iff.mp h
  refine l_call (pc := 63) (vs := []) (i := 0) (W' := [(q63.2, 31)]) K at_63 (w150 hw) (w152 hw) (w151 hw) (w153 hw) (w154 hw) hyC pd_4 (fun _ q => by cases q) (by decide) rfl rfl (fun _ q => by cases q; rfl) rfl rfl (con_M_reserved l Z a0 hw n1 _ (Nat.le_add_right _ _) hq63) rfl (by decide) (by decide) rfl rfl (ceL_eq rfl) (capJ1 cj_31 rfl) (capJ2 cj_31 rfl) ?_
  refine g_istore (pc := 66) (L' := [some (.int v0), some (.int v1), some (.int v2), some (.int v3), some (.int v4), some (.ref 0), some (.int q16.1), some (.int q27.1), some (.int (v2 &&& (3 : Int32))), some (.int (v4 &&& (3 : Int32))), some (.int q47.1), some (.int q56.1), some (.int q63.1), none, none, none, none, none, none, none, none, none, none, none]) K.1 at_66 (blt rfl) rfl ?_
  refine g_aload (pc := 68) K.1 at_68 rfl ?_
  obtain ⟨q70, hq70, h⟩ := Option.bind_eq_some_iff.mp h
  refine l_call (pc := 70) (vs := []) (i := 0) (W' := [(q70.2, 31)]) K at_70 (w155 hw) (w157 hw) (w156 hw) (w158 hw) (w159 hw) hyC pd_4 (fun _ q => by cases q) (by decide) rfl rfl (fun _ q => by cases q; rfl) rfl rfl (con_M_size l Z a0 hw n1 _ (Nat.le_add_right _ _) hq70) rfl (by decide) (by decide) rfl rfl (ceL_eq rfl) (capJ1 cj_31 rfl) (capJ2 cj_31 rfl) ?_
  refine g_istore (pc := 73) (L' := [some (.int v0), some (.int v1), some (.int v2), some (.int v3), some (.int v4), some (.ref 0), some (.int q16.1), some (.int q27.1), some (.int (v2 &&& (3 : Int32))), some (.int (v4 &&& (3 : Int32))), some (.int q47.1), some (.int q56.1), some (.int q63.1), some (.int q70.1), none, none, none, none, none, none, none, none, none, none]) K.1 at_73 (blt rfl) rfl ?_
  refine g_iloadN (pc := 75) K.1 at_75 rfl ?_
  refine g_iconst (pc := 76) (v := 1) K.1 at_76 (by decide) ?_
  rcases ifs h with ⟨hc77, h⟩ | ⟨hc77, h⟩
  · refine g_icT (pc := 77) (pc' := 90) K.1 at_77 (by decide) ((teq hc77).1) ?_
    exact g_less (ok_LAW_b90 K hw hs0  h) (ln (ls (ls (ln (ls (ln (ls (ls (ls (ls (ls (ls (ls (ls (ls (ls (ls (ls (ls (ls (ls (ls (ls (ls l0))))))))))))))))))))))))
  refine g_icF (pc := 77) K.1 at_77 ((feq hc77).1) ?_
  refine g_iloadN (pc := 80) K.1 at_80 rfl ?_
  refine g_iconst (pc := 81) (v := 2) K.1 at_81 (by decide) ?_
  rcases ifs h with ⟨hc82, h⟩ | ⟨hc82, h⟩
  · refine g_icT (pc := 82) (pc' := 90) K.1 at_82 (by decide) ((teq hc82).1) ?_
    exact g_less (ok_LAW_b90 K hw hs0  h) (ln (ls (ls (ln (ls (ln (ls (ls (ls (ls (ls (ls (ls (ls (ls (ls (ls (ls (ls (ls (ls (ls (ls (ls l0))))))))))))))))))))))))
  refine g_icF (pc := 82) K.1 at_82 ((feq hc82).1) ?_
  refine g_iloadN (pc := 85) K.1 at_85 rfl ?_
  refine g_iconst (pc := 86) (v := 3) K.1 at_86 (by decide) ?_
  rcases ifs h with ⟨hc87, h⟩ | ⟨hc87, h⟩
  · refine g_icF (pc := 87) K.1 at_87 ((teq hc87).2) ?_
    exact g_less (ok_LAW_b90 K hw hs0  h) (ln (ls (ls (ln (ls (ln (ls (ls (ls (ls (ls (ls (ls (ls (ls (ls (ls (ls (ls (ls (ls (ls (ls (ls l0))))))))))))))))))))))))
  refine g_icT (pc := 87) (pc' := 94) K.1 at_87 (by decide) ((feq hc87).2) ?_
  refine g_iconst (pc := 94) (v := 0) K.1 at_94 (by decide) ?_
  exact g_less (ok_LAW_b95 K hw hs0  h) (ln (ls (ls (ln (ls (ln (ls (ls (ls (ls (ls (ls (ls (ls (ls (ls (ls (ls (ls (ls (ls (ls (ls (ls l0))))))))))))))))))))))))
theorem con_LAW (l : Launch) (Z : State) (a0 : Array Value) (hw : HW a0 Z) (ws : List Jvm.Cond) (sc : Addr) (H0 : Heap) {NF : Nat} {v0 : Int32} {v1 : Int32} {v2 : Int32} {v3 : Int32} {v4 : Int32} {r : Int32 × List (St × Nat)} (h : LAW NF v0 v1 v2 v3 v4 = some r) : MetP l Z x code maxLocals ret room_1 ws H0.size H0 ([.int v0, .int v1, .int v2, .int v3, .int v4].map (up (adL sc H0.size 31))).toArray (some (.int r.1)) (fun _ => True) := by
  refine (met_of_go (S := List (St × Nat)) (ad := adL sc H0.size 31) (INV := INVl Z cC cFS cFA 31 H0.size H0) (CE := ceL 52 cFA) (x := []) (x' := r.2) (v := some (.int r.1)) (y := x) pnL rfl ⟨fun i q hq => by simp at hq, by simp [sizeW], Nat.le_refl _, fun _ _ q => q⟩ rfl ?_).mono (fun _ _ => trivial)
  intro p e s m below meth c hs K
  exact ok_LAW ⟨K, layW hw, lgood, rfl, rfl, rfl, rfl, rfl, rfl, rfl, rfl, rfl⟩ hw (by show s.heap.size = _; rw [hs]) h
theorem own_clamp (σ : St) (v lo hi : Int32) : M_clamp σ v lo hi = some (if v < lo then lo else if hi < v then hi else v, σ) := by
  unfold M_clamp; split
  · rfl
  · split <;> rfl
theorem own_l381 {NF : Nat} (hF : 256 < NF) (σ : St) : M_init_l381 NF NF 0 σ = some (fillS σ 4 16 fun _ => -1) := by
  refine fill_loop (l := M_init_l381 NF) (w := M_init_w381 NF) (fun _ _ _ => rfl) 16 (by decide) 4 (fun _ => -1) (fun σ => some σ) ?_ ?_ NF (by omega) σ
  · intro k i σ h0 h1
    unfold M_init_w381
    rw [if_pos (lt_i.mpr h1), if_pos ⟨h0, h1⟩]
  · intro k i σ h
    unfold M_init_w381
    rw [if_neg (by rw [lt_i]; show ¬ _ < (16 : Int); omega)]
theorem own_l359 {NF : Nat} (hF : 256 < NF) (σ : St) : M_init_l359 NF NF 0 σ = some (fillS (fillS σ 1 256 fun _ => -1) 4 16 fun _ => -1) := by
  rw [fill_loop (l := M_init_l359 NF) (w := M_init_w359 NF) (fun _ _ _ => rfl) 256 (by decide) 1 (fun _ => -1) (fun σ => M_init_l381 NF NF 0 σ) ?_ ?_ NF hF σ]
  · exact own_l381 hF _
  · intro k i σ h0 h1
    unfold M_init_w359
    rw [if_pos (lt_i.mpr h1), if_pos ⟨h0, h1⟩]
  · intro k i σ h
    unfold M_init_w359
    rw [if_neg (by rw [lt_i]; show ¬ _ < (256 : Int); omega)]
/-- a new object -/
def own_new (c s : Int32) : St := fillS (fillS (sI (sI (sI (sI (sI (sI (sI (sI (sI (sI (sI (sI (sI (sI (sI (sI (sI (sI z0 119 0) 120 1) 121 2) 122 3) 123 4) 124 5) 125 6) 126 7) 127 8) 128 16) 129 256) 130 64) 131 12) 132 200000) 133 (-1)) 134 (-1)) 135 (if c < 8 then 8 else if 64 < c then 64 else c)) 136 (if s < 1 then 1 else if 16 < s then 16 else s)) 1 256 fun _ => -1) 4 16 fun _ => -1
theorem own_init {NF : Nat} (hF : 256 < NF) (c s : Int32) : M_init NF c s = some (own_new c s) := by
  unfold M_init
  simp only [own_clamp, Option.bind_some]
  exact own_l359 hF _
/-- a slot's number lies in the table -/
theorem own_idx (b s : Int32) : 0 ≤ (((b &&& 63) <<< ((2 : Int32) &&& 31)) ||| (s &&& 3)).toInt ∧ (((b &&& 63) <<< ((2 : Int32) &&& 31)) ||| (s &&& 3)).toInt < 256 := by
  have h1 := c_mask b 63 6 (by decide) (by decide)
  have h2 := c_mask s 3 2 (by decide) (by decide)
  have h3 := c_ishl (b &&& 63) 2 2 (by decide)
  have h4 : ((b &&& 63) <<< ((2 : Int32) &&& 31)).toInt = (b &&& 63).toInt * 4 := by
    have r := rng32 ((b &&& 63) <<< ((2 : Int32) &&& 31))
    simp only [Nat.reducePow] at h1 h3
    omega
  have h5 := c_or ((b &&& 63) <<< ((2 : Int32) &&& 31)) (s &&& 3) 2 (by decide) 4 (by decide) (by simp only [Nat.reducePow] at *; omega) (by simp only [Nat.reducePow] at *; omega) (by simp only [Nat.reducePow] at *; omega)
  have r := rng32 (((b &&& 63) <<< ((2 : Int32) &&& 31)) ||| (s &&& 3))
  simp only [Nat.reducePow] at *
  omega
theorem own_fl {NF : Nat} {σ : St} {k b1 b2 : Int32} (hk : ∀ q : Int, 0 ≤ q → q < 256 → ¬ gA σ 1 q = k) : ∀ (n : Nat) (i : Int32), 0 ≤ i.toInt → i.toInt ≤ 4 → 4 - i.toInt < n → M_findSlot_l28 NF n k b1 b2 i σ = some (-1, σ) := by
  intro n
  induction n with
  | zero => intro i h0 h1 hn; omega
  | succ n ih =>
    intro i h0 h1 hn
    show M_findSlot_w28 NF (M_findSlot_l28 NF n) k b1 b2 i σ = _
    unfold M_findSlot_w28 M_slotIndex
    by_cases h : i.toInt < 4
    · have e := i_inc (x := i) (by omega)
      rw [if_pos (lt_i.mpr h)]
      simp only [Option.bind_some]
      rw [if_pos (own_idx _ _), if_neg (hk _ (own_idx _ _).1 (own_idx _ _).2), if_pos (own_idx _ _), if_neg (hk _ (own_idx _ _).1 (own_idx _ _).2)]
      exact ih _ (by omega) (by omega) (by omega)
    · rw [if_neg (by rw [lt_i]; show ¬ _ < (4 : Int); omega)]
theorem own_find {NF : Nat} (hF : 256 < NF) {σ : St} (hE : ∀ i, 0 ≤ i → i < 256 → gA σ 1 i = -1) (k : Int32) : M_findSlot NF σ k = some (-1, σ) := by
  unfold M_findSlot
  by_cases h1 : k < 0
  · rw [if_pos h1]
  · rw [if_neg h1]
    by_cases h2 : k < 1024
    · rw [if_pos h2]
      unfold M_bucket1 M_bucket2
      simp only [Option.bind_some]
      generalize k &&& 31 = b1
      generalize (32 : Int32) + _ = b2
      have hk : ∀ q : Int, 0 ≤ q → q < 256 → ¬ gA σ 1 q = k := fun q q1 q2 e => by
        rw [hE q q1 q2] at e; subst e; exact h1 (by decide)
      exact own_fl hk NF 0 (by decide) (by decide) (by have e : (0 : Int32).toInt = 0 := rfl; omega)
    · rw [if_neg h2]
theorem own_iq0 {NF : Nat} (hF : 256 < NF) {σ : St} {k : Int32} (h : gA σ 8 (k &&& 3).toInt = 0) : M_insertQueued NF σ k = some (0, σ) := by
  have ht := c_mask k 3 2 (by decide) (by decide)
  simp only [Nat.reducePow] at ht
  obtain ⟨m, rfl⟩ : ∃ m, NF = m + 1 := ⟨NF - 1, by omega⟩
  unfold M_insertQueued
  show M_insertQueued_w6 _ _ _ _ _ _ = _
  unfold M_insertQueued_w6
  rw [if_pos (by omega), h, if_neg (by decide)]
theorem own_iq1 {NF : Nat} (hF : 256 < NF) {σ : St} {k op k1 : Int32} (h : gA σ 8 (k &&& 3).toInt = 1) (h5 : gA σ 5 ((k &&& 3) * 8 + 0).toInt = op) (h6 : gA σ 6 ((k &&& 3) * 8 + 0).toInt = k1) : M_insertQueued NF σ k = some (if op = 1 ∧ k1 = k then 1 else 0, σ) := by
  have ht := c_mask k 3 2 (by decide) (by decide)
  simp only [Nat.reducePow] at ht
  have em : ((k &&& 3) * 8).toInt = (k &&& 3).toInt * 8 := by
    have q := c_imul (k &&& 3) 8; have r := rng32 ((k &&& 3) * 8)
    have e : (8 : Int32).toInt = 8 := rfl
    rw [e] at q; omega
  have e0 : (0 : Int32).toInt = 0 := rfl
  have ea := i_add (x := (k &&& 3) * 8) (y := 0) (by omega) (by omega)
  have hi : 0 ≤ ((k &&& 3) * 8 + 0).toInt ∧ ((k &&& 3) * 8 + 0).toInt < 32 := by omega
  have ht' : 0 ≤ (k &&& 3).toInt ∧ (k &&& 3).toInt < 4 := by omega
  obtain ⟨m, rfl⟩ : ∃ m, NF = m + 2 := ⟨NF - 2, by omega⟩
  unfold M_insertQueued
  show M_insertQueued_w6 (m + 2) (M_insertQueued_l6 (m + 2) (m + 1)) _ _ _ _ = _
  unfold M_insertQueued_w6 M_insertQueued_b54
  have nx : M_insertQueued_l6 (m + 2) (m + 1) k (k &&& 3) (0 + 1) σ = some (0, σ) := by
    show M_insertQueued_w6 _ _ _ _ _ _ = _
    unfold M_insertQueued_w6
    rw [if_pos ht', h, if_neg (by decide)]
  rw [if_pos ht', h, if_pos (by decide), if_pos (by decide), if_pos hi, if_pos hi, h5, h6, nx]
  by_cases a : op = 1 <;> by_cases b : k1 = k <;> simp only [a, b, if_true, if_false, and_self, true_and, and_true, false_and, and_false]
/-- the state after an operation was queued -/
def own_put (σ : St) (op k v t p f : Int32) : St :=
  let S := sA (sA (sA (sA σ 5 (t * 8 + p).toInt op) 6 (t * 8 + p).toInt k) 7 (t * 8 + p).toInt v) 8 t.toInt (p + 1)
  if f = 0 then S else sI S 140 (gI σ 140 + 1)
theorem own_b102 {NF : Nat} (σ : St) {op k v t p f : Int32} (t0 : 0 ≤ t.toInt) (t4 : t.toInt < 4) (p0 : 0 ≤ p.toInt) (p8 : p.toInt < 8) : M_submit_b102 NF op k v t p f σ = some (p, own_put σ op k v t p f) := by
  have em : (t * 8).toInt = t.toInt * 8 := by
    have q := c_imul t 8; have r := rng32 (t * 8)
    have e : (8 : Int32).toInt = 8 := rfl
    rw [e] at q; omega
  have ea := i_add (x := t * 8) (y := p) (by omega) (by omega)
  unfold M_submit_b102 own_put
  have hi : 0 ≤ (t * 8 + p).toInt ∧ (t * 8 + p).toInt < 32 := by omega
  rw [if_pos hi, if_pos hi, if_pos hi, if_pos ⟨t0, t4⟩]
  by_cases h : f = 0
  · simp only [h, if_true]
  · simp only [h, if_false]
    rfl
/-- an operation with a good key on a queue that isn't full, the key not in the table -/
theorem own_sub {NF : Nat} (hF : 256 < NF) {σ : St} {op k v iq : Int32} (hE : ∀ i, 0 ≤ i → i < 256 → gA σ 1 i = -1) (ho : op = 1 ∨ op = 2 ∨ op = 3) (h0 : ¬ k < 0) (h1 : k < 1024) (p0 : 0 ≤ (gA σ 8 (k &&& 3).toInt).toInt) (p8 : (gA σ 8 (k &&& 3).toInt).toInt < 8) (hq : M_insertQueued NF σ k = some (iq, σ)) (hr : gI σ 140 < gI σ 135) :
    M_submit NF σ op k v = some (gA σ 8 (k &&& 3).toInt, own_put σ op k v (k &&& 3) (gA σ 8 (k &&& 3).toInt) (if op = 1 ∧ iq = 0 then 1 else 0)) := by
  have ht := c_mask k 3 2 (by decide) (by decide)
  simp only [Nat.reducePow] at ht
  have e8 : (8 : Int32).toInt = 8 := rfl
  have z10 : ¬ (1 : Int32) = 0 := by decide
  have hb : M_submit NF σ op k v = M_submit_b17 NF op k v σ := by
    unfold M_submit
    rcases ho with rfl | rfl | rfl <;> simp +decide only [if_true, if_false]
  rw [hb]
  unfold M_submit_b17
  rw [if_neg h0, if_pos h1, if_pos (by omega), if_pos (by rw [lt_i]; omega)]
  by_cases a : op = 1
  · rw [if_pos a, own_find hF hE k]
    simp only [Option.bind_some]
    rw [if_pos (by decide), hq]
    simp only [Option.bind_some]
    by_cases b : iq = 0
    · rw [if_pos b, if_pos ⟨a, b⟩]
      unfold M_submit_b81
      rw [if_neg z10, if_pos hr]
      exact own_b102 σ (by omega) (by omega) p0 p8
    · rw [if_neg b, if_neg (fun q => b q.2)]
      unfold M_submit_b80 M_submit_b81
      rw [if_pos rfl]
      exact own_b102 σ (by omega) (by omega) p0 p8
  · rw [if_neg a, if_neg (fun q => a q.1)]
    unfold M_submit_b80 M_submit_b81
    rw [if_pos rfl]
    exact own_b102 σ (by omega) (by omega) p0 p8
theorem own_nosub {NF : Nat} {σ : St} {op k v : Int32} (ho : op = 1 ∨ op = 2 ∨ op = 3) (h : k < 0 ∨ ¬ k < 1024) : M_submit NF σ op k v = some (-2, σ) := by
  have hb : M_submit NF σ op k v = M_submit_b17 NF op k v σ := by
    unfold M_submit
    rcases ho with rfl | rfl | rfl <;> simp +decide only [if_true, if_false]
  rw [hb]
  unfold M_submit_b17
  rcases h with h | h
  · rw [if_pos h]
  · by_cases g : k < 0
    · rw [if_pos g]
    · rw [if_neg g, if_neg h]
theorem own_noop {NF : Nat} {σ : St} {op k v : Int32} (h1 : ¬ op = 1) (h2 : ¬ op = 2) (h3 : ¬ op = 3) : M_submit NF σ op k v = some (-1, σ) := by
  unfold M_submit
  rw [if_neg h1, if_neg h2, if_neg h3]
theorem own_pend {σ : St} (k : Int32) : M_pending σ (k &&& 3) = some (gA σ 8 (k &&& 3).toInt, σ) := by
  have ht := c_mask k 3 2 (by decide) (by decide)
  simp only [Nat.reducePow] at ht
  have e4 : (4 : Int32).toInt = 4 := rfl
  have e0 : (0 : Int32).toInt = 0 := rfl
  unfold M_pending M_validThread
  rw [if_neg (by rw [lt_i]; omega), if_pos (by rw [lt_i]; omega)]
  simp only [Option.bind_some]
  rw [if_neg (by decide), if_pos (by omega)]
theorem own_gk (k : Int32) : ((k < 0 ∨ ¬ k < 1024) ∧ (k < 0 ∨ (1023 : Int32) < k)) ∨ (¬ k < 0 ∧ k < 1024 ∧ ¬ (1023 : Int32) < k) := by
  have e0 : (0 : Int32).toInt = 0 := rfl
  have e1 : (1023 : Int32).toInt = 1023 := rfl
  have e2 : (1024 : Int32).toInt = 1024 := rfl
  simp only [lt_i, e0, e1, e2]
  omega
/-- what is seen of a state -/
def own_Sees (σ : St) (ec : Int32) : Prop := (∀ i, 0 ≤ i → i < 256 → gA σ 1 i = -1) ∧ gI σ 135 = ec ∧ gI σ 139 = 0
theorem own_Sees.tab {σ : St} {ec : Int32} (h : own_Sees σ ec) : ∀ i, 0 ≤ i → i < 256 → gA σ 1 i = -1 := h.1
theorem own_Sees.cap {σ : St} {ec : Int32} (h : own_Sees σ ec) : gI σ 135 = ec := h.2.1
theorem own_Sees.siz {σ : St} {ec : Int32} (h : own_Sees σ ec) : gI σ 139 = 0 := h.2.2
theorem own_Sees.put {σ : St} {ec op k v t p f : Int32} (h : own_Sees σ ec) : own_Sees (own_put σ op k v t p f) ec := by
  unfold own_put
  by_cases g : f = 0
  · simp only [g, if_true]
    exact ⟨fun i a b => by simp +decide only [gA_sA, false_and, if_false]; exact h.tab i a b, h.cap, h.siz⟩
  · simp only [g, if_false]
    exact ⟨fun i a b => by simp +decide only [gA_sA, gA_sI, false_and, if_false]; exact h.tab i a b, h.cap, h.siz⟩
theorem own_put8 {σ : St} {op k v t p f : Int32} (i : Int) : gA (own_put σ op k v t p f) 8 i = if i = t.toInt then p + 1 else gA σ 8 i := by
  unfold own_put
  by_cases g : f = 0
  · simp +decide only [g, if_true, gA_sA, false_and, if_false, true_and]
  · simp +decide only [g, if_false, gA_sA, gA_sI, false_and, if_false, true_and]
theorem own_put140 {σ : St} {op k v t p f : Int32} : gI (own_put σ op k v t p f) 140 = if f = 0 then gI σ 140 else gI σ 140 + 1 := by
  unfold own_put
  by_cases g : f = 0
  · simp only [g, if_true]; rfl
  · simp only [g, if_false]; rfl
theorem own_put5 {σ : St} {op k v t p f : Int32} : gA (own_put σ op k v t p f) 5 (t * 8 + p).toInt = op ∧ gA (own_put σ op k v t p f) 6 (t * 8 + p).toInt = k := by
  unfold own_put
  by_cases g : f = 0
  · simp +decide only [g, if_true, gA_sA, false_and, if_false, true_and]
  · simp +decide only [g, if_false, gA_sA, gA_sI, false_and, if_false, true_and, if_true]
theorem own_eqT {a b : Int32} : a.toInt = b.toInt ↔ a = b := ⟨fun h => Int32.toInt_inj.mp h, fun h => by rw [h]⟩
theorem own_law {NF : Nat} (hF : 256 < NF) {σ : St} {ec : Int32} (op k v k2 : Int32) (h : own_Sees σ ec) (hc : 2 ≤ ec.toInt) (h8 : ∀ i, gA σ 8 i = 0) (hr : gI σ 140 = 0) (go : Int32) (hgo : (go = 1 ∧ (op = 1 ∨ op = 2 ∨ op = 3)) ∨ (go = 0 ∧ ¬ op = 1 ∧ ¬ op = 2 ∧ ¬ op = 3)) :
    ∃ W, ((M_submit NF σ op k v).bind fun q16 => ((M_submit NF q16.2 (1 : Int32) k2 v).bind fun q27 => ((M_pending q27.2 (k &&& (3 : Int32))).bind fun q47 => ((M_pending q47.2 (k2 &&& (3 : Int32))).bind fun q56 => ((M_reserved q56.2).bind fun q63 => ((M_size q63.2).bind fun q70 => LAW_b95 NF op k k2 q16.1 q27.1 (k &&& (3 : Int32)) (k2 &&& (3 : Int32)) q47.1 q56.1 q63.1 q70.1 go q70.2)))))) = some (1, W) := by
  have e0 : (0 : Int32).toInt = 0 := rfl
  have e1 : (1 : Int32).toInt = 1 := rfl
  have z10 : ¬ (1 : Int32) = 0 := by decide
  have one : (1 : Int32) = 1 ∨ (1 : Int32) = 2 ∨ (1 : Int32) = 3 := Or.inl rfl
  simp only [own_pend, M_reserved, M_size, Option.bind_some]
  -- the two keys, as the law asks them
  have b95 : ∀ r1 r2 t1 t2 p1 p2 rs sz x, LAW_b95 NF op k k2 r1 r2 t1 t2 p1 p2 rs sz go x = LAW_b113 NF op k k2 r1 r2 t1 t2 p1 p2 rs sz go (if k < 0 ∨ (1023 : Int32) < k then 0 else 1) x := by
    intro r1 r2 t1 t2 p1 p2 rs sz x
    unfold LAW_b95 LAW_b112
    by_cases a : k < 0 <;> by_cases b : (1023 : Int32) < k <;> simp only [a, b, if_true, if_false, or_true, true_or, or_self, false_or, or_false]
  have b113 : ∀ r1 r2 t1 t2 p1 p2 rs sz g x, LAW_b113 NF op k k2 r1 r2 t1 t2 p1 p2 rs sz go g x = LAW_b133 NF op k k2 r1 r2 t1 t2 p1 p2 rs sz go g (if k2 < 0 ∨ (1023 : Int32) < k2 then 0 else 1) x := by
    intro r1 r2 t1 t2 p1 p2 rs sz g x
    unfold LAW_b113 LAW_b132
    by_cases a : k2 < 0 <;> by_cases b : (1023 : Int32) < k2 <;> simp only [a, b, if_true, if_false, or_true, true_or, or_self, false_or, or_false]
  simp only [b95, b113]
  have G : ∀ (g : Int32) (x r1 : _), (go = 0 ∧ r1 = -1) ∨ (go = 1 ∧ g = 0 ∧ r1 = -2) → x = σ → ∃ W, ((M_submit NF x (1 : Int32) k2 v).bind fun q27 => LAW_b133 NF op k k2 r1 q27.1 (k &&& 3) (k2 &&& 3) (gA q27.2 8 (k &&& 3).toInt) (gA q27.2 8 (k2 &&& 3).toInt) (gI q27.2 140) (gI q27.2 139) go g (if k2 < 0 ∨ (1023 : Int32) < k2 then 0 else 1) q27.2) = some (1, W) := by
    intro g x r1 hg hx
    subst hx
    have hst : ∀ r2 p1 p2 rs sz f y, LAW_b133 NF op k k2 r1 r2 (k &&& 3) (k2 &&& 3) p1 p2 rs sz go g f y = LAW_b155 NF op k k2 r1 r2 (k &&& 3) (k2 &&& 3) p1 p2 rs sz f r1 y := by
      intro r2 p1 p2 rs sz f y
      unfold LAW_b133
      rcases hg with ⟨a, b⟩ | ⟨a, b, d⟩
      · simp only [a, b, if_true]
      · simp only [a, b, d, z10, if_true, if_false]
    have hr0 : ¬ r1 = 0 := by rcases hg with ⟨a, b⟩ | ⟨a, b, d⟩ <;> subst r1 <;> decide
    simp only [hst]
    unfold LAW_b155 LAW_b167 LAW_b199 LAW_b200 LAW_b212 LAW_b228 LAW_b229 LAW_b248 LAW_b249 LAW_b259 LAW_b276 LAW_b277 LAW_b287 LAW_b313 LAW_b314
    rcases own_gk k2 with ⟨q1, q2⟩ | ⟨q1, q2, q3⟩
    · rw [own_nosub one q1]
      simp +decide only [Option.bind_some, q2, hr0, h8, hr, h.siz, if_true, if_false]
      exact ⟨_, rfl⟩
    · rw [own_sub hF h.tab one q1 q2 (by rw [h8]; decide) (by rw [h8]; decide) (own_iq0 hF (h8 _)) (by rw [hr, h.cap, lt_i]; omega)]
      simp +decide only [Option.bind_some, q1, q3, hr0, own_put8, own_put140, own_eqT, h8, hr, h.put.siz, if_true, if_false, or_self, true_and, z10]
      by_cases tt : (k &&& 3) = (k2 &&& 3)
      · simp +decide only [tt, if_true, if_false]
        exact ⟨_, rfl⟩
      · have tt' : ¬ (k2 &&& 3) = (k &&& 3) := fun q => tt q.symm
        simp +decide only [tt, tt', if_true, if_false]
        exact ⟨_, rfl⟩
  rcases hgo with ⟨rfl, ho⟩ | ⟨rfl, o1, o2, o3⟩
  · rcases own_gk k with ⟨q1, q2⟩ | ⟨q1, q2, q3⟩
    · rw [own_nosub ho q1]
      simp only [Option.bind_some, q2, if_true]
      exact G _ _ _ (Or.inr ⟨rfl, rfl, rfl⟩) rfl
    · have c0 : gI σ 140 < gI σ 135 := by rw [hr, h.cap, lt_i]; omega
      rw [own_sub hF h.tab ho q1 q2 (by rw [h8]; decide) (by rw [h8]; decide) (own_iq0 hF (h8 _)) c0]
      rw [h8]
      simp only [Option.bind_some, q1, q3, or_self, if_false, and_true]
      have h' : own_Sees (own_put σ op k v (k &&& 3) 0 (if op = 1 then 1 else 0)) ec := h.put
      have p8 : ∀ i, gA (own_put σ op k v (k &&& 3) 0 (if op = 1 then 1 else 0)) 8 i = if i = (k &&& 3).toInt then 0 + 1 else 0 := fun i => by rw [own_put8, h8]
      have p140 : gI (own_put σ op k v (k &&& 3) 0 (if op = 1 then 1 else 0)) 140 = if op = 1 then 1 else 0 := by
        rw [own_put140, hr]
        by_cases a : op = 1 <;> simp +decide only [a, if_true, if_false]
      have p5 := own_put5 (σ := σ) (op := op) (k := k) (v := v) (t := k &&& 3) (p := 0) (f := if op = 1 then 1 else 0)
      generalize own_put σ op k v (k &&& 3) 0 (if op = 1 then 1 else 0) = σ1 at h' p8 p140 p5
      have c1 : gI σ1 140 < gI σ1 135 := by
        rw [p140, h'.cap, lt_i]
        by_cases a : op = 1 <;> simp only [a, if_true, if_false] <;> omega
      unfold LAW_b133 LAW_b155 LAW_b167 LAW_b199 LAW_b200 LAW_b212 LAW_b228 LAW_b229 LAW_b248 LAW_b249 LAW_b259 LAW_b276 LAW_b277 LAW_b287 LAW_b313 LAW_b314
      rcases own_gk k2 with ⟨r1, r2⟩ | ⟨r1, r2, r3⟩
      · rw [own_nosub one r1]
        by_cases a : op = 1 <;> by_cases tt : (k2 &&& 3) = (k &&& 3)
        · simp +decide only [Option.bind_some, r2, z10, p8, p140, h'.siz, own_eqT, a, tt, if_true, if_false]
          exact ⟨_, rfl⟩
        · have tt' : ¬ (k &&& 3) = (k2 &&& 3) := fun q => tt q.symm
          simp +decide only [Option.bind_some, r2, z10, p8, p140, h'.siz, own_eqT, a, tt, tt', if_true, if_false]
          exact ⟨_, rfl⟩
        · simp +decide only [Option.bind_some, r2, z10, p8, p140, h'.siz, own_eqT, a, tt, if_true, if_false]
          exact ⟨_, rfl⟩
        · have tt' : ¬ (k &&& 3) = (k2 &&& 3) := fun q => tt q.symm
          simp +decide only [Option.bind_some, r2, z10, p8, p140, h'.siz, own_eqT, a, tt, tt', if_true, if_false]
          exact ⟨_, rfl⟩
      · have p8' : gA σ1 8 (k2 &&& 3).toInt = if (k2 &&& 3) = (k &&& 3) then 0 + 1 else 0 := by simp only [p8, own_eqT]
        by_cases tt : (k2 &&& 3) = (k &&& 3)
        · rw [if_pos tt] at p8'
          have iq := own_iq1 (σ := σ1) (k := k2) (op := op) (k1 := k) hF (p8'.trans (by decide)) (by rw [tt]; exact p5.1) (by rw [tt]; exact p5.2)
          rw [own_sub hF h'.tab one r1 r2 (by rw [p8']; decide) (by rw [p8']; decide) iq c1]
          by_cases a : op = 1 <;> by_cases b : k = k2
          all_goals
            simp +decide only [Option.bind_some, r1, r3, z10, own_put8, own_put140, p8, p140, h'.put.siz, own_eqT, a, b, tt, if_true, if_false, and_self, and_true, true_and, and_false, false_and, or_self]
            exact ⟨_, rfl⟩
        · rw [if_neg tt] at p8'
          have tt' : ¬ (k &&& 3) = (k2 &&& 3) := fun q => tt q.symm
          have b : ¬ k = k2 := fun q => tt' (by rw [q])
          rw [own_sub hF h'.tab one r1 r2 (by rw [p8']; decide) (by rw [p8']; decide) (own_iq0 hF p8') c1]
          by_cases a : op = 1
          all_goals
            simp +decide only [Option.bind_some, r1, r3, z10, own_put8, own_put140, p8, p140, h'.put.siz, own_eqT, a, b, tt, tt', if_true, if_false, and_self, and_true, true_and, and_false, false_and, or_self]
            exact ⟨_, rfl⟩
  · rw [own_noop o1 o2 o3]
    simp only [Option.bind_some]
    exact G _ _ _ (Or.inl ⟨rfl, rfl⟩) rfl
theorem law_true (c op k v k2 : Int32) : ∃ NF W, LAW NF c op k v k2 = some (1, W) := by
  refine ⟨1025, ?_⟩
  generalize hNF : 1025 = NF
  have hF : 256 < NF := by omega
  unfold LAW LAW_b90
  rw [own_init hF]
  simp only [Option.bind_some]
  have hS : own_Sees (own_new c 4) (if c < 8 then 8 else if 64 < c then 64 else c) := by
    refine ⟨fun i q1 q2 => ?_, rfl, rfl⟩
    unfold own_new
    rw [gA_fill, if_neg (fun h => absurd h.1 (by decide)), gA_fill, if_pos ⟨rfl, q1, q2⟩]
  have hc : 2 ≤ (if c < 8 then 8 else if 64 < c then 64 else c).toInt := by
    split
    · decide
    · split
      · decide
      · rename_i a b; rw [lt_i] at a; have e : (8 : Int32).toInt = 8 := rfl; omega
  have h8 : ∀ i, gA (own_new c 4) 8 i = 0 := fun i => by
    unfold own_new
    rw [gA_fill, if_neg (fun h => absurd h.1 (by decide)), gA_fill, if_neg (fun h => absurd h.1 (by decide))]
    rfl
  have hr : gI (own_new c 4) 140 = 0 := rfl
  by_cases o1 : op = 1
  · simp only [o1, if_true]
    exact own_law hF _ _ _ _ hS hc h8 hr 1 (Or.inl ⟨rfl, Or.inl rfl⟩)
  by_cases o2 : op = 2
  · subst o2
    simp +decide only [if_true, if_false]
    exact own_law hF _ _ _ _ hS hc h8 hr 1 (Or.inl ⟨rfl, Or.inr (Or.inl rfl)⟩)
  by_cases o3 : op = 3
  · subst o3
    simp +decide only [if_true, if_false]
    exact own_law hF _ _ _ _ hS hc h8 hr 1 (Or.inl ⟨rfl, Or.inr (Or.inr rfl)⟩)
  · simp only [o1, o2, o3, if_false]
    exact own_law hF _ _ _ _ hS hc h8 hr 0 (Or.inr ⟨rfl, o1, o2, o3⟩)
set_option maxRecDepth 65536 in
set_option maxHeartbeats 40000000 in
theorem comes_1 {Post : Tables → Env → Array Value → State → Outcome → State → Prop} (hpost : ∀ tb e args s v u, (limb_1_1.after args s (.returned v) u = true ∧ limb_1_2.after args s (.returned v) u = true ∧ True) → FrameEnd s (.returned v) u (Jvm.fieldLocs frame_1_writes args s ++ Jvm.arrayLocs frame_1_arrays args s ++ Jvm.staticLocs frame_1_statics s) 72 3456 → Post tb e args s (.returned v) u) :
    Jvm.D.ArmFor flags0 classFile x code maxLocals ret World_1 tables_1 room_1 Calls_1 rest_1 Pre_1 Post := by
  intro l hfl _ _ p e ha hc hk s m args below hf hA hF happ hP
  obtain ⟨hcalls, hrest, hpre⟩ := hP
  obtain ⟨-, -, -, hnamed, -, -, -, hat⟩ := (Spec.applies_iff hf).mp happ
  obtain ⟨hg, hn⟩ := and_e (Cond.before_iff.mp (show (Jvm.Cond.and given_1 narrow_1).before args s = true from hpre))
  have hw : HW args s := fun d (hd : d ∈ tables_1) => atoms_spec (ws := Jvm.Cond.code x code maxLocals ret :: tables_1) hat d (List.mem_cons_of_mem _ hd)
  have hfit : Fit s := fun {y c} hc i hi => by
    obtain ⟨ha, rfl⟩ := Array.getElem?_eq_some_iff.mp hc
    have q := List.all_eq_true.mp ((Array.all_eq_true_iff_forall_mem.mp hF) _ (Array.getElem_mem ha)) i (List.mem_range.mpr hi)
    simpa [Array.getElem?_eq_getElem hi] using q
  obtain ⟨g0, h0⟩ := and_e hg
  obtain ⟨v0, v1, v2, v3, v4, rfl⟩ : ∃ v0 v1 v2 v3 v4 : Value, args = #[v0, v1, v2, v3, v4] := by
    have hs : args.size = 5 := by simpa [Cond.value, given_1] using g0
    obtain ⟨L⟩ := args
    match L, hs with
    | [v0, v1, v2, v3, v4], _ => exact ⟨v0, v1, v2, v3, v4, rfl⟩
  obtain ⟨k0, h1⟩ := and_e h0
  obtain ⟨i0, e0⟩ := is_v k0
  obtain rfl : v0 = (.int i0) := Option.some.inj e0
  obtain ⟨k1, h2⟩ := and_e h1
  obtain ⟨i1, e1⟩ := is_v k1
  obtain rfl : v1 = (.int i1) := Option.some.inj e1
  obtain ⟨k2, h3⟩ := and_e h2
  obtain ⟨i2, e2⟩ := is_v k2
  obtain rfl : v2 = (.int i2) := Option.some.inj e2
  obtain ⟨k3, h4⟩ := and_e h3
  obtain ⟨i3, e3⟩ := is_v k3
  obtain rfl : v3 = (.int i3) := Option.some.inj e3
  obtain ⟨i4, e4⟩ := is_v h4
  obtain rfl : v4 = (.int i4) := Option.some.inj e4
  obtain ⟨NF, W, hW⟩ := law_true i0 i1 i2 i3 i4
  obtain ⟨n, o, h1, h2, h3, w, L, rfl, ⟨rfl, N, -⟩, hq⟩ := con_LAW l s _ hw tables_1 0 s.heap hW p e ha hc hk s m _ below hf ((Spec.applies_iff_loose hf).mp happ).1 ⟨rfl, State.Warmed39.refl s, rfl⟩ trivial
  refine ⟨n, _, h1, h2, h3, hpost _ _ _ _ _ _ ⟨Cond.after_iff.mpr rfl, Cond.after_iff.mpr (eq_i res_at (Term.int_eval (1)) rfl), trivial⟩ ⟨hq.1, hq.2.1, (hq.2.2.sift fun y hy => Or.inr (N y hy)).mono (by decide) (by decide)⟩⟩
theorem main_1_1 : Claimed_1_1 := comes_1 fun _ _ _ _ _ _ h hF => ⟨h.1, hF⟩
theorem main_1_2 : Claimed_1_2 := comes_1 fun _ _ _ _ _ _ h hF => ⟨h.2.1, hF⟩
end Jvm.Pilot.@@N@@
namespace Jvm.Pilot.@@N@@
open Jvm Jvm.ClassFile Sem Op Lib Jvm.Free Jvm.Stand Jvm.Pilot.@@N@@.Jvm.D
/-! MADE BY PROGRAM (witnessworld.py) out of the Statement's table words and the real class files: 11 classes; the members and pool entries that the words name. The judged class is class 1, her method 1. -/
namespace start1
open Jvm.ClassFile
def u (s : String) : CpInfo := .utf8 (stringToUtf16 s)
/-- a pool by its gaps: so many unusable entries, then the entry; so many at the end -/
def gap : Nat → List CpInfo → List CpInfo
  | 0, r => r
  | n + 1, r => .unusable :: gap n r
def poolList (es : List (Nat × CpInfo)) (last : Nat) : List CpInfo := es.foldr (fun e r => gap e.1 (e.2 :: r)) (gap last [])
def pool (es : List (Nat × CpInfo)) (last : Nat) : Array CpInfo := ⟨poolList es last⟩
def fileOf (pool : Array CpInfo) (this : Nat) (attrs : Array Attribute := #[]) (ms : Array MethodInfo := #[]) (fl : Nat := 33) (sup : Nat := 0) (ifs : Array Nat := #[]) (fds : Array FieldInfo := #[]) : ClassFile where
  minorVersion := 0
  majorVersion := 65
  constantPool := pool
  accessFlags := fl
  thisClass := this
  superClass := sup
  interfaces := ifs
  fields := fds
  methods := ms
  attributes := attrs
def plain (name : String) (sup : Option ClassId) : Class where
  name := name
  kind := .ordinary
  loader := none
  accessFlags := 33
  super := sup
  interfaces := #[]
  cf := none
  fields := #[]
  methods := #[]
  instanceTypes := #[]
  staticTypes := #[]
  resolved := #[]
  callSites := []
  init := .initialized
  statics := none
  mirror := none

def pool0 : Array CpInfo := pool [(5, u "<init>"), (0, u "()V"), (1, .class_ 10), (1, u "java/lang/Object")] 113

def k0c0 : Code := { maxStack := 0, maxLocals := 1, code := object_method_1_code, exceptionTable := #[], attributes := #[] }
def k0m0 : Method := { name := "<init>", desc := "()V", sig := { parameters := [], returnType := none }, accessFlags := 1, code := some k0c0 }
/-- java/lang/Object -/
def k0 : Class := { plain "java/lang/Object" none with
  accessFlags := 33
  interfaces := #[]
  cf := some (fileOf pool0 8 #[] #[{ accessFlags := 1, nameIndex := 5, descriptorIndex := 6, attributes := #[] }] 33 0 #[] #[])
  fields := #[]
  methods := #[k0m0]
  instanceTypes := #[]
  staticTypes := #[]
  resolved := Array.replicate 124 none
  statics := none }

def pool1 : Array CpInfo := pool [(2, .class_ 4), (1, u "java/lang/Object"), (0, u "<init>"), (0, u "()V"), (0, .class_ 8), (0, u "OptiCuckoo"), (0, .methodref 7 10), (0, .nameAndType 5 11), (0, u "(II)V"), (0, .methodref 7 13), (0, .nameAndType 14 15), (0, u "submit"), (0, u "(III)I"), (0, .methodref 7 17), (0, .nameAndType 18 19), (0, u "pending"), (0, u "(I)I"), (0, .methodref 7 21), (0, .nameAndType 22 23), (0, u "reserved"), (0, u "()I"), (0, .methodref 7 25), (0, .nameAndType 26 23), (0, u "size"), (0, .class_ 28), (0, u "OptiCuckooL2"), (2, u "law"), (0, u "(IIIII)Z")] 3

def k1m0 : Method := { name := "<init>", desc := "()V", sig := { parameters := [], returnType := none }, accessFlags := 1, code := none }
def k1c1 : Code := { maxStack := 4, maxLocals := 24, code := code, exceptionTable := #[], attributes := #[] }
def k1m1 : Method := { name := "law", desc := "(IIIII)Z", sig := { parameters := [.int, .int, .int, .int, .int], returnType := some .boolean }, accessFlags := 9, code := some k1c1 }
/-- OptiCuckooL2 -/
def k1 : Class := { plain "OptiCuckooL2" (some 0) with
  accessFlags := 49
  interfaces := #[]
  cf := some (fileOf pool1 27 #[] #[{ accessFlags := 1, nameIndex := 5, descriptorIndex := 6, attributes := #[] }, { accessFlags := 9, nameIndex := 31, descriptorIndex := 32, attributes := #[] }] 49 2 #[] #[])
  fields := #[]
  methods := #[k1m0, k1m1]
  instanceTypes := #[]
  staticTypes := #[]
  resolved := Array.replicate 36 none
  statics := none }

def pool2 : Array CpInfo := pool [(1, .methodref 2 3), (0, .class_ 4), (0, .nameAndType 5 6), (0, u "java/lang/Object"), (0, u "<init>"), (0, u "()V"), (0, .fieldref 8 9), (0, .class_ 10), (0, .nameAndType 11 12), (0, u "OptiCuckoo"), (0, u "phDone"), (0, u "I"), (0, .fieldref 8 14), (0, .nameAndType 15 12), (0, u "phRead"), (0, .fieldref 8 17), (0, .nameAndType 18 12), (0, u "phSearch"), (0, .fieldref 8 20), (0, .nameAndType 21 12), (0, u "phLock"), (0, .fieldref 8 23), (0, .nameAndType 24 12), (0, u "phCheck"), (0, .fieldref 8 26), (0, .nameAndType 27 12), (0, u "phMove"), (0, .fieldref 8 29), (0, .nameAndType 30 12), (0, u "phPlace"), (0, .fieldref 8 32), (0, .nameAndType 33 12), (0, u "phClear"), (0, .fieldref 8 35), (0, .nameAndType 36 12), (0, u "phUnlock"), (0, .fieldref 8 38), (0, .nameAndType 39 12), (0, u "maxStripes"), (0, .fieldref 8 41), (0, .nameAndType 42 12), (0, u "tableSlots"), (0, .fieldref 8 44), (0, .nameAndType 45 12), (0, u "pathMax"), (0, .fieldref 8 47), (0, .nameAndType 48 12), (0, u "readSteps"), (0, .integer 200000), (0, .fieldref 8 51), (0, .nameAndType 52 12), (0, u "stepBudget"), (0, .fieldref 8 54), (0, .nameAndType 55 12), (0, u "empty"), (0, .fieldref 8 57), (0, .nameAndType 58 12), (0, u "nobody"), (0, .fieldref 8 60), (0, .nameAndType 61 62), (0, u "slotKey"), (0, u "[I"), (0, .fieldref 8 64), (0, .nameAndType 65 62), (0, u "slotVal"), (0, .fieldref 8 67), (0, .nameAndType 68 62), (0, u "version"), (0, .fieldref 8 70), (0, .nameAndType 71 62), (0, u "owner"), (0, .fieldref 8 73), (0, .nameAndType 74 62), (0, u "qOp"), (0, .fieldref 8 76), (0, .nameAndType 77 62), (0, u "qKey"), (0, .fieldref 8 79), (0, .nameAndType 80 62), (0, u "qVal"), (0, .fieldref 8 82), (0, .nameAndType 83 62), (0, u "qLen"), (0, .fieldref 8 85), (0, .nameAndType 86 62), (0, u "resKey"), (0, .fieldref 8 88), (0, .nameAndType 89 62), (0, u "resStatus"), (0, .fieldref 8 91), (0, .nameAndType 92 62), (0, u "resVal"), (0, .fieldref 8 94), (0, .nameAndType 95 62), (0, u "resCount"), (0, .fieldref 8 97), (0, .nameAndType 98 62), (0, u "phase"), (0, .fieldref 8 100), (0, .nameAndType 101 62), (0, u "opIdx"), (0, .fieldref 8 103), (0, .nameAndType 104 62), (0, u "cursor"), (0, .fieldref 8 106), (0, .nameAndType 107 62), (0, u "lockMask"), (0, .fieldref 8 109), (0, .nameAndType 110 62), (0, u "heldMask"), (0, .fieldref 8 112), (0, .nameAndType 113 114), (0, u "retry"), (0, u "[Z"), (0, .fieldref 8 116), (0, .nameAndType 117 114), (0, u "effectDone"), (0, .fieldref 8 119), (0, .nameAndType 120 114), (0, u "seen"), (0, .fieldref 8 122), (0, .nameAndType 123 62), (0, u "seenVal"), (0, .fieldref 8 125), (0, .nameAndType 126 62), (0, u "firstVer"), (0, .fieldref 8 128), (0, .nameAndType 129 62), (0, u "moveIdx"), (0, .fieldref 8 131), (0, .nameAndType 132 62), (0, u "pathLen"), (0, .fieldref 8 134), (0, .nameAndType 135 62), (0, u "pathBucket"), (0, .fieldref 8 137), (0, .nameAndType 138 62), (0, u "pathSlot"), (0, .fieldref 8 140), (0, .nameAndType 141 62), (0, u "bfsQueue"), (0, .fieldref 8 143), (0, .nameAndType 144 62), (0, u "bfsParent"), (0, .fieldref 8 146), (0, .nameAndType 147 62), (0, u "bfsParentSlot"), (0, .fieldref 8 149), (0, .nameAndType 150 114), (0, u "bfsSeen"), (0, .fieldref 8 152), (0, .nameAndType 153 62), (0, u "chain"), (0, .methodref 8 155), (0, .nameAndType 156 157), (0, u "clamp"), (0, u "(III)I"), (0, .fieldref 8 159), (0, .nameAndType 160 12), (0, u "cap"), (0, .fieldref 8 162), (0, .nameAndType 163 12), (0, u "stripeCount"), (0, .methodref 8 165), (0, .nameAndType 166 167), (0, u "findSlot"), (0, u "(I)I"), (0, .methodref 8 169), (0, .nameAndType 170 171), (0, u "insertQueued"), (0, u "(I)Z"), (0, .fieldref 8 173), (0, .nameAndType 174 12), (0, u "reservedCount"), (0, .methodref 8 176), (0, .nameAndType 177 171), (0, u "validThread"), (3, u "()I"), (16, .fieldref 8 199), (0, .nameAndType 200 12), (0, u "sizeCount"), (0, .methodref 8 202), (0, .nameAndType 203 167), (0, u "bucket1"), (0, .methodref 8 205), (0, .nameAndType 206 167), (0, u "bucket2"), (6, .methodref 8 214), (0, .nameAndType 215 216), (0, u "slotIndex"), (0, u "(II)I"), (71, u "(II)V"), (45, u "bfsTail"), (9, u "THREADS"), (2, u "QUEUE_DEPTH"), (1, u "KEY_LIMIT"), (1, u "BUCKETS"), (1, u "SLOTS"), (0, u "OP_INSERT"), (1, u "OP_REMOVE"), (1, u "OP_LOOKUP"), (1, u "ERR_BAD_OP"), (1, u "ERR_BAD_KEY"), (1, u "ERR_QUEUE_FULL"), (1, u "ERR_FULL"), (1, u "R_NONE"), (1, u "R_INSERTED"), (0, u "R_UPDATED"), (0, u "R_REMOVED"), (0, u "R_ABSENT"), (0, u "R_FOUND"), (11, u "submit"), (0, u "pending"), (7, u "size"), (0, u "reserved")] 4

def k2c0 : Code := { maxStack := 5, maxLocals := 4, code := prog_1_method_1_code, exceptionTable := #[], attributes := #[] }
def k2m0 : Method := { name := "<init>", desc := "(II)V", sig := { parameters := [.int, .int], returnType := none }, accessFlags := 1, code := some k2c0 }
def k2c1 : Code := { maxStack := 4, maxLocals := 8, code := prog_1_method_4_code, exceptionTable := #[], attributes := #[] }
def k2m1 : Method := { name := "submit", desc := "(III)I", sig := { parameters := [.int, .int, .int], returnType := some .int }, accessFlags := 1, code := some k2c1 }
def k2c2 : Code := { maxStack := 2, maxLocals := 2, code := prog_1_method_5_code, exceptionTable := #[], attributes := #[] }
def k2m2 : Method := { name := "pending", desc := "(I)I", sig := { parameters := [.int], returnType := some .int }, accessFlags := 1, code := some k2c2 }
def k2c3 : Code := { maxStack := 1, maxLocals := 1, code := prog_1_method_13_code, exceptionTable := #[], attributes := #[] }
def k2m3 : Method := { name := "size", desc := "()I", sig := { parameters := [], returnType := some .int }, accessFlags := 1, code := some k2c3 }
def k2c4 : Code := { maxStack := 1, maxLocals := 1, code := prog_1_method_14_code, exceptionTable := #[], attributes := #[] }
def k2m4 : Method := { name := "reserved", desc := "()I", sig := { parameters := [], returnType := some .int }, accessFlags := 1, code := some k2c4 }
def k2c5 : Code := { maxStack := 2, maxLocals := 4, code := prog_1_method_16_code, exceptionTable := #[], attributes := #[] }
def k2m5 : Method := { name := "clamp", desc := "(III)I", sig := { parameters := [.int, .int, .int], returnType := some .int }, accessFlags := 2, code := some k2c5 }
def k2c6 : Code := { maxStack := 2, maxLocals := 2, code := prog_1_method_17_code, exceptionTable := #[], attributes := #[] }
def k2m6 : Method := { name := "validThread", desc := "(I)Z", sig := { parameters := [.int], returnType := some .boolean }, accessFlags := 2, code := some k2c6 }
def k2c7 : Code := { maxStack := 3, maxLocals := 5, code := prog_1_method_19_code, exceptionTable := #[], attributes := #[] }
def k2m7 : Method := { name := "insertQueued", desc := "(I)Z", sig := { parameters := [.int], returnType := some .boolean }, accessFlags := 2, code := some k2c7 }
def k2c8 : Code := { maxStack := 2, maxLocals := 2, code := prog_1_method_21_code, exceptionTable := #[], attributes := #[] }
def k2m8 : Method := { name := "bucket1", desc := "(I)I", sig := { parameters := [.int], returnType := some .int }, accessFlags := 2, code := some k2c8 }
def k2c9 : Code := { maxStack := 5, maxLocals := 2, code := prog_1_method_22_code, exceptionTable := #[], attributes := #[] }
def k2m9 : Method := { name := "bucket2", desc := "(I)I", sig := { parameters := [.int], returnType := some .int }, accessFlags := 2, code := some k2c9 }
def k2c10 : Code := { maxStack := 3, maxLocals := 3, code := prog_1_method_24_code, exceptionTable := #[], attributes := #[] }
def k2m10 : Method := { name := "slotIndex", desc := "(II)I", sig := { parameters := [.int, .int], returnType := some .int }, accessFlags := 2, code := some k2c10 }
def k2c11 : Code := { maxStack := 3, maxLocals := 7, code := prog_1_method_28_code, exceptionTable := #[], attributes := #[] }
def k2m11 : Method := { name := "findSlot", desc := "(I)I", sig := { parameters := [.int], returnType := some .int }, accessFlags := 2, code := some k2c11 }
/-- OptiCuckoo -/
def k2 : Class := { plain "OptiCuckoo" (some 0) with
  accessFlags := 49
  interfaces := #[]
  cf := some (fileOf pool2 8 #[] #[{ accessFlags := 1, nameIndex := 5, descriptorIndex := 288, attributes := #[] }, { accessFlags := 1, nameIndex := 386, descriptorIndex := 157, attributes := #[] }, { accessFlags := 1, nameIndex := 387, descriptorIndex := 167, attributes := #[] }, { accessFlags := 1, nameIndex := 395, descriptorIndex := 181, attributes := #[] }, { accessFlags := 1, nameIndex := 396, descriptorIndex := 181, attributes := #[] }, { accessFlags := 2, nameIndex := 156, descriptorIndex := 157, attributes := #[] }, { accessFlags := 2, nameIndex := 177, descriptorIndex := 171, attributes := #[] }, { accessFlags := 2, nameIndex := 170, descriptorIndex := 171, attributes := #[] }, { accessFlags := 2, nameIndex := 203, descriptorIndex := 167, attributes := #[] }, { accessFlags := 2, nameIndex := 206, descriptorIndex := 167, attributes := #[] }, { accessFlags := 2, nameIndex := 215, descriptorIndex := 216, attributes := #[] }, { accessFlags := 2, nameIndex := 166, descriptorIndex := 167, attributes := #[] }] 49 2 #[] #[{ accessFlags := 25, nameIndex := 344, descriptorIndex := 12, attributes := #[] }, { accessFlags := 25, nameIndex := 347, descriptorIndex := 12, attributes := #[] }, { accessFlags := 25, nameIndex := 349, descriptorIndex := 12, attributes := #[] }, { accessFlags := 25, nameIndex := 351, descriptorIndex := 12, attributes := #[] }, { accessFlags := 25, nameIndex := 353, descriptorIndex := 12, attributes := #[] }, { accessFlags := 25, nameIndex := 354, descriptorIndex := 12, attributes := #[] }, { accessFlags := 25, nameIndex := 356, descriptorIndex := 12, attributes := #[] }, { accessFlags := 25, nameIndex := 358, descriptorIndex := 12, attributes := #[] }, { accessFlags := 25, nameIndex := 360, descriptorIndex := 12, attributes := #[] }, { accessFlags := 25, nameIndex := 362, descriptorIndex := 12, attributes := #[] }, { accessFlags := 25, nameIndex := 364, descriptorIndex := 12, attributes := #[] }, { accessFlags := 25, nameIndex := 366, descriptorIndex := 12, attributes := #[] }, { accessFlags := 25, nameIndex := 368, descriptorIndex := 12, attributes := #[] }, { accessFlags := 25, nameIndex := 370, descriptorIndex := 12, attributes := #[] }, { accessFlags := 25, nameIndex := 371, descriptorIndex := 12, attributes := #[] }, { accessFlags := 25, nameIndex := 372, descriptorIndex := 12, attributes := #[] }, { accessFlags := 25, nameIndex := 373, descriptorIndex := 12, attributes := #[] }, { accessFlags := 25, nameIndex := 374, descriptorIndex := 12, attributes := #[] }, { accessFlags := 18, nameIndex := 11, descriptorIndex := 12, attributes := #[] }, { accessFlags := 18, nameIndex := 15, descriptorIndex := 12, attributes := #[] }, { accessFlags := 18, nameIndex := 18, descriptorIndex := 12, attributes := #[] }, { accessFlags := 18, nameIndex := 21, descriptorIndex := 12, attributes := #[] }, { accessFlags := 18, nameIndex := 24, descriptorIndex := 12, attributes := #[] }, { accessFlags := 18, nameIndex := 27, descriptorIndex := 12, attributes := #[] }, { accessFlags := 18, nameIndex := 30, descriptorIndex := 12, attributes := #[] }, { accessFlags := 18, nameIndex := 33, descriptorIndex := 12, attributes := #[] }, { accessFlags := 18, nameIndex := 36, descriptorIndex := 12, attributes := #[] }, { accessFlags := 18, nameIndex := 39, descriptorIndex := 12, attributes := #[] }, { accessFlags := 18, nameIndex := 42, descriptorIndex := 12, attributes := #[] }, { accessFlags := 18, nameIndex := 45, descriptorIndex := 12, attributes := #[] }, { accessFlags := 18, nameIndex := 48, descriptorIndex := 12, attributes := #[] }, { accessFlags := 18, nameIndex := 52, descriptorIndex := 12, attributes := #[] }, { accessFlags := 18, nameIndex := 55, descriptorIndex := 12, attributes := #[] }, { accessFlags := 18, nameIndex := 58, descriptorIndex := 12, attributes := #[] }, { accessFlags := 2, nameIndex := 160, descriptorIndex := 12, attributes := #[] }, { accessFlags := 2, nameIndex := 163, descriptorIndex := 12, attributes := #[] }, { accessFlags := 18, nameIndex := 61, descriptorIndex := 62, attributes := #[] }, { accessFlags := 18, nameIndex := 65, descriptorIndex := 62, attributes := #[] }, { accessFlags := 2, nameIndex := 200, descriptorIndex := 12, attributes := #[] }, { accessFlags := 2, nameIndex := 174, descriptorIndex := 12, attributes := #[] }, { accessFlags := 18, nameIndex := 68, descriptorIndex := 62, attributes := #[] }, { accessFlags := 18, nameIndex := 71, descriptorIndex := 62, attributes := #[] }, { accessFlags := 18, nameIndex := 74, descriptorIndex := 62, attributes := #[] }, { accessFlags := 18, nameIndex := 77, descriptorIndex := 62, attributes := #[] }, { accessFlags := 18, nameIndex := 80, descriptorIndex := 62, attributes := #[] }, { accessFlags := 18, nameIndex := 83, descriptorIndex := 62, attributes := #[] }, { accessFlags := 18, nameIndex := 86, descriptorIndex := 62, attributes := #[] }, { accessFlags := 18, nameIndex := 89, descriptorIndex := 62, attributes := #[] }, { accessFlags := 18, nameIndex := 92, descriptorIndex := 62, attributes := #[] }, { accessFlags := 18, nameIndex := 95, descriptorIndex := 62, attributes := #[] }, { accessFlags := 18, nameIndex := 98, descriptorIndex := 62, attributes := #[] }, { accessFlags := 18, nameIndex := 101, descriptorIndex := 62, attributes := #[] }, { accessFlags := 18, nameIndex := 104, descriptorIndex := 62, attributes := #[] }, { accessFlags := 18, nameIndex := 107, descriptorIndex := 62, attributes := #[] }, { accessFlags := 18, nameIndex := 110, descriptorIndex := 62, attributes := #[] }, { accessFlags := 18, nameIndex := 113, descriptorIndex := 114, attributes := #[] }, { accessFlags := 18, nameIndex := 117, descriptorIndex := 114, attributes := #[] }, { accessFlags := 18, nameIndex := 120, descriptorIndex := 114, attributes := #[] }, { accessFlags := 18, nameIndex := 123, descriptorIndex := 62, attributes := #[] }, { accessFlags := 18, nameIndex := 126, descriptorIndex := 62, attributes := #[] }, { accessFlags := 18, nameIndex := 129, descriptorIndex := 62, attributes := #[] }, { accessFlags := 18, nameIndex := 132, descriptorIndex := 62, attributes := #[] }, { accessFlags := 18, nameIndex := 135, descriptorIndex := 62, attributes := #[] }, { accessFlags := 18, nameIndex := 138, descriptorIndex := 62, attributes := #[] }, { accessFlags := 18, nameIndex := 141, descriptorIndex := 62, attributes := #[] }, { accessFlags := 18, nameIndex := 144, descriptorIndex := 62, attributes := #[] }, { accessFlags := 18, nameIndex := 147, descriptorIndex := 62, attributes := #[] }, { accessFlags := 18, nameIndex := 150, descriptorIndex := 114, attributes := #[] }, { accessFlags := 18, nameIndex := 153, descriptorIndex := 62, attributes := #[] }, { accessFlags := 2, nameIndex := 334, descriptorIndex := 12, attributes := #[] }])
  fields := #[{ name := "THREADS", type := .int, accessFlags := 25, slot := 0, constantValue := 0 }, { name := "QUEUE_DEPTH", type := .int, accessFlags := 25, slot := 1, constantValue := 0 }, { name := "KEY_LIMIT", type := .int, accessFlags := 25, slot := 2, constantValue := 0 }, { name := "BUCKETS", type := .int, accessFlags := 25, slot := 3, constantValue := 0 }, { name := "SLOTS", type := .int, accessFlags := 25, slot := 4, constantValue := 0 }, { name := "OP_INSERT", type := .int, accessFlags := 25, slot := 5, constantValue := 0 }, { name := "OP_REMOVE", type := .int, accessFlags := 25, slot := 6, constantValue := 0 }, { name := "OP_LOOKUP", type := .int, accessFlags := 25, slot := 7, constantValue := 0 }, { name := "ERR_BAD_OP", type := .int, accessFlags := 25, slot := 8, constantValue := 0 }, { name := "ERR_BAD_KEY", type := .int, accessFlags := 25, slot := 9, constantValue := 0 }, { name := "ERR_QUEUE_FULL", type := .int, accessFlags := 25, slot := 10, constantValue := 0 }, { name := "ERR_FULL", type := .int, accessFlags := 25, slot := 11, constantValue := 0 }, { name := "R_NONE", type := .int, accessFlags := 25, slot := 12, constantValue := 0 }, { name := "R_INSERTED", type := .int, accessFlags := 25, slot := 13, constantValue := 0 }, { name := "R_UPDATED", type := .int, accessFlags := 25, slot := 14, constantValue := 0 }, { name := "R_REMOVED", type := .int, accessFlags := 25, slot := 15, constantValue := 0 }, { name := "R_ABSENT", type := .int, accessFlags := 25, slot := 16, constantValue := 0 }, { name := "R_FOUND", type := .int, accessFlags := 25, slot := 17, constantValue := 0 }, { name := "phDone", type := .int, accessFlags := 18, slot := 0, constantValue := 0 }, { name := "phRead", type := .int, accessFlags := 18, slot := 1, constantValue := 0 }, { name := "phSearch", type := .int, accessFlags := 18, slot := 2, constantValue := 0 }, { name := "phLock", type := .int, accessFlags := 18, slot := 3, constantValue := 0 }, { name := "phCheck", type := .int, accessFlags := 18, slot := 4, constantValue := 0 }, { name := "phMove", type := .int, accessFlags := 18, slot := 5, constantValue := 0 }, { name := "phPlace", type := .int, accessFlags := 18, slot := 6, constantValue := 0 }, { name := "phClear", type := .int, accessFlags := 18, slot := 7, constantValue := 0 }, { name := "phUnlock", type := .int, accessFlags := 18, slot := 8, constantValue := 0 }, { name := "maxStripes", type := .int, accessFlags := 18, slot := 9, constantValue := 0 }, { name := "tableSlots", type := .int, accessFlags := 18, slot := 10, constantValue := 0 }, { name := "pathMax", type := .int, accessFlags := 18, slot := 11, constantValue := 0 }, { name := "readSteps", type := .int, accessFlags := 18, slot := 12, constantValue := 0 }, { name := "stepBudget", type := .int, accessFlags := 18, slot := 13, constantValue := 0 }, { name := "empty", type := .int, accessFlags := 18, slot := 14, constantValue := 0 }, { name := "nobody", type := .int, accessFlags := 18, slot := 15, constantValue := 0 }, { name := "cap", type := .int, accessFlags := 2, slot := 16, constantValue := 0 }, { name := "stripeCount", type := .int, accessFlags := 2, slot := 17, constantValue := 0 }, { name := "slotKey", type := (.array .int), accessFlags := 18, slot := 18, constantValue := 0 }, { name := "slotVal", type := (.array .int), accessFlags := 18, slot := 19, constantValue := 0 }, { name := "sizeCount", type := .int, accessFlags := 2, slot := 20, constantValue := 0 }, { name := "reservedCount", type := .int, accessFlags := 2, slot := 21, constantValue := 0 }, { name := "version", type := (.array .int), accessFlags := 18, slot := 22, constantValue := 0 }, { name := "owner", type := (.array .int), accessFlags := 18, slot := 23, constantValue := 0 }, { name := "qOp", type := (.array .int), accessFlags := 18, slot := 24, constantValue := 0 }, { name := "qKey", type := (.array .int), accessFlags := 18, slot := 25, constantValue := 0 }, { name := "qVal", type := (.array .int), accessFlags := 18, slot := 26, constantValue := 0 }, { name := "qLen", type := (.array .int), accessFlags := 18, slot := 27, constantValue := 0 }, { name := "resKey", type := (.array .int), accessFlags := 18, slot := 28, constantValue := 0 }, { name := "resStatus", type := (.array .int), accessFlags := 18, slot := 29, constantValue := 0 }, { name := "resVal", type := (.array .int), accessFlags := 18, slot := 30, constantValue := 0 }, { name := "resCount", type := (.array .int), accessFlags := 18, slot := 31, constantValue := 0 }, { name := "phase", type := (.array .int), accessFlags := 18, slot := 32, constantValue := 0 }, { name := "opIdx", type := (.array .int), accessFlags := 18, slot := 33, constantValue := 0 }, { name := "cursor", type := (.array .int), accessFlags := 18, slot := 34, constantValue := 0 }, { name := "lockMask", type := (.array .int), accessFlags := 18, slot := 35, constantValue := 0 }, { name := "heldMask", type := (.array .int), accessFlags := 18, slot := 36, constantValue := 0 }, { name := "retry", type := (.array .boolean), accessFlags := 18, slot := 37, constantValue := 0 }, { name := "effectDone", type := (.array .boolean), accessFlags := 18, slot := 38, constantValue := 0 }, { name := "seen", type := (.array .boolean), accessFlags := 18, slot := 39, constantValue := 0 }, { name := "seenVal", type := (.array .int), accessFlags := 18, slot := 40, constantValue := 0 }, { name := "firstVer", type := (.array .int), accessFlags := 18, slot := 41, constantValue := 0 }, { name := "moveIdx", type := (.array .int), accessFlags := 18, slot := 42, constantValue := 0 }, { name := "pathLen", type := (.array .int), accessFlags := 18, slot := 43, constantValue := 0 }, { name := "pathBucket", type := (.array .int), accessFlags := 18, slot := 44, constantValue := 0 }, { name := "pathSlot", type := (.array .int), accessFlags := 18, slot := 45, constantValue := 0 }, { name := "bfsQueue", type := (.array .int), accessFlags := 18, slot := 46, constantValue := 0 }, { name := "bfsParent", type := (.array .int), accessFlags := 18, slot := 47, constantValue := 0 }, { name := "bfsParentSlot", type := (.array .int), accessFlags := 18, slot := 48, constantValue := 0 }, { name := "bfsSeen", type := (.array .boolean), accessFlags := 18, slot := 49, constantValue := 0 }, { name := "chain", type := (.array .int), accessFlags := 18, slot := 50, constantValue := 0 }, { name := "bfsTail", type := .int, accessFlags := 2, slot := 51, constantValue := 0 }]
  methods := #[k2m0, k2m1, k2m2, k2m3, k2m4, k2m5, k2m6, k2m7, k2m8, k2m9, k2m10, k2m11]
  instanceTypes := #[.int, .int, .int, .int, .int, .int, .int, .int, .int, .int, .int, .int, .int, .int, .int, .int, .int, .int, (.array .int), (.array .int), .int, .int, (.array .int), (.array .int), (.array .int), (.array .int), (.array .int), (.array .int), (.array .int), (.array .int), (.array .int), (.array .int), (.array .int), (.array .int), (.array .int), (.array .int), (.array .int), (.array .boolean), (.array .boolean), (.array .boolean), (.array .int), (.array .int), (.array .int), (.array .int), (.array .int), (.array .int), (.array .int), (.array .int), (.array .int), (.array .boolean), (.array .int), .int]
  staticTypes := #[.int, .int, .int, .int, .int, .int, .int, .int, .int, .int, .int, .int, .int, .int, .int, .int, .int, .int]
  resolved := Array.replicate 401 none
  statics := none }

def pool3 : Array CpInfo := pool [(1, u "java/lang/Cloneable"), (0, .class_ 1), (0, u "java/lang/Object"), (0, .class_ 3)] 3

/-- java/lang/Cloneable -/
def k3 : Class := { plain "java/lang/Cloneable" (some 0) with
  accessFlags := 1537
  interfaces := #[]
  cf := some (fileOf pool3 2 #[] #[] 1537 4 #[] #[])
  fields := #[]
  methods := #[]
  instanceTypes := #[]
  staticTypes := #[]
  resolved := Array.replicate 8 none
  statics := none }

def pool4 : Array CpInfo := pool [(1, u "java/io/Serializable"), (0, .class_ 1), (0, u "java/lang/Object"), (0, .class_ 3)] 3

/-- java/io/Serializable -/
def k4 : Class := { plain "java/io/Serializable" (some 0) with
  accessFlags := 1537
  interfaces := #[]
  cf := some (fileOf pool4 2 #[] #[] 1537 4 #[] #[])
  fields := #[]
  methods := #[]
  instanceTypes := #[]
  staticTypes := #[]
  resolved := Array.replicate 8 none
  statics := none }

/-- the primitive boolean -/
def k5 : Class := { plain "boolean" none with kind := .primitive 'Z', accessFlags := 0x411 }
/-- [Z -/
def k6 : Class := { plain "[Z" (some 0) with kind := .array 5 .boolean, interfaces := #[3, 4], accessFlags := 1041 }

/-- the primitive byte -/
def k7 : Class := { plain "byte" none with kind := .primitive 'B', accessFlags := 0x411 }
/-- [B -/
def k8 : Class := { plain "[B" (some 0) with kind := .array 7 .byte, interfaces := #[3, 4], accessFlags := 1041 }

/-- the primitive int -/
def k9 : Class := { plain "int" none with kind := .primitive 'I', accessFlags := 0x411 }
/-- [I -/
def k10 : Class := { plain "[I" (some 0) with kind := .array 9 .int, interfaces := #[3, 4], accessFlags := 1041 }

def heap : Heap := #[]
def classes : Array Class := #[k0, k1, k2, k3, k4, k5, k6, k7, k8, k9, k10]
def interned : List (Array UInt16 × Addr) := []
def slotsUsed : Nat := 0
def theMethod : MethodId := ⟨1, 1⟩
def args0 : Array Value := #[.int 5, .int 5, .int 5, .int 5, .int 5]
def aboutOver (below : List Frame) : State where
  vm := { classes := classes, interned := interned.toArray }
  heap := heap
  slotsUsed := slotsUsed
  threads := #[{ frames := .invoking theMethod args0 :: below }]
def below0 : List Frame := [.native { method := ⟨0, 0⟩, args := #[] }]
def about1 : State := aboutOver below0
def p0 : Program := .bare "" "" ""
def e0 : Env := launch0.env 0 0 0
theorem w_frames : about1.frames = Frame.invoking theMethod args0 :: below0 := rfl
set_option maxRecDepth 65536 in
theorem w_args : argsFit about1.vm theMethod args0 = true := by decide +kernel
set_option maxRecDepth 65536 in
theorem w_heap : heapFits about1 = true := by decide +kernel
set_option maxRecDepth 65536 in
theorem w_runnable : about1.curStatus? = some .runnable := by decide +kernel
set_option maxRecDepth 65536 in
theorem w_alone : about1.alone = true := by decide +kernel
set_option maxRecDepth 65536 in
theorem w_named : about1.methodNamed? x = some theMethod := by decide +kernel
set_option maxRecDepth 65536 in
theorem w_hears : about1.hears theMethod below0 = true := by decide +kernel
set_option maxRecDepth 65536 in
theorem w_ripe : about1.ripe theMethod args0 below0 = true := by decide +kernel
theorem w_running : about1.status = .running := rfl
set_option maxRecDepth 65536 in
theorem w_room : about1.hasRoom e0.platform room_1 = true :=
  launch0.hasRoom_least _ room_1 (by decide +kernel) (by decide +kernel) (by decide +kernel) (by decide +kernel) (by decide +kernel) (by decide +kernel)
theorem allAtoms_all (ts : List Jvm.Cond) (a : Array Jvm.Value) (st : Jvm.State) : (allAtoms ts).before a st = ts.all (fun c => c.before a st) := by
  induction ts with
  | nil => rfl
  | cons c t ih =>
    show (Jvm.Cond.and c (allAtoms t)).before a st = _
    rw [Jvm.Cond.before_and, ih, List.all_cons]
def words1 : List Jvm.Cond := Jvm.Cond.code x code maxLocals ret :: tables_1
/-- a 'code' word, met by the world's own term for the bytes: nothing is compared byte by byte -/
theorem code_word {y : MethodName} {bytes : ByteArray} {mx : Nat} {rt : Option FieldType} {a : Array Value} {s : State} {m : MethodId} {meth : Method} {c : Code} (h1 : s.methodNamed? y = some m) (h2 : s.vm.method? m = some meth) (h3 : meth.code = some c) (h4 : c.code = bytes)
    (h5 : (c.maxLocals == mx && c.exceptionTable.isEmpty && decide (c.maxStack ≤ mostOperands) && decide (meth.sig.returnType = rt) && !meth.locks && decide (parseMethodDescriptor y.desc = some meth.sig)) = true) : (Jvm.Cond.code y bytes mx rt).before a s = true := by
  simp only [Bool.and_eq_true, beq_iff_eq, Bool.not_eq_true', decide_eq_true_eq] at h5
  obtain ⟨⟨⟨⟨⟨g1, g2⟩, g3⟩, g4⟩, g5⟩, g6⟩ := h5
  simp [Cond.before, Cond.holds, Cond.value, h1, h2, h3, h4, g1, g2, g3, g4, g5, g6]
def isCode : Jvm.Cond → Bool
  | .code _ _ _ _ => true
  | _ => false
theorem all_split {L : List Jvm.Cond} {P : Jvm.Cond → Bool} (h1 : L.all (fun c => isCode c || P c) = true) (h2 : ∀ c ∈ L.filter isCode, P c = true) : L.all P = true := by
  refine List.all_eq_true.mpr fun c hc => ?_
  have h := List.all_eq_true.mp h1 c hc
  rcases Bool.eq_false_or_eq_true (isCode c) with hi | hi
  · exact h2 c (List.mem_filter.mpr ⟨hc, hi⟩)
  · simpa [hi] using h
set_option maxRecDepth 65536 in
theorem w_c0 : (Jvm.Cond.code x code maxLocals ret).before args0 about1 = true := code_word (m := ⟨1, 1⟩) (meth := k1m1) (c := k1c1) (by decide +kernel) rfl rfl rfl (by decide +kernel)
set_option maxRecDepth 65536 in
theorem w_c1 : (Jvm.Cond.code ({ cls := "OptiCuckoo", name := "<init>", desc := "(II)V" } : Jvm.MethodName) prog_1_method_1_code (4 : Nat) (Option.none : Option Jvm.ClassFile.FieldType)).before args0 about1 = true := code_word (m := ⟨2, 0⟩) (meth := k2m0) (c := k2c0) (by decide +kernel) rfl rfl rfl (by decide +kernel)
set_option maxRecDepth 65536 in
theorem w_c2 : (Jvm.Cond.code ({ cls := "java/lang/Object", name := "<init>", desc := "()V" } : Jvm.MethodName) object_method_1_code (1 : Nat) (Option.none : Option Jvm.ClassFile.FieldType)).before args0 about1 = true := code_word (m := ⟨0, 0⟩) (meth := k0m0) (c := k0c0) (by decide +kernel) rfl rfl rfl (by decide +kernel)
set_option maxRecDepth 65536 in
theorem w_c3 : (Jvm.Cond.code ({ cls := "OptiCuckoo", name := "clamp", desc := "(III)I" } : Jvm.MethodName) prog_1_method_16_code (4 : Nat) (Option.some Jvm.ClassFile.FieldType.int)).before args0 about1 = true := code_word (m := ⟨2, 5⟩) (meth := k2m5) (c := k2c5) (by decide +kernel) rfl rfl rfl (by decide +kernel)
set_option maxRecDepth 65536 in
theorem w_c4 : (Jvm.Cond.code ({ cls := "OptiCuckoo", name := "submit", desc := "(III)I" } : Jvm.MethodName) prog_1_method_4_code (8 : Nat) (Option.some Jvm.ClassFile.FieldType.int)).before args0 about1 = true := code_word (m := ⟨2, 1⟩) (meth := k2m1) (c := k2c1) (by decide +kernel) rfl rfl rfl (by decide +kernel)
set_option maxRecDepth 65536 in
theorem w_c5 : (Jvm.Cond.code ({ cls := "OptiCuckoo", name := "findSlot", desc := "(I)I" } : Jvm.MethodName) prog_1_method_28_code (7 : Nat) (Option.some Jvm.ClassFile.FieldType.int)).before args0 about1 = true := code_word (m := ⟨2, 11⟩) (meth := k2m11) (c := k2c11) (by decide +kernel) rfl rfl rfl (by decide +kernel)
set_option maxRecDepth 65536 in
theorem w_c6 : (Jvm.Cond.code ({ cls := "OptiCuckoo", name := "bucket1", desc := "(I)I" } : Jvm.MethodName) prog_1_method_21_code (2 : Nat) (Option.some Jvm.ClassFile.FieldType.int)).before args0 about1 = true := code_word (m := ⟨2, 8⟩) (meth := k2m8) (c := k2c8) (by decide +kernel) rfl rfl rfl (by decide +kernel)
set_option maxRecDepth 65536 in
theorem w_c7 : (Jvm.Cond.code ({ cls := "OptiCuckoo", name := "bucket2", desc := "(I)I" } : Jvm.MethodName) prog_1_method_22_code (2 : Nat) (Option.some Jvm.ClassFile.FieldType.int)).before args0 about1 = true := code_word (m := ⟨2, 9⟩) (meth := k2m9) (c := k2c9) (by decide +kernel) rfl rfl rfl (by decide +kernel)
set_option maxRecDepth 65536 in
theorem w_c8 : (Jvm.Cond.code ({ cls := "OptiCuckoo", name := "slotIndex", desc := "(II)I" } : Jvm.MethodName) prog_1_method_24_code (3 : Nat) (Option.some Jvm.ClassFile.FieldType.int)).before args0 about1 = true := code_word (m := ⟨2, 10⟩) (meth := k2m10) (c := k2c10) (by decide +kernel) rfl rfl rfl (by decide +kernel)
set_option maxRecDepth 65536 in
theorem w_c9 : (Jvm.Cond.code ({ cls := "OptiCuckoo", name := "insertQueued", desc := "(I)Z" } : Jvm.MethodName) prog_1_method_19_code (5 : Nat) (Option.some Jvm.ClassFile.FieldType.boolean)).before args0 about1 = true := code_word (m := ⟨2, 7⟩) (meth := k2m7) (c := k2c7) (by decide +kernel) rfl rfl rfl (by decide +kernel)
set_option maxRecDepth 65536 in
theorem w_c10 : (Jvm.Cond.code ({ cls := "OptiCuckoo", name := "pending", desc := "(I)I" } : Jvm.MethodName) prog_1_method_5_code (2 : Nat) (Option.some Jvm.ClassFile.FieldType.int)).before args0 about1 = true := code_word (m := ⟨2, 2⟩) (meth := k2m2) (c := k2c2) (by decide +kernel) rfl rfl rfl (by decide +kernel)
set_option maxRecDepth 65536 in
theorem w_c11 : (Jvm.Cond.code ({ cls := "OptiCuckoo", name := "validThread", desc := "(I)Z" } : Jvm.MethodName) prog_1_method_17_code (2 : Nat) (Option.some Jvm.ClassFile.FieldType.boolean)).before args0 about1 = true := code_word (m := ⟨2, 6⟩) (meth := k2m6) (c := k2c6) (by decide +kernel) rfl rfl rfl (by decide +kernel)
set_option maxRecDepth 65536 in
theorem w_c12 : (Jvm.Cond.code ({ cls := "OptiCuckoo", name := "reserved", desc := "()I" } : Jvm.MethodName) prog_1_method_14_code (1 : Nat) (Option.some Jvm.ClassFile.FieldType.int)).before args0 about1 = true := code_word (m := ⟨2, 4⟩) (meth := k2m4) (c := k2c4) (by decide +kernel) rfl rfl rfl (by decide +kernel)
set_option maxRecDepth 65536 in
theorem w_c13 : (Jvm.Cond.code ({ cls := "OptiCuckoo", name := "size", desc := "()I" } : Jvm.MethodName) prog_1_method_13_code (1 : Nat) (Option.some Jvm.ClassFile.FieldType.int)).before args0 about1 = true := code_word (m := ⟨2, 3⟩) (meth := k2m3) (c := k2c3) (by decide +kernel) rfl rfl rfl (by decide +kernel)
def codes1 : List Jvm.Cond := [Jvm.Cond.code x code maxLocals ret, Jvm.Cond.code ({ cls := "OptiCuckoo", name := "<init>", desc := "(II)V" } : Jvm.MethodName) prog_1_method_1_code (4 : Nat) (Option.none : Option Jvm.ClassFile.FieldType), Jvm.Cond.code ({ cls := "java/lang/Object", name := "<init>", desc := "()V" } : Jvm.MethodName) object_method_1_code (1 : Nat) (Option.none : Option Jvm.ClassFile.FieldType), Jvm.Cond.code ({ cls := "OptiCuckoo", name := "clamp", desc := "(III)I" } : Jvm.MethodName) prog_1_method_16_code (4 : Nat) (Option.some Jvm.ClassFile.FieldType.int), Jvm.Cond.code ({ cls := "OptiCuckoo", name := "submit", desc := "(III)I" } : Jvm.MethodName) prog_1_method_4_code (8 : Nat) (Option.some Jvm.ClassFile.FieldType.int), Jvm.Cond.code ({ cls := "OptiCuckoo", name := "findSlot", desc := "(I)I" } : Jvm.MethodName) prog_1_method_28_code (7 : Nat) (Option.some Jvm.ClassFile.FieldType.int), Jvm.Cond.code ({ cls := "OptiCuckoo", name := "bucket1", desc := "(I)I" } : Jvm.MethodName) prog_1_method_21_code (2 : Nat) (Option.some Jvm.ClassFile.FieldType.int), Jvm.Cond.code ({ cls := "OptiCuckoo", name := "bucket2", desc := "(I)I" } : Jvm.MethodName) prog_1_method_22_code (2 : Nat) (Option.some Jvm.ClassFile.FieldType.int), Jvm.Cond.code ({ cls := "OptiCuckoo", name := "slotIndex", desc := "(II)I" } : Jvm.MethodName) prog_1_method_24_code (3 : Nat) (Option.some Jvm.ClassFile.FieldType.int), Jvm.Cond.code ({ cls := "OptiCuckoo", name := "insertQueued", desc := "(I)Z" } : Jvm.MethodName) prog_1_method_19_code (5 : Nat) (Option.some Jvm.ClassFile.FieldType.boolean), Jvm.Cond.code ({ cls := "OptiCuckoo", name := "pending", desc := "(I)I" } : Jvm.MethodName) prog_1_method_5_code (2 : Nat) (Option.some Jvm.ClassFile.FieldType.int), Jvm.Cond.code ({ cls := "OptiCuckoo", name := "validThread", desc := "(I)Z" } : Jvm.MethodName) prog_1_method_17_code (2 : Nat) (Option.some Jvm.ClassFile.FieldType.boolean), Jvm.Cond.code ({ cls := "OptiCuckoo", name := "reserved", desc := "()I" } : Jvm.MethodName) prog_1_method_14_code (1 : Nat) (Option.some Jvm.ClassFile.FieldType.int), Jvm.Cond.code ({ cls := "OptiCuckoo", name := "size", desc := "()I" } : Jvm.MethodName) prog_1_method_13_code (1 : Nat) (Option.some Jvm.ClassFile.FieldType.int)]
set_option maxRecDepth 65536 in
theorem codes_eq : words1.filter isCode = codes1 := rfl
theorem w_codes : ∀ c ∈ words1.filter isCode, c.before args0 about1 = true := by
  rw [codes_eq]
  intro c hc
  simp only [codes1, List.mem_cons, List.not_mem_nil, or_false] at hc
  rcases hc with rfl | rfl | rfl | rfl | rfl | rfl | rfl | rfl | rfl | rfl | rfl | rfl | rfl | rfl
  · exact w_c0
  · exact w_c1
  · exact w_c2
  · exact w_c3
  · exact w_c4
  · exact w_c5
  · exact w_c6
  · exact w_c7
  · exact w_c8
  · exact w_c9
  · exact w_c10
  · exact w_c11
  · exact w_c12
  · exact w_c13
set_option maxRecDepth 65536 in
theorem w_t1 : (words1.take 24).all (fun c => isCode c || c.before args0 about1) = true := by decide +kernel
set_option maxRecDepth 65536 in
theorem w_t2 : ((words1.drop 24).take 24).all (fun c => isCode c || c.before args0 about1) = true := by decide +kernel
set_option maxRecDepth 65536 in
theorem w_t3 : (((words1.drop 24).drop 24).take 24).all (fun c => isCode c || c.before args0 about1) = true := by decide +kernel
set_option maxRecDepth 65536 in
theorem w_t4 : ((((words1.drop 24).drop 24).drop 24).take 24).all (fun c => isCode c || c.before args0 about1) = true := by decide +kernel
set_option maxRecDepth 65536 in
theorem w_t5 : (((((words1.drop 24).drop 24).drop 24).drop 24).take 24).all (fun c => isCode c || c.before args0 about1) = true := by decide +kernel
set_option maxRecDepth 65536 in
theorem w_t6 : ((((((words1.drop 24).drop 24).drop 24).drop 24).drop 24).take 24).all (fun c => isCode c || c.before args0 about1) = true := by decide +kernel
set_option maxRecDepth 65536 in
theorem w_t7 : ((((((words1.drop 24).drop 24).drop 24).drop 24).drop 24).drop 24).all (fun c => isCode c || c.before args0 about1) = true := by decide +kernel
theorem w_tables : (allAtoms (Jvm.Cond.code x code maxLocals ret :: tables_1)).before args0 about1 = true := by
  rw [allAtoms_all]
  show words1.all (fun c => c.before args0 about1) = true
  refine all_split ?_ w_codes
  rw [← List.take_append_drop 24 words1, List.all_append, w_t1, ← List.take_append_drop 24 (words1.drop 24), List.all_append, w_t2, ← List.take_append_drop 24 ((words1.drop 24).drop 24), List.all_append, w_t3, ← List.take_append_drop 24 (((words1.drop 24).drop 24).drop 24), List.all_append, w_t4, ← List.take_append_drop 24 ((((words1.drop 24).drop 24).drop 24).drop 24), List.all_append, w_t5, ← List.take_append_drop 24 (((((words1.drop 24).drop 24).drop 24).drop 24).drop 24), List.all_append, w_t6, w_t7]
  rfl
set_option maxRecDepth 65536 in
theorem w_case : (Jvm.Cond.and given_1 narrow_1).before args0 about1 = true := by decide +kernel
theorem w_applies : (headSpec (Jvm.Cond.code x code maxLocals ret :: tables_1) room_1).applies x e0.platform about1 = true :=
  (Spec.applies_iff w_frames).mpr ⟨w_running, w_runnable, w_alone, w_named, w_hears, w_ripe, w_room, w_tables⟩
theorem atStart : AtStart classFile x code maxLocals ret World_1 tables_1 room_1 Calls_1 rest_1 Pre_1 launch0 p0 e0 about1 theMethod args0 below0 :=
  ⟨lists_1, trivial, launch0.admits_env _ _ _, launch0.least_env, fairChoices_fair.cas, fairChoices_fair.clock, w_frames, w_args, w_heap, w_applies, trivial, trivial, w_case⟩
end start1
theorem witness_1 : WitnessClaimed_1 := ⟨start1.p0, start1.e0, start1.about1, start1.theMethod, start1.args0, start1.below0, start1.atStart⟩
end Jvm.Pilot.@@N@@
