import Derived.Test.YtakllmgiobpmgaaEngA
/- What is written of segments, by index: plain lists. -/
set_option linter.unusedSimpArgs false
set_option linter.deprecated false
set_option linter.unusedSectionVars false
section
set_option linter.unusedVariables false
namespace Go.Sm
/-! ### What is written of segments, by index -/
def markC (c : Int) : Bool := decide (c = 43) || (decide (c = 58) || (decide (c = 39) || decide (c = 63)))
theorem u8_eq (c k : UInt8) : (c == k) = decide ((c.toNat : Int) = (k.toNat : Int)) := by
  by_cases h : c = k
  · subst h; simp
  · have h2 : ¬ (c.toNat : Int) = (k.toNat : Int) := fun e => h (UInt8.toNat_inj.1 (by omega))
    simp [h, h2]
theorem escB_mark (c : UInt8) : escB c = bif markC (c.toNat : Int) then [63, c] else [c] := by
  unfold escB markC
  rw [u8_eq, u8_eq, u8_eq, u8_eq]
  rfl
def wPartK (r : List ByteArray) : Nat → List UInt8
  | 0 => []
  | k + 1 => wPartK r k ++ wText (if k = 0 then 43 else 58) (r.getD k ⟨#[]⟩)
def wParts (P : List (List ByteArray)) : Nat → List UInt8
  | 0 => []
  | q + 1 => wParts P q ++ wPartK (P.getD q []) (P.getD q []).length
def wSegs (l : List (ByteArray × List (List ByteArray))) : Nat → List UInt8
  | 0 => []
  | i + 1 => wSegs l i ++ (l.getD i (⟨#[]⟩, [])).1.data.toList ++ wParts (l.getD i (⟨#[]⟩, [])).2 (l.getD i (⟨#[]⟩, [])).2.length ++ [39]
theorem len_mono {F G : Nat → List UInt8} (h : ∀ k, F (k + 1) = F k ++ G k) : ∀ {k m : Nat}, k ≤ m → (F k).length ≤ (F m).length := by
  intro k m hkm
  obtain ⟨d, rfl⟩ : ∃ d, m = k + d := ⟨m - k, by omega⟩
  induction d with
  | zero => exact Nat.le_refl _
  | succ d ih =>
    have := ih (by omega)
    rw [show k + (d + 1) = k + d + 1 from rfl, h, List.length_append]; omega
theorem len_step {F G : Nat → List UInt8} (h : ∀ k, F (k + 1) = F k ++ G k) {k m : Nat} (hk : k < m) : (F k).length + (G k).length ≤ (F m).length := by
  have := len_mono h (show k + 1 ≤ m from hk)
  rw [h, List.length_append] at this; exact this
theorem wText_len (m : UInt8) (t : ByteArray) : t.size + 1 ≤ (wText m t).length := by
  have : ∀ l : List UInt8, l.length ≤ (l.flatMap escB).length := fun l => by
    induction l with
    | nil => exact Nat.le_refl _
    | cons x r ih =>
      rw [List.flatMap_cons, List.length_append, List.length_cons]
      have : 1 ≤ (escB x).length := by rw [escB_mark]; cases markC (x.toNat : Int) <;> simp
      omega
  have h := this t.data.toList
  have e : t.data.toList.length = t.size := by simp
  show t.size + 1 ≤ (m :: t.data.toList.flatMap escB).length
  rw [List.length_cons]; omega
theorem wPartK_step (r : List ByteArray) (k : Nat) : wPartK r (k + 1) = wPartK r k ++ wText (if k = 0 then 43 else 58) (r.getD k ⟨#[]⟩) := rfl
theorem wParts_step (P : List (List ByteArray)) (q : Nat) : wParts P (q + 1) = wParts P q ++ wPartK (P.getD q []) (P.getD q []).length := rfl
theorem wSegs_step (l : List (ByteArray × List (List ByteArray))) (i : Nat) : wSegs l (i + 1) = wSegs l i ++ ((l.getD i (⟨#[]⟩, [])).1.data.toList ++ wParts (l.getD i (⟨#[]⟩, [])).2 (l.getD i (⟨#[]⟩, [])).2.length ++ [39]) := by
  show wSegs l i ++ _ ++ _ ++ [39] = _
  simp
theorem wPartK_ge (r : List ByteArray) : ∀ k, k ≤ (wPartK r k).length
  | 0 => Nat.zero_le _
  | k + 1 => by
    have h1 := wPartK_ge r k
    have h2 := wText_len (if k = 0 then 43 else 58) (r.getD k ⟨#[]⟩)
    rw [wPartK_step, List.length_append]; omega
theorem wSegs_ge (l : List (ByteArray × List (List ByteArray))) : ∀ k, k ≤ (wSegs l k).length
  | 0 => Nat.zero_le _
  | k + 1 => by
    have h1 := wSegs_ge l k
    rw [wSegs_step, List.length_append, List.length_append, List.length_singleton]; omega
theorem wPartK_tail (t : ByteArray) (r : List ByteArray) : ∀ k, k ≤ r.length → wPartK (t :: r) (k + 1) = wText 43 t ++ (r.take k).flatMap (wText 58)
  | 0, _ => by simp [wPartK]
  | k + 1, h => by
    rw [wPartK_step, wPartK_tail t r k (by omega)]
    have e : (t :: r).getD (k + 1) ⟨#[]⟩ = r.getD k ⟨#[]⟩ := by simp
    rw [e, if_neg (by omega), List.take_succ]
    have : r[k]? = some (r.getD k ⟨#[]⟩) := by rw [List.getD_eq_getElem?_getD, List.getElem?_eq_getElem (by omega)]; rfl
    rw [this]
    simp
theorem wPartK_eq (r : List ByteArray) : wPartK r r.length = wPart r := by
  cases r with
  | nil => rfl
  | cons t r =>
    show wPartK (t :: r) (r.length + 1) = _
    rw [wPartK_tail t r r.length (Nat.le_refl _), List.take_length]; rfl
theorem wParts_take (P : List (List ByteArray)) : ∀ q, q ≤ P.length → wParts P q = (P.take q).flatMap wPart
  | 0, _ => by simp [wParts]
  | q + 1, h => by
    rw [wParts_step, wParts_take P q (by omega), wPartK_eq, List.take_succ]
    have : P[q]? = some (P.getD q []) := by rw [List.getD_eq_getElem?_getD, List.getElem?_eq_getElem (by omega)]; rfl
    rw [this]
    simp
theorem wParts_eq (P : List (List ByteArray)) : wParts P P.length = P.flatMap wPart := by rw [wParts_take P _ (Nat.le_refl _), List.take_length]
theorem wSegs_take (l : List (ByteArray × List (List ByteArray))) : ∀ i, i ≤ l.length → wSegs l i = (l.take i).flatMap fun s => wSeg s.1 s.2
  | 0, _ => by simp [wSegs]
  | i + 1, h => by
    rw [wSegs_step, wSegs_take l i (by omega), wParts_eq, List.take_succ]
    have : l[i]? = some (l.getD i (⟨#[]⟩, [])) := by rw [List.getD_eq_getElem?_getD, List.getElem?_eq_getElem (by omega)]; rfl
    rw [this]
    simp [wSeg]
theorem wSegs_eq {S : Type} (tag : S → ByteArray) (parts : S → List (List ByteArray)) (l : List S) : wSegs (l.map fun s => (tag s, parts s)) (l.map fun s => (tag s, parts s)).length = wroteL tag parts l := by
  rw [wSegs_take _ _ (Nat.le_refl _), List.take_length, List.flatMap_map]; rfl
end Go.Sm
end
