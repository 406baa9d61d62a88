import Derived.Test.YtmefinakmgnbpaaEngA
import Derived.Sort.AssemblyPlain
import Derived.Shelf.SlSortCmp.Insertion
import Derived.Test.YtmefinakmgnbpaaEngD
import Derived.Shelf.SlSortCmp.NoneTotal
/- An evaluator over data for the code of the program, and its law: what it computes is what the model computes. Part 5 of 5. -/
set_option linter.unusedSimpArgs false
set_option linter.deprecated false
set_option linter.unusedSectionVars false
section
set_option linter.unusedVariables false
namespace Go.Sm
open Go.Sort Go.Proofs Go.Shelf
/-! ### What a sort leaves: a list of places -/
def allFin (m : Nat) : Array (Fin (m + 1)) := Array.ofFn fun i => i
def sortArr (cf : Nat → Nat → Int) (m : Nat) : Array (Fin (m + 1)) := pdq (ltOf fun i j : Fin (m + 1) => cf i j) (allFin m) 0 (allFin m).size (Lib.bitLen (allFin m).size) true true
def sortIx (cf : Nat → Nat → Int) : Nat → List Nat
  | 0 => []
  | m + 1 => (sortArr cf m).toList.map Fin.val
def sortBy {U : Type} (cf : Nat → Nat → Int) (l : List U) (d : U) : List U := (sortIx cf l.length).map fun i => l.getD i d
theorem allFin_size (m : Nat) : (allFin m).size = m + 1 := by simp [allFin]
theorem allFin_nodup (m : Nat) : (allFin m).toList.Nodup := by
  unfold List.Nodup; rw [List.pairwise_iff_getElem]
  intro i j hi hj hij h
  have h := congrArg Fin.val h
  simp only [allFin, Array.getElem_toList, Array.getElem_ofFn] at h
  omega
theorem extract_all {α : Type} (d : Array α) (n : Nat) (h : d.size = n) : (d.extract 0 n).toList = d.toList := by subst h; simp
theorem sortArr_ok {cf : Nat → Nat → Int} {m : Nat} (hO : SWO (ltOf fun i j : Fin (m + 1) => cf i j)) :
    (sortArr cf m).size = m + 1 ∧ (sortArr cf m).toList.Perm (allFin m).toList ∧ SortedIn (ltOf fun i j : Fin (m + 1) => cf i j) 0 (m + 1) (sortArr cf m) := by
  have h := pdq_sorts (ltOf fun i j : Fin (m + 1) => cf i j) hO (allFin m) 0 (allFin m).size (Lib.bitLen (allFin m).size) true true (Nat.zero_le _) (Nat.le_refl _) (Or.inl rfl)
  have hs : (sortArr cf m).size = m + 1 := h.1.1.trans (allFin_size m)
  refine ⟨hs, ?_, by have := h.2; unfold sortArr; rw [allFin_size] at this ⊢; exact this⟩
  have h2 := h.1.2.2
  rw [extract_all _ _ rfl] at h2
  have h3 := extract_all (sortArr cf m) (allFin m).size h.1.1
  unfold sortArr at h3
  rw [h3] at h2
  exact h2
def cmpI {U : Type} (d : U) (cmp : U → U → Option Int) (l : List U) (i j : Nat) : Int := (cmp (l.getD i d) (l.getD j d)).getD 0
open Classical in
/-- A sort by a compare that answers for each two of the list, and tells an order of them. -/
noncomputable def sortL {U : Type} (d : U) (cmp : U → U → Option Int) (l : List U) : Option (List U) :=
  if (∀ i, i < l.length → ∀ j, j < l.length → (cmp (l.getD i d) (l.getD j d)).isSome = true) ∧ (∀ m, l.length = m + 1 → SWO (ltOf fun i j : Fin (m + 1) => cmpI d cmp l i j)) ∧ l.length < 4611686018427387904 then some (sortBy (cmpI d cmp l) l d) else none
theorem sortL_ok {U : Type} {d : U} {cmp : U → U → Option Int} {cf : U → U → Int} {l : List U} (hc : ∀ x ∈ l, ∀ y ∈ l, cmp x y = some (cf x y)) (h1 : ∀ x ∈ l, ¬ cf x x < 0) (h2 : ∀ x ∈ l, ∀ y ∈ l, ∀ z ∈ l, cf x y < 0 → cf y z < 0 → cf x z < 0)
    (h3 : ∀ x ∈ l, ∀ y ∈ l, ∀ z ∈ l, ¬ cf x y < 0 → ¬ cf y z < 0 → ¬ cf x z < 0) (hl : l.length < 4611686018427387904) : ∃ l', sortL d cmp l = some l' ∧ l'.Perm l ∧ l'.Pairwise fun x y => ¬ cf y x < 0 := by
  have hm : ∀ i, i < l.length → l.getD i d ∈ l := fun i hi => by
    rw [List.getD_eq_getElem?_getD, List.getElem?_eq_getElem hi]; exact List.getElem_mem hi
  have hcm : ∀ i j, i < l.length → j < l.length → cmpI d cmp l i j = cf (l.getD i d) (l.getD j d) := fun i j hi hj => by
    unfold cmpI; rw [hc _ (hm i hi) _ (hm j hj)]; rfl
  have hS : ∀ m, l.length = m + 1 → SWO (ltOf fun i j : Fin (m + 1) => cmpI d cmp l i j) := fun m hlm => by
    have hlt : ∀ i : Fin (m + 1), i.val < l.length := fun i => by have := i.isLt; omega
    refine ⟨fun x => ?_, fun x y z hx hy => ?_, fun x y z hx hy => ?_⟩
    · simp only [ltOf, hcm _ _ (hlt x) (hlt x), decide_eq_false_iff_not]; exact h1 _ (hm _ (hlt x))
    · simp only [ltOf, hcm _ _ (hlt x) (hlt y), hcm _ _ (hlt y) (hlt z), hcm _ _ (hlt x) (hlt z), decide_eq_true_eq] at *; exact h2 _ (hm _ (hlt x)) _ (hm _ (hlt y)) _ (hm _ (hlt z)) hx hy
    · simp only [ltOf, hcm _ _ (hlt x) (hlt y), hcm _ _ (hlt y) (hlt z), hcm _ _ (hlt x) (hlt z), decide_eq_false_iff_not] at *; exact h3 _ (hm _ (hlt x)) _ (hm _ (hlt y)) _ (hm _ (hlt z)) hx hy
  refine ⟨sortBy (cmpI d cmp l) l d, ?_, ?_, ?_⟩
  · unfold sortL
    rw [if_pos ⟨fun i hi j hj => by rw [hc _ (hm i hi) _ (hm j hj)]; rfl, hS, hl⟩]
  · unfold sortBy
    cases hlm : l.length with
    | zero => have : l = [] := List.eq_nil_of_length_eq_zero hlm; subst this; exact .nil
    | succ m =>
      obtain ⟨a1, a2, a3⟩ := sortArr_ok (hS m hlm)
      have hp : ((sortArr (cmpI d cmp l) m).toList.map Fin.val).Perm (List.range (m + 1)) := by
        have := a2.map Fin.val
        have e : (allFin m).toList.map Fin.val = List.range (m + 1) := by
          apply List.ext_getElem
          · simp [allFin]
          · intro i h1 h2; simp only [List.getElem_map, allFin, Array.getElem_toList, Array.getElem_ofFn, List.getElem_range]
        rw [e] at this
        exact this
      refine (hp.map fun i => l.getD i d).trans ?_
      have : (List.range (m + 1)).map (fun i => l.getD i d) = l := by
        apply List.ext_getElem
        · simp [hlm]
        · intro i h1 h2; simp [List.getD_eq_getElem?_getD, h2]
      rw [this]
  · unfold sortBy
    cases hlm : l.length with
    | zero => exact .nil
    | succ m =>
      obtain ⟨a1, a2, a3⟩ := sortArr_ok (hS m hlm)
      rw [List.pairwise_iff_getElem]
      intro i j hi hj hij
      have hi' : i < m + 1 := by simpa [sortIx, a1] using hi
      have hj' : j < m + 1 := by simpa [sortIx, a1] using hj
      have h := a3 i j (Nat.zero_le _) hij hj'
      rw [getElem!_pos _ i (by rw [a1]; exact hi'), getElem!_pos _ j (by rw [a1]; exact hj')] at h
      have hlt : ∀ x : Fin (m + 1), x.val < l.length := fun x => by have := x.isLt; omega
      simp only [ltOf, hcm _ _ (hlt _) (hlt _), decide_eq_false_iff_not] at h
      simpa [sortIx] using h
/-- A part of a list is taken out. -/
def delL {U : Type} (l : List U) (i j : Int) : Option (List U) := if 0 ≤ i ∧ i < j ∧ j ≤ (l.length : Int) ∧ (l.length : Int) ≤ 9223372036854775807 then some (l.take i.toNat ++ l.drop j.toNat) else none
/-! ### Whole numbers in order -/
def sortI (l : List Int) : List Int := l.mergeSort fun x y => decide (x ≤ y)
theorem sortI_len (l : List Int) : (sortI l).length = l.length := List.length_mergeSort _
theorem sortI_perm (l : List Int) : (sortI l).Perm l := List.mergeSort_perm _ _
theorem sortI_sorted (l : List Int) : (sortI l).Pairwise (· ≤ ·) := by
  have h := List.pairwise_mergeSort (le := fun x y : Int => decide (x ≤ y)) (fun a b c h1 h2 => by simp only [decide_eq_true_eq] at h1 h2 ⊢; omega) (fun a b => by simp only [Bool.or_eq_true, decide_eq_true_eq]; omega) l
  exact h.imp fun h => by simpa using h
/-- What slices.Sort leaves (of what is not empty). -/
def sortIO (l : List Int) : Option (List Int) := if 0 < l.length ∧ l.length < 4611686018427387904 then some (sortI l) else none
end Go.Sm
end

section
set_option linter.unusedVariables false
namespace Go.Sm
open Go.Sort Go.Proofs Go.Shelf
variable {T : Tbl} {P : Program}
/-- Where no block has changed the world has drawn and grown. -/
theorem grow_of {w w' : World} (hs : w.heap.size ≤ w'.heap.size) (ho : w'.os = w.os) (ht : w'.tape = w.tape) (hO : Oth w w') (hb : ∀ b, b < w.heap.size → w'.heap[b]? = w.heap[b]?) :
    ∃ (q : Nat) (os : Array Obj), w' = grow (w.drewN q) os := by
  refine ⟨w'.drawn - w.drawn, w'.heap.extract w.heap.size w'.heap.size, ?_⟩
  have hh : w.heap ++ w'.heap.extract w.heap.size w'.heap.size = w'.heap := by
    apply Array.ext_getElem?
    intro i
    by_cases c : i < w.heap.size
    · rw [Array.getElem?_append_left c, hb i c]
    · rw [Array.getElem?_append_right (by omega)]
      by_cases c2 : i < w'.heap.size
      · rw [Array.getElem?_extract, if_pos (by omega)]
        congr 1; omega
      · rw [Array.getElem?_eq_none (by simp; omega), Array.getElem?_eq_none (by omega)]
  have hd := hO.drawn
  cases w' with
  | mk h t d o u =>
    cases w with
    | mk h0 t0 d0 o0 u0 =>
      have e1 := hO.output
      simp only at ho ht e1 hh hd
      subst ho ht e1
      show _ = (⟨h0 ++ _, _, d0 + (d - d0), _, _⟩ : World)
      simp only [World.mk.injEq, true_and, and_true]
      refine ⟨hh.symm, rfl, ?_, rfl, rfl⟩
      have hd2 : d0 ≤ d := hd
      show d = d0 + (d - d0)
      omega

/-! ### The worlds that a sort passes through -/
section
variable {α : Type} [Inhabited α] {enc : α → List Value} {k : Nat} {w : World} {blk off m : Nat} {dk : Array α} {os : Array Obj}
theorem sw_other {b : Nat} (h : b ≠ blk) (hb : b < w.heap.size) : (sortWorldK enc k w blk off m dk os).heap[b]? = w.heap[b]? := by
  unfold sortWorldK
  rw [heap_grow_old _ _ (by simpa [putRowK] using hb)]
  simp [putRowK, putRow, mapBlock, Array.getElem?_modify, Ne.symm h, Sort.ahead]
theorem sw_blk {cs : Array Value} {el : Nat} {fz : Nat × Nat} (h : w.heap[blk]? = some (.cells cs el fz)) : ∃ cs' : Array Value, (sortWorldK enc k w blk off m dk os).heap[blk]? = some (.cells cs' el fz) ∧ cs'.size = cs.size := by
  have hb : blk < w.heap.size := (Array.getElem?_eq_some_iff.1 h).1
  unfold sortWorldK
  rw [heap_grow_old _ _ (by simpa [putRowK] using hb)]
  refine ⟨putCells id off (flatK enc k dk) cs, ?_, by simp [putCells]⟩
  simp [putRowK, putRow, mapBlock, Array.getElem?_modify, Sort.ahead, h, onCells]
theorem sw_size : w.heap.size ≤ (sortWorldK enc k w blk off m dk os).heap.size := size_sortWorldK_c enc k w blk off m dk os
theorem sw_oth {cs : Array Value} {el : Nat} {fz : Nat × Nat} (h : w.heap[blk]? = some (.cells cs el fz)) : Oth w (sortWorldK enc k w blk off m dk os) := by
  refine ⟨rfl, Nat.le_add_right _ _, fun b cs0 el0 fz0 hb => ?_⟩
  by_cases e : b = blk
  · subst e; exact sw_blk hb
  · exact ⟨cs0, (sw_other e (Array.getElem?_eq_some_iff.1 hb).1).trans hb, rfl⟩
end

/-! ### The compare's calls -/
theorem argsRo {w : World} {K : Nat → Prop} : ∀ {ars : List (A T)} {vs : List Value} {ms : List Mode}, ms = List.replicate ars.length .ro → vs.length = ars.length → (∀ (j : Nat) (a : A T) (v : Value), ars[j]? = some a → vs[j]? = some v → ArgRo T w K a v) → ArgsOk T w K ms ars vs fun _ => False
  | [], [], ms, hm, _, _ => by subst hm; exact .nil
  | [], _ :: _, _, _, h, _ => by simp at h
  | _ :: _, [], _, _, h, _ => by simp at h
  | a :: ars, v :: vs, ms, hm, hl, h => by
    subst hm
    exact .ro (h 0 a v rfl rfl) (argsRo rfl (by simpa using hl) fun j a' v' h1 h2 => h (j + 1) a' v' (by simpa using h1) (by simpa using h2))
theorem RepDs.world {w w' : World} {K K' : Nat → Prop} {ds : List (D T.U)} {vs : List Value} (h : RepDs T w K ds vs) (hK : ∀ b, K b → K' b) (hw : ∀ b, K b → w'.heap[b]? = w.heap[b]?) : RepDs T w' K' ds vs :=
  ⟨h.1, fun j d v hd hv => (h.2 j d v hd hv).mono hK hw⟩
theorem capRo_world {w w' : World} {K K' : Nat → Prop} {a : A T} {v : Value} (h : CapRo T w K a v) (hK : ∀ b, K b → K' b) (hw : ∀ b, K b → w'.heap[b]? = w.heap[b]?) : ArgRo T w' K' a v := by
  cases a with
  | val ag ds =>
    cases ag with
    | true => exact h.elim
    | false => exact RepDs.world h hK hw
  | ptr t x =>
    obtain ⟨b, off, vals, e1, e2⟩ := h
    exact ⟨b, off, vals, e1, fun j d hj => by
      obtain ⟨h1, h2, h3⟩ := e2 j d hj
      exact ⟨hK b h1, by rw [cell_same (hw b h1)]; exact h2, h3.mono hK hw⟩⟩
  | _ => exact h.elim
theorem ret_int {w : World} {K' R : Nat → Prop} {c : Int} {us : List Value} (h : RetsOk T w K' .own [.val false [.int .i64 c]] us R) : us = [.int .i64 c] := by
  cases h with
  | cons h1 h2 _ =>
    cases h2
    obtain ⟨hl, F, hF, _⟩ := h1
    have := hF 0 _ _ rfl rfl
    cases this
    rfl

/-- A row's cells, by its number. -/
def encRow (vals : Nat → Nat → Value) (k : Nat) {m : Nat} (i : Fin (m + 1)) : List Value := (List.range k).map (vals i)
theorem encRow_len (vals : Nat → Nat → Value) (k : Nat) {m : Nat} (i : Fin (m + 1)) : (encRow vals k i).length = k := by simp [encRow]
theorem encRow_get (vals : Nat → Nat → Value) (k : Nat) {m : Nat} (i : Fin (m + 1)) {j : Nat} (hj : j < k) : (encRow vals k i)[j]! = vals i j := by
  rw [getElem!_pos _ j (by rw [encRow_len]; exact hj)]; simp [encRow]
theorem encRow_get? (vals : Nat → Nat → Value) (k : Nat) {m : Nat} (i : Fin (m + 1)) {j : Nat} {v : Value} (h : (encRow vals k i)[j]? = some v) : j < k ∧ v = vals i j := by
  obtain ⟨h1, h2⟩ := List.getElem?_eq_some_iff.1 h
  rw [encRow_len] at h1
  exact ⟨h1, by rw [← h2]; simp [encRow]⟩

set_option maxHeartbeats 1000000 in
theorem sort_call (hT : TblOk P T) {ρ : Ren} (L : SlLaysF0.n6 P ρ) {e : Nat} (he : ρ.t 24 = e) (hag : Go.Sm.isAgg T e = true) (hk : 0 < T.size e)
    {g : Nat} {caps : List (A T)} (hm : (T.sg g).modes = List.replicate (caps.length + 1 + 1) .ro) (hr : (T.sg g).rk = .own) (hm6 : (T.sg (ρ.f 6)).modes = [.rws, .ro])
    (l : List (T.U e)) (cf : Nat → Nat → Int)
    (hc : ∀ i j, i < l.length → j < l.length → CallOk P T g (.val true (row T e l i) :: .val true (row T e l j) :: caps) ⟨[.val false [.int .i64 (cf i j)]], []⟩)
    (hO : ∀ m, l.length = m + 1 → SWO (ltOf fun i j : Fin (m + 1) => cf i j)) (hlen : l.length < 4611686018427387904) (hgs : Nat.blt g SLF = true) :
    CallOk P T (ρ.f 6) [.val false [.arr e l], .fn g caps] ⟨[], [.sl e (sortBy cf l (T.dflt e))]⟩ := by
  refine ⟨L.f6.enters rfl, fun w K M vs hargs _ hMK hlt => ?_⟩
  rw [hm6] at hargs
  cases hargs with
  | @rw _ _ vs' S _ _ v S1 h1 h2 h3 =>
  cases h2 with
  | rw h4 _ _ => exact (argRw_ro h4).elim
  | @ro _ _ vs2 _ _ vf h4 h5 =>
  cases h5
  obtain ⟨hl1, F0, hF0, hFS, _⟩ := h1
  have hown := hF0 0 _ _ rfl rfl
  obtain ⟨A, c, vals, F, rfl, hA⟩ := (OwnD.arr_iff K).1 hown
  have hgs : g < SLF := by rw [Nat.blt_eq] at hgs; exact hgs
  rcases h4 with ⟨_, cb, rfl, hcl, hcb⟩ | ⟨hgp, _⟩
  case inr => exact absurd hgs (by simp only [SLF, SLP] at hgp ⊢; omega)
  -- how it ends
  have post : ∀ (l' : List (T.U e)) (w' : World), l' = sortBy cf l (T.dflt e) → OwnD T w' (.arr e l') (.slice A l.length c) (F0 0) → w.heap.size ≤ w'.heap.size → w'.os = w.os → w'.tape = w.tape → Oth w w' → (∀ b, b < w.heap.size → ¬ F0 0 b → w'.heap[b]? = w.heap[b]?) →
      Post T w K (fun b => S1 b ∨ False) (T.sg (ρ.f 6)) [.val false [.arr e l], .fn g caps] [.slice A l.length c, .func (.func g) #[] cb.toArray] ⟨[], [.sl e (sortBy cf l (T.dflt e))]⟩ (.tuple #[]) w' := by
    intro l' w' hl' ho hs hos ht hOth hb
    subst hl'
    refine ⟨⟨K, fun _ => False, fun b => F0 0 b ∨ False, [], rfl, .nil, ?_, fun _ h => h.elim, fun b hb => ?_, fun _ h => h, fun b hb => ⟨Nat.lt_of_lt_of_le (hlt b (.inr hb)) hs, .inl hb⟩⟩, hs, hos, ht, hOth, fun b hb' hn => hb b hb' fun h => hn (.inl (hFS 0 b h))⟩
    · rw [hm6]
      exact OutsOk.rw (o := [.sl e (sortBy cf l (T.dflt e))]) (os := []) (R := fun _ => False) ⟨[.arr e (sortBy cf l (T.dflt e))], rfl, ⟨rfl, trivial⟩, OwnDs.cons ho .nil (fun _ _ h => h) (fun _ h => h) (fun _ h => h.elim)⟩ (.ro .nil) fun _ _ h => h
    · rcases hb with hb | hb | hb
      · exact hb.elim
      · exact ⟨hMK b (.inl (hFS 0 b hb)), Nat.lt_of_lt_of_le (hlt b (.inl (.inl (hFS 0 b hb)))) hs, .inl (.inl (hFS 0 b hb))⟩
      · exact hb.elim
  rcases Nat.eq_zero_or_pos l.length with hl | hl
  · have hl0 : l = [] := List.eq_nil_of_length_eq_zero hl
    have h := AnyF.slices_SortFunc_none (P := P) (ρ := ρ) L A c (.func (.func g) #[] cb.toArray) w
    rw [← hl] at h
    refine h.mono ?_
    rintro en w' ⟨rfl, rfl⟩
    refine ⟨_, rfl, ?_⟩
    refine post [] w' ?_ ?_ (Nat.le_refl _) rfl rfl (Oth.refl _) fun _ _ _ => rfl
    · subst hl0; rfl
    · subst hl0
      exact hown
  · obtain ⟨m, hl⟩ : ∃ m, l.length = m + 1 := ⟨l.length - 1, by omega⟩
    have hne : l ≠ [] := fun h => by rw [h] at hl; cases hl
    obtain ⟨b, off, rfl⟩ := hA.hA hne
    have hc0 : 0 < c := by have := hA.hc; omega
    obtain ⟨b', off', cs, el, hbo, hSb, hheap, hbound⟩ := hA.hblk hc0
    simp only [Option.some.injEq, Addr.mk.injEq] at hbo
    obtain ⟨rfl, rfl, _⟩ := hbo
    have hSO := hO m hl
    have hblk : b < w.heap.size := hlt b (.inl (.inl (hFS 0 b hSb)))
    have hrow : ∀ i, (row T e l i).length = T.size e := fun i => hT.len _ _
    have hcell : ∀ i j, i < m + 1 → j < T.size e → w.cell? ⟨b, off + i * T.size e + j, none⟩ = some (vals i j) := fun i j hi hj => by
      obtain ⟨b2, off2, h1, h2⟩ := hA.hcell i j _ (by omega) (List.getElem?_eq_getElem (by rw [hrow]; exact hj))
      simp only [Option.some.injEq, Addr.mk.injEq] at h1
      obtain ⟨rfl, rfl, _⟩ := h1
      exact h2
    have hone : ∀ i j, i < m + 1 → j < T.size e → (vals i j).oneCell' = true := fun i j hi hj => by
      have := hA.hsub i j _ (by omega) (List.getElem?_eq_getElem (by rw [hrow]; exact hj))
      exact (OwnD.rep this).one
    have h0 : HoldsK (encRow vals (T.size e)) (T.size e) w b off (allFin m) := by
      intro t ht
      rw [size_flatK, allFin_size] at ht
      have hq : t / T.size e < m + 1 := (Nat.div_lt_iff_lt_mul hk).2 ht
      have hr' : t % T.size e < T.size e := Nat.mod_lt _ hk
      refine ⟨?_, ?_⟩
      · rw [get_flatK _ _ _ _ (by rw [allFin_size]; exact ht)]
        have hx : (allFin m)[t / T.size e]! = ⟨t / T.size e, hq⟩ := by
          rw [getElem!_pos _ _ (by rw [allFin_size]; exact hq)]; simp [allFin]
        rw [hx, encRow_get _ _ _ hr']
        have := hcell _ _ hq hr'
        rw [Nat.add_assoc, Nat.div_add_mod'] at this
        exact this
      · have hcc := hA.hc
        have hle : (m + 1) * T.size e ≤ c * T.size e := Nat.mul_le_mul_right _ (by omega)
        simp only [World.frozen?, hheap, Bool.and_eq_false_iff, decide_eq_false_iff_not]
        cases el.2 with
        | true => left; simp only [fzE, cond_true]; omega
        | false => right; simp only [fzE, cond_false]; omega
    have hF' : ∀ i j b', F i j b' → b' ≠ b ∧ b' < w.heap.size ∧ F0 0 b' := fun i j b' h => ⟨fun x => (hA.hF i j b' h).2 b off rfl x, hlt b' (.inl (.inl (hFS 0 b' (hA.hF i j b' h).1))), (hA.hF i j b' h).1⟩
    have hKb : ∀ b', K b' → b' ≠ b := fun b' h x => by subst x; exact hMK b' (.inl (hFS 0 b' hSb)) h
    have hcmp : CmpLays P g cb.toArray (encRow vals (T.size e)) (T.size e) (fun i j : Fin (m + 1) => cf i j) b off (allFin m).size w := by
      intro q os dk hdk x y
      obtain ⟨_, hcall⟩ := hc x y (by have := x.isLt; omega) (by have := y.isLt; omega)
      have hargs2 : ArgsOk T (sortWorldK (encRow vals (T.size e)) (T.size e) w b off q dk os) (fun b => K b ∨ ∃ i j, F i j b) (T.sg g).modes (.val true (row T e l x) :: .val true (row T e l y) :: caps) (.agg (encRow vals (T.size e) x).toArray :: .agg (encRow vals (T.size e) y).toArray :: cb) fun _ => False := by
        have hrep : ∀ z : Fin (m + 1), ArgRo T (sortWorldK (encRow vals (T.size e)) (T.size e) w b off q dk os) (fun b => K b ∨ ∃ i j, F i j b) (.val true (row T e l z)) (.agg (encRow vals (T.size e) z).toArray) := fun z => by
          refine ⟨_, rfl, by rw [encRow_len, hrow], fun j d v hd hv => ?_⟩
          obtain ⟨hj, rfl⟩ := encRow_get? _ _ _ hv
          have := hA.hsub z j d (by have := z.isLt; omega) hd
          exact (OwnD.rep (show OwnD T w d (vals z j) (F z j) from this)).mono (fun b' hb' => .inr ⟨z, j, hb'⟩) fun b' hb' => sw_other (hF' _ _ _ hb').1 (hF' _ _ _ hb').2.1
        refine argsRo (by rw [hm]; rfl) (by simp [hcl]) fun j a v ha hv => ?_
        match j, ha, hv with
        | 0, ha, hv => simp at ha hv; subst ha; subst hv; exact hrep x
        | 1, ha, hv => simp at ha hv; subst ha; subst hv; exact hrep y
        | j + 2, ha, hv => exact capRo_world (hcb j a v (by simpa using ha) (by simpa using hv)) (fun _ h => .inl h) fun b' hb' => sw_other (hKb b' hb') (hlt b' (.inr hb'))
      have hcall := hcall _ _ _ _ hargs2 (selfOk_caps hcl hcb) (fun _ h => h.elim) fun b' hb' => by
        refine Nat.lt_of_lt_of_le ?_ sw_size
        rcases hb' with h | h | ⟨i, j, h⟩
        · exact h.elim
        · exact hlt b' (.inr h)
        · exact (hF' i j b' h).2.1
      have hv : (.agg (encRow vals (T.size e) x).toArray :: .agg (encRow vals (T.size e) y).toArray :: cb : List Value).toArray = #[.agg (encRow vals (T.size e) x).toArray, .agg (encRow vals (T.size e) y).toArray] ++ cb.toArray := by simp
      rw [hv] at hcall
      refine hcall.mono ?_
      rintro en w' ⟨v, rfl, hp⟩
      obtain ⟨K', R, R', us, rfl, hrets, _⟩ := hp.ex
      rw [hr] at hrets
      have := ret_int hrets
      subst this
      exact ⟨rfl, grow_of hp.size hp.os hp.tape hp.output fun b' hb' => hp.block b' hb' fun h => h⟩
    have h := AnyQ.slices_SortFunc_eq (P := P) (ρ := ρ) L (T.size e) (fun w => by rw [he, run_isAgg hT hk, hag]) (fun w => by rw [he]; exact run_size hT hk w) (encRow vals (T.size e)) (encRow_len _ _) (fun x v hv => by
      obtain ⟨j, hj⟩ := List.mem_iff_getElem?.1 hv
      obtain ⟨h1, rfl⟩ := encRow_get? _ _ _ hj
      exact hone x j x.isLt h1) (fun i j : Fin (m + 1) => cf i j) hSO g cb.toArray b off c (allFin m) w ((hc 0 0 (by omega) (by omega)).1) hcmp h0 hblk (by rw [allFin_size]; omega)
    have hsz : (allFin m).size = l.length := by rw [allFin_size, hl]
    rw [hsz] at h
    refine h.mono ?_
    rintro en w' ⟨rfl, q, os, rfl⟩
    refine ⟨_, rfl, ?_⟩
    obtain ⟨ha1, ha2, ha3⟩ := sortArr_ok hSO
    have hnd : (sortArr cf m).toList.Nodup := ha2.nodup_iff.2 (allFin_nodup m)
    have hd' : pdq (ltOf fun i j : Fin (m + 1) => cf i j) (allFin m) 0 l.length (Lib.bitLen l.length) true true = sortArr cf m := by
      unfold sortArr; rw [hsz]
    rw [hd']
    have hlen' : (sortBy cf l (T.dflt e)).length = m + 1 := by unfold sortBy; rw [hl]; simp [sortIx, ha1]
    refine post _ _ rfl ?_ sw_size rfl rfl (sw_oth hheap) fun b' hb' hn => sw_other (fun x => hn (x ▸ hSb)) hb'
    have hget : ∀ i (hi : i < m + 1), (sortBy cf l (T.dflt e)).getD i (T.dflt e) = l.getD ((sortArr cf m)[i]'(by rw [ha1]; exact hi)).val (T.dflt e) := fun i hi => by
      unfold sortBy
      rw [hl]
      simp [sortIx, ha1, hi, List.getD_eq_getElem?_getD]
    have hrw : ∀ i (hi : i < m + 1), row T e (sortBy cf l (T.dflt e)) i = row T e l ((sortArr cf m)[i]'(by rw [ha1]; exact hi)).val := fun i hi => by unfold row; rw [hget i hi]
    have hp : ∀ i, ∃ p : Nat, p < m + 1 ∧ ∀ hi : i < m + 1, p = ((sortArr cf m)[i]'(by rw [ha1]; exact hi)).val := fun i => by
      by_cases hi : i < m + 1
      · exact ⟨_, ((sortArr cf m)[i]'(by rw [ha1]; exact hi)).isLt, fun _ => rfl⟩
      · exact ⟨0, by omega, fun h => absurd h hi⟩
    let p : Nat → Nat := fun i => Classical.choose (hp i)
    have hp1 : ∀ i, p i < m + 1 := fun i => (Classical.choose_spec (hp i)).1
    have hp2 : ∀ i (hi : i < m + 1), p i = ((sortArr cf m)[i]'(by rw [ha1]; exact hi)).val := fun i hi => (Classical.choose_spec (hp i)).2 hi
    rw [show l.length = (sortBy cf l (T.dflt e)).length from hl.trans hlen'.symm]
    refine (OwnD.arr_iff K).2 ⟨_, _, fun i j => vals (p i) j, fun i j b' => i < m + 1 ∧ F (p i) j b', rfl, ?_⟩
    refine ⟨by rw [hlen', ← hl]; exact hA.hc, fun _ => ⟨_, _, rfl⟩, fun _ => ?_, fun i j d hi hd => ?_, fun i j d hi hd => ?_, fun i j b' hb' => hA.hF _ _ _ hb'.2, fun i j i' j' b' h1 h2 => ?_⟩
    · obtain ⟨cs', h1, h2⟩ := sw_blk (enc := encRow vals (T.size e)) (k := T.size e) (off := off) (m := q) (dk := sortArr cf m) (os := os) hheap
      rw [← h2] at h1
      exact ⟨b, off, cs', el, rfl, hSb, h1, by rw [h2]; exact hbound⟩
    · rw [hlen'] at hi
      refine ⟨b, off, rfl, ?_⟩
      have hj : j < T.size e := by rw [← hT.len e]; exact (List.getElem?_eq_some_iff.1 hd).1
      have hh := holdsK_sortWorldK_c (encRow vals (T.size e)) (T.size e) w b off (allFin m) (sortArr cf m) q os h0 hblk (by rw [ha1, allFin_size])
      rw [(HoldsK.cell hh (i := i) (c := j) (by rw [ha1]; exact hi) hj).1, getElem!_pos _ i (by rw [ha1]; exact hi), encRow_get _ _ _ hj, hp2 i hi]
    · rw [hlen'] at hi
      rw [hrw i hi, ← hp2 i hi] at hd
      have := hA.hsub (p i) j d (by rw [hl]; exact hp1 i) hd
      exact ((OwnD.mono (w' := sortWorldK (encRow vals (T.size e)) (T.size e) w b off q (sortArr cf m) os) (show OwnD T w d (vals (p i) j) (F (p i) j) from this)) fun b' hb' => sw_other (hF' _ _ _ hb').1 (hF' _ _ _ hb').2.1).wider fun b' hb' => ⟨hi, hb'⟩
    · obtain ⟨h3, h4⟩ := hA.hdis _ _ _ _ _ h1.2 h2.2
      refine ⟨?_, h4⟩
      rw [hp2 i h1.1, hp2 i' h2.1] at h3
      have h5 := Fin.ext h3
      have hnd2 : ∀ (a b : Nat) (ha : a < (sortArr cf m).size) (hb : b < (sortArr cf m).size), a < b → (sortArr cf m)[a] ≠ (sortArr cf m)[b] := fun a b ha hb hab => by
        have := List.pairwise_iff_getElem.1 hnd a b (by simpa using ha) (by simpa using hb) hab
        simpa using this
      rcases Nat.lt_trichotomy i i' with hlt' | heq | hgt
      · exact absurd h5 (hnd2 i i' (by rw [ha1]; exact h1.1) (by rw [ha1]; exact h2.1) hlt')
      · exact heq
      · exact absurd h5.symm (hnd2 i' i (by rw [ha1]; exact h2.1) (by rw [ha1]; exact h1.1) hgt)
theorem sortL_call (hT : TblOk P T) {ρ : Ren} (L : SlLaysF0.n6 P ρ) {e : Nat} (he : ρ.t 24 = e) (hag : Go.Sm.isAgg T e = true) (hk : 0 < T.size e)
    {g : Nat} {caps : List (A T)} (hm : (T.sg g).modes = List.replicate (caps.length + 1 + 1) .ro) (hr : (T.sg g).rk = .own) (hm6 : (T.sg (ρ.f 6)).modes = [.rws, .ro])
    {d : T.U e} (hd : d = T.dflt e) {cmp : T.U e → T.U e → Option Int}
    (hc : ∀ x y c, cmp x y = some c → CallOk P T g (.val true (T.dget e x) :: .val true (T.dget e y) :: caps) ⟨[.val false [.int .i64 c]], []⟩)
    {l y : List (T.U e)} (h : sortL d cmp l = some y) (hgs : Nat.blt g SLF = true := by rfl) : CallOk P T (ρ.f 6) [.val false [.arr e l], .fn g caps] ⟨[], [.sl e y]⟩ := by
  unfold sortL at h
  split at h
  · rename_i hh
    obtain ⟨h1, h2, h3⟩ := hh
    cases h
    subst hd
    refine sort_call hT L he hag hk hm hr hm6 l _ (fun i j hi hj => hc _ _ _ ?_) h2 h3 hgs
    have := h1 i hi j hj
    unfold cmpI
    cases hx : cmp (l.getD i (T.dflt e)) (l.getD j (T.dflt e)) with
    | none => rw [hx] at this; cases this
    | some c => rfl
  · cases h
end Go.Sm
end
