import Derived.Test.YtjilmfkglikoeaaEngA
import Derived.Shelf.SlSortCmp.NoneTotal
import Derived.Test.YtjilmfkglikoeaaEngD
import Derived.Shelf.SlLaysE
import Derived.Shelf.SlicesE.Kit
import Derived.Shelf.RegionOpenPlain
import Derived.WalkKit
import Derived.Deep.LoopGhost
import Derived.Deep.RegionLaw
import Derived.Deep.MidRow
import Derived.Lib.Walk
import Derived.Sort.WalkB12
import Derived.Lib.SliceRun
import Derived.Lib.SlicesDelete
/- An evaluator over data for the code of the program, and its law: what it computes is what the model computes. Part 5 of 5. -/
section
set_option linter.unusedSimpArgs false
set_option linter.deprecated false
set_option linter.unusedSectionVars false
set_option linter.unusedVariables false
namespace Go.Sm
open Go.Sort Go.Proofs Go.Shelf
/-! ### What a sort leaves: a list of places -/
def allFin (m : Nat) : Array (Fin (m + 1)) := Array.ofFn fun i => i
def sortArr (cf : Nat → Nat → Int) (m : Nat) : Array (Fin (m + 1)) := pdq (ltOf fun i j : Fin (m + 1) => cf i j) (allFin m) 0 (allFin m).size (Lib.bitLen (allFin m).size) true true
def sortIx (cf : Nat → Nat → Int) : Nat → List Nat
  | 0 => []
  | m + 1 => (sortArr cf m).toList.map Fin.val
def sortBy {U : Type} (cf : Nat → Nat → Int) (l : List U) (d : U) : List U := (sortIx cf l.length).map fun i => l.getD i d
theorem allFin_size (m : Nat) : (allFin m).size = m + 1 := by simp [allFin]
theorem allFin_nodup (m : Nat) : (allFin m).toList.Nodup := by
  unfold List.Nodup; rw [List.pairwise_iff_getElem]
  intro i j hi hj hij h
  have h := congrArg Fin.val h
  simp only [allFin, Array.getElem_toList, Array.getElem_ofFn] at h
  omega
theorem extract_all {α : Type} (d : Array α) (n : Nat) (h : d.size = n) : (d.extract 0 n).toList = d.toList := by subst h; simp
theorem sortArr_ok {cf : Nat → Nat → Int} {m : Nat} (hO : SWO (ltOf fun i j : Fin (m + 1) => cf i j)) :
    (sortArr cf m).size = m + 1 ∧ (sortArr cf m).toList.Perm (allFin m).toList ∧ SortedIn (ltOf fun i j : Fin (m + 1) => cf i j) 0 (m + 1) (sortArr cf m) := by
  have h := pdq_sorts (ltOf fun i j : Fin (m + 1) => cf i j) hO (allFin m) 0 (allFin m).size (Lib.bitLen (allFin m).size) true true (Nat.zero_le _) (Nat.le_refl _) (Or.inl rfl)
  have hs : (sortArr cf m).size = m + 1 := h.1.1.trans (allFin_size m)
  refine ⟨hs, ?_, by have := h.2; unfold sortArr; rw [allFin_size] at this ⊢; exact this⟩
  have h2 := h.1.2.2
  rw [extract_all _ _ rfl] at h2
  have h3 := extract_all (sortArr cf m) (allFin m).size h.1.1
  unfold sortArr at h3
  rw [h3] at h2
  exact h2
def cmpI {U : Type} (d : U) (cmp : U → U → Option Int) (l : List U) (i j : Nat) : Int := (cmp (l.getD i d) (l.getD j d)).getD 0
open Classical in
/-- A sort by a compare that answers for each two of the list, and tells an order of them. -/
noncomputable def sortL {U : Type} (d : U) (cmp : U → U → Option Int) (l : List U) : Option (List U) :=
  if (∀ i, i < l.length → ∀ j, j < l.length → (cmp (l.getD i d) (l.getD j d)).isSome = true) ∧ (∀ m, l.length = m + 1 → SWO (ltOf fun i j : Fin (m + 1) => cmpI d cmp l i j)) ∧ l.length < 4611686018427387904 then some (sortBy (cmpI d cmp l) l d) else none
theorem sortL_ok {U : Type} {d : U} {cmp : U → U → Option Int} {cf : U → U → Int} {l : List U} (hc : ∀ x ∈ l, ∀ y ∈ l, cmp x y = some (cf x y)) (h1 : ∀ x ∈ l, ¬ cf x x < 0) (h2 : ∀ x ∈ l, ∀ y ∈ l, ∀ z ∈ l, cf x y < 0 → cf y z < 0 → cf x z < 0)
    (h3 : ∀ x ∈ l, ∀ y ∈ l, ∀ z ∈ l, ¬ cf x y < 0 → ¬ cf y z < 0 → ¬ cf x z < 0) (hl : l.length < 4611686018427387904) : ∃ l', sortL d cmp l = some l' ∧ l'.Perm l ∧ l'.Pairwise fun x y => ¬ cf y x < 0 := by
  have hm : ∀ i, i < l.length → l.getD i d ∈ l := fun i hi => by
    rw [List.getD_eq_getElem?_getD, List.getElem?_eq_getElem hi]; exact List.getElem_mem hi
  have hcm : ∀ i j, i < l.length → j < l.length → cmpI d cmp l i j = cf (l.getD i d) (l.getD j d) := fun i j hi hj => by
    unfold cmpI; rw [hc _ (hm i hi) _ (hm j hj)]; rfl
  have hS : ∀ m, l.length = m + 1 → SWO (ltOf fun i j : Fin (m + 1) => cmpI d cmp l i j) := fun m hlm => by
    have hlt : ∀ i : Fin (m + 1), i.val < l.length := fun i => by have := i.isLt; omega
    refine ⟨fun x => ?_, fun x y z hx hy => ?_, fun x y z hx hy => ?_⟩
    · simp only [ltOf, hcm _ _ (hlt x) (hlt x), decide_eq_false_iff_not]; exact h1 _ (hm _ (hlt x))
    · simp only [ltOf, hcm _ _ (hlt x) (hlt y), hcm _ _ (hlt y) (hlt z), hcm _ _ (hlt x) (hlt z), decide_eq_true_eq] at *; exact h2 _ (hm _ (hlt x)) _ (hm _ (hlt y)) _ (hm _ (hlt z)) hx hy
    · simp only [ltOf, hcm _ _ (hlt x) (hlt y), hcm _ _ (hlt y) (hlt z), hcm _ _ (hlt x) (hlt z), decide_eq_false_iff_not] at *; exact h3 _ (hm _ (hlt x)) _ (hm _ (hlt y)) _ (hm _ (hlt z)) hx hy
  refine ⟨sortBy (cmpI d cmp l) l d, ?_, ?_, ?_⟩
  · unfold sortL
    rw [if_pos ⟨fun i hi j hj => by rw [hc _ (hm i hi) _ (hm j hj)]; rfl, hS, hl⟩]
  · unfold sortBy
    cases hlm : l.length with
    | zero => have : l = [] := List.eq_nil_of_length_eq_zero hlm; subst this; exact .nil
    | succ m =>
      obtain ⟨a1, a2, a3⟩ := sortArr_ok (hS m hlm)
      have hp : ((sortArr (cmpI d cmp l) m).toList.map Fin.val).Perm (List.range (m + 1)) := by
        have := a2.map Fin.val
        have e : (allFin m).toList.map Fin.val = List.range (m + 1) := by
          apply List.ext_getElem
          · simp [allFin]
          · intro i h1 h2; simp only [List.getElem_map, allFin, Array.getElem_toList, Array.getElem_ofFn, List.getElem_range]
        rw [e] at this
        exact this
      refine (hp.map fun i => l.getD i d).trans ?_
      have : (List.range (m + 1)).map (fun i => l.getD i d) = l := by
        apply List.ext_getElem
        · simp [hlm]
        · intro i h1 h2; simp [List.getD_eq_getElem?_getD, h2]
      rw [this]
  · unfold sortBy
    cases hlm : l.length with
    | zero => exact .nil
    | succ m =>
      obtain ⟨a1, a2, a3⟩ := sortArr_ok (hS m hlm)
      rw [List.pairwise_iff_getElem]
      intro i j hi hj hij
      have hi' : i < m + 1 := by simpa [sortIx, a1] using hi
      have hj' : j < m + 1 := by simpa [sortIx, a1] using hj
      have h := a3 i j (Nat.zero_le _) hij hj'
      rw [getElem!_pos _ i (by rw [a1]; exact hi'), getElem!_pos _ j (by rw [a1]; exact hj')] at h
      have hlt : ∀ x : Fin (m + 1), x.val < l.length := fun x => by have := x.isLt; omega
      simp only [ltOf, hcm _ _ (hlt _) (hlt _), decide_eq_false_iff_not] at h
      simpa [sortIx] using h
/-- A part of a list is taken out. -/
def delL {U : Type} (l : List U) (i j : Int) : Option (List U) := if 0 ≤ i ∧ i < j ∧ j ≤ (l.length : Int) ∧ (l.length : Int) ≤ 9223372036854775807 then some (l.take i.toNat ++ l.drop j.toNat) else none
end Go.Sm
end

section
set_option linter.unusedSimpArgs false
set_option linter.deprecated false
set_option linter.unusedSectionVars false
set_option linter.unusedVariables false
namespace Go.Sm
open Go.Sort Go.Proofs Go.Shelf
variable {T : Tbl} {P : Program}
/-- Where no block has changed the world has drawn and grown. -/
theorem grow_of {w w' : World} (hs : w.heap.size ≤ w'.heap.size) (ho : w'.os = w.os) (ht : w'.tape = w.tape) (hO : Oth w w') (hb : ∀ b, b < w.heap.size → w'.heap[b]? = w.heap[b]?) :
    ∃ (q : Nat) (os : Array Obj), w' = grow (w.drewN q) os := by
  refine ⟨w'.drawn - w.drawn, w'.heap.extract w.heap.size w'.heap.size, ?_⟩
  have hh : w.heap ++ w'.heap.extract w.heap.size w'.heap.size = w'.heap := by
    apply Array.ext_getElem?
    intro i
    by_cases c : i < w.heap.size
    · rw [Array.getElem?_append_left c, hb i c]
    · rw [Array.getElem?_append_right (by omega)]
      by_cases c2 : i < w'.heap.size
      · rw [Array.getElem?_extract, if_pos (by omega)]
        congr 1; omega
      · rw [Array.getElem?_eq_none (by simp; omega), Array.getElem?_eq_none (by omega)]
  have hd := hO.drawn
  cases w' with
  | mk h t d o u =>
    cases w with
    | mk h0 t0 d0 o0 u0 =>
      have e1 := hO.output
      simp only at ho ht e1 hh hd
      subst ho ht e1
      show _ = (⟨h0 ++ _, _, d0 + (d - d0), _, _⟩ : World)
      simp only [World.mk.injEq, true_and, and_true]
      refine ⟨hh.symm, rfl, ?_, rfl, rfl⟩
      have hd2 : d0 ≤ d := hd
      show d = d0 + (d - d0)
      omega

/-! ### The worlds that a sort passes through -/
section
variable {α : Type} [Inhabited α] {enc : α → List Value} {k : Nat} {w : World} {blk off m : Nat} {dk : Array α} {os : Array Obj}
theorem sw_other {b : Nat} (h : b ≠ blk) (hb : b < w.heap.size) : (sortWorldK enc k w blk off m dk os).heap[b]? = w.heap[b]? := by
  unfold sortWorldK
  rw [heap_grow_old _ _ (by simpa [putRowK] using hb)]
  simp [putRowK, putRow, mapBlock, Array.getElem?_modify, Ne.symm h, Sort.ahead]
theorem sw_blk {cs : Array Value} {el : Nat} {fz : Nat × Nat} (h : w.heap[blk]? = some (.cells cs el fz)) : ∃ cs' : Array Value, (sortWorldK enc k w blk off m dk os).heap[blk]? = some (.cells cs' el fz) ∧ cs'.size = cs.size := by
  have hb : blk < w.heap.size := (Array.getElem?_eq_some_iff.1 h).1
  unfold sortWorldK
  rw [heap_grow_old _ _ (by simpa [putRowK] using hb)]
  refine ⟨putCells id off (flatK enc k dk) cs, ?_, by simp [putCells]⟩
  simp [putRowK, putRow, mapBlock, Array.getElem?_modify, Sort.ahead, h, onCells]
theorem sw_size : w.heap.size ≤ (sortWorldK enc k w blk off m dk os).heap.size := size_sortWorldK_c enc k w blk off m dk os
theorem sw_oth {cs : Array Value} {el : Nat} {fz : Nat × Nat} (h : w.heap[blk]? = some (.cells cs el fz)) : Oth w (sortWorldK enc k w blk off m dk os) := by
  refine ⟨rfl, Nat.le_add_right _ _, fun b cs0 el0 fz0 hb => ?_⟩
  by_cases e : b = blk
  · subst e; exact sw_blk hb
  · exact ⟨cs0, (sw_other e (Array.getElem?_eq_some_iff.1 hb).1).trans hb, rfl⟩
end

/-! ### The compare's calls -/
theorem argsRo {w : World} {K : Nat → Prop} : ∀ {ars : List (A T)} {vs : List Value} {ms : List Mode}, ms = List.replicate ars.length .ro → vs.length = ars.length → (∀ (j : Nat) (a : A T) (v : Value), ars[j]? = some a → vs[j]? = some v → ArgRo T w K a v) → ArgsOk T w K ms ars vs fun _ => False
  | [], [], ms, hm, _, _ => by subst hm; exact .nil
  | [], _ :: _, _, _, h, _ => by simp at h
  | _ :: _, [], _, _, h, _ => by simp at h
  | a :: ars, v :: vs, ms, hm, hl, h => by
    subst hm
    exact .ro (h 0 a v rfl rfl) (argsRo rfl (by simpa using hl) fun j a' v' h1 h2 => h (j + 1) a' v' (by simpa using h1) (by simpa using h2))
theorem RepDs.world {w w' : World} {K K' : Nat → Prop} {ds : List (D T.U)} {vs : List Value} (h : RepDs T w K ds vs) (hK : ∀ b, K b → K' b) (hw : ∀ b, K b → w'.heap[b]? = w.heap[b]?) : RepDs T w' K' ds vs :=
  ⟨h.1, fun j d v hd hv => (h.2 j d v hd hv).mono hK hw⟩
theorem capRo_world {w w' : World} {K K' : Nat → Prop} {a : A T} {v : Value} (h : CapRo T w K a v) (hK : ∀ b, K b → K' b) (hw : ∀ b, K b → w'.heap[b]? = w.heap[b]?) : ArgRo T w' K' a v := by
  cases a with
  | val ag ds =>
    cases ag with
    | true => exact h.elim
    | false => exact RepDs.world h hK hw
  | ptr t x =>
    obtain ⟨b, off, vals, e1, e2⟩ := h
    exact ⟨b, off, vals, e1, fun j d hj => by
      obtain ⟨h1, h2, h3⟩ := e2 j d hj
      exact ⟨hK b h1, by rw [cell_same (hw b h1)]; exact h2, h3.mono hK hw⟩⟩
  | _ => exact h.elim
theorem ret_int {w : World} {K' R : Nat → Prop} {c : Int} {us : List Value} (h : RetsOk T w K' .own [.val false [.int .i64 c]] us R) : us = [.int .i64 c] := by
  cases h with
  | cons h1 h2 _ =>
    cases h2
    obtain ⟨hl, F, hF, _⟩ := h1
    have := hF 0 _ _ rfl rfl
    cases this
    rfl

/-- A row's cells, by its number. -/
def encRow (vals : Nat → Nat → Value) (k : Nat) {m : Nat} (i : Fin (m + 1)) : List Value := (List.range k).map (vals i)
theorem encRow_len (vals : Nat → Nat → Value) (k : Nat) {m : Nat} (i : Fin (m + 1)) : (encRow vals k i).length = k := by simp [encRow]
theorem encRow_get (vals : Nat → Nat → Value) (k : Nat) {m : Nat} (i : Fin (m + 1)) {j : Nat} (hj : j < k) : (encRow vals k i)[j]! = vals i j := by
  rw [getElem!_pos _ j (by rw [encRow_len]; exact hj)]; simp [encRow]
theorem encRow_get? (vals : Nat → Nat → Value) (k : Nat) {m : Nat} (i : Fin (m + 1)) {j : Nat} {v : Value} (h : (encRow vals k i)[j]? = some v) : j < k ∧ v = vals i j := by
  obtain ⟨h1, h2⟩ := List.getElem?_eq_some_iff.1 h
  rw [encRow_len] at h1
  exact ⟨h1, by rw [← h2]; simp [encRow]⟩

set_option maxHeartbeats 1000000 in
theorem sort_call (hT : TblOk P T) {ρ : Ren} (L : SlLaysF0.n6 P ρ) {e : Nat} (he : ρ.t 24 = e) (hag : Go.Sm.isAgg T e = true) (hk : 0 < T.size e)
    {g : Nat} {caps : List (A T)} (hm : (T.sg g).modes = List.replicate (caps.length + 1 + 1) .ro) (hr : (T.sg g).rk = .own) (hm6 : (T.sg (ρ.f 6)).modes = [.rws, .ro])
    (l : List (T.U e)) (cf : Nat → Nat → Int)
    (hc : ∀ i j, i < l.length → j < l.length → CallOk P T g (.val true (row T e l i) :: .val true (row T e l j) :: caps) ⟨[.val false [.int .i64 (cf i j)]], []⟩)
    (hO : ∀ m, l.length = m + 1 → SWO (ltOf fun i j : Fin (m + 1) => cf i j)) (hlen : l.length < 4611686018427387904) :
    CallOk P T (ρ.f 6) [.val false [.arr e l], .fn g caps] ⟨[], [.sl e (sortBy cf l (T.dflt e))]⟩ := by
  refine ⟨L.f6.enters rfl, fun w K M vs hargs hMK hlt => ?_⟩
  rw [hm6] at hargs
  cases hargs with
  | @rw _ _ vs' S _ _ v S1 h1 h2 h3 =>
  cases h2 with
  | rw h4 _ _ => exact (argRw_ro h4).elim
  | @ro _ _ vs2 _ _ vf h4 h5 =>
  cases h5
  obtain ⟨hl1, F0, hF0, hFS, _⟩ := h1
  have hown := hF0 0 _ _ rfl rfl
  obtain ⟨A, c, vals, F, rfl, hA⟩ := (OwnD.arr_iff K).1 hown
  obtain ⟨cb, rfl, hcl, hcb⟩ := h4
  -- how it ends
  have post : ∀ (l' : List (T.U e)) (w' : World), l' = sortBy cf l (T.dflt e) → OwnD T w' (.arr e l') (.slice A l.length c) (F0 0) → w.heap.size ≤ w'.heap.size → w'.os = w.os → w'.tape = w.tape → Oth w w' → (∀ b, b < w.heap.size → ¬ F0 0 b → w'.heap[b]? = w.heap[b]?) →
      Post T w K (fun b => S1 b ∨ False) (T.sg (ρ.f 6)) [.val false [.arr e l], .fn g caps] [.slice A l.length c, .func (.func g) #[] cb.toArray] ⟨[], [.sl e (sortBy cf l (T.dflt e))]⟩ (.tuple #[]) w' := by
    intro l' w' hl' ho hs hos ht hOth hb
    subst hl'
    refine ⟨⟨K, fun _ => False, fun b => F0 0 b ∨ False, [], rfl, .nil, ?_, fun _ h => h.elim, fun b hb => ?_, fun _ h => h, fun b hb => ⟨Nat.lt_of_lt_of_le (hlt b (.inr hb)) hs, .inl hb⟩⟩, hs, hos, ht, hOth, fun b hb' hn => hb b hb' fun h => hn (.inl (hFS 0 b h))⟩
    · rw [hm6]
      exact OutsOk.rw (o := [.sl e (sortBy cf l (T.dflt e))]) (os := []) (R := fun _ => False) ⟨[.arr e (sortBy cf l (T.dflt e))], rfl, ⟨rfl, trivial⟩, OwnDs.cons ho .nil (fun _ _ h => h) (fun _ h => h) (fun _ h => h.elim)⟩ (.ro .nil) fun _ _ h => h
    · rcases hb with hb | hb | hb
      · exact hb.elim
      · exact ⟨hMK b (.inl (hFS 0 b hb)), Nat.lt_of_lt_of_le (hlt b (.inl (.inl (hFS 0 b hb)))) hs, .inl (.inl (hFS 0 b hb))⟩
      · exact hb.elim
  rcases Nat.eq_zero_or_pos l.length with hl | hl
  · have hl0 : l = [] := List.eq_nil_of_length_eq_zero hl
    have h := AnyF.slices_SortFunc_none (P := P) (ρ := ρ) L A c (.func (.func g) #[] cb.toArray) w
    rw [← hl] at h
    refine h.mono ?_
    rintro en w' ⟨rfl, rfl⟩
    refine ⟨_, rfl, ?_⟩
    refine post [] w' ?_ ?_ (Nat.le_refl _) rfl rfl (Oth.refl _) fun _ _ _ => rfl
    · subst hl0; rfl
    · subst hl0
      exact hown
  · obtain ⟨m, hl⟩ : ∃ m, l.length = m + 1 := ⟨l.length - 1, by omega⟩
    have hne : l ≠ [] := fun h => by rw [h] at hl; cases hl
    obtain ⟨b, off, rfl⟩ := hA.hA hne
    have hc0 : 0 < c := by have := hA.hc; omega
    obtain ⟨b', off', cs, el, hbo, hSb, hheap, hbound⟩ := hA.hblk hc0
    simp only [Option.some.injEq, Addr.mk.injEq] at hbo
    obtain ⟨rfl, rfl, _⟩ := hbo
    have hSO := hO m hl
    have hblk : b < w.heap.size := hlt b (.inl (.inl (hFS 0 b hSb)))
    have hrow : ∀ i, (row T e l i).length = T.size e := fun i => hT.len _ _
    have hcell : ∀ i j, i < m + 1 → j < T.size e → w.cell? ⟨b, off + i * T.size e + j, none⟩ = some (vals i j) := fun i j hi hj => by
      obtain ⟨b2, off2, h1, h2⟩ := hA.hcell i j _ (by omega) (List.getElem?_eq_getElem (by rw [hrow]; exact hj))
      simp only [Option.some.injEq, Addr.mk.injEq] at h1
      obtain ⟨rfl, rfl, _⟩ := h1
      exact h2
    have hone : ∀ i j, i < m + 1 → j < T.size e → (vals i j).oneCell' = true := fun i j hi hj => by
      have := hA.hsub i j _ (by omega) (List.getElem?_eq_getElem (by rw [hrow]; exact hj))
      exact (OwnD.rep this).one
    have h0 : HoldsK (encRow vals (T.size e)) (T.size e) w b off (allFin m) := by
      intro t ht
      rw [size_flatK, allFin_size] at ht
      have hq : t / T.size e < m + 1 := (Nat.div_lt_iff_lt_mul hk).2 ht
      have hr' : t % T.size e < T.size e := Nat.mod_lt _ hk
      refine ⟨?_, ?_⟩
      · rw [get_flatK _ _ _ _ (by rw [allFin_size]; exact ht)]
        have hx : (allFin m)[t / T.size e]! = ⟨t / T.size e, hq⟩ := by
          rw [getElem!_pos _ _ (by rw [allFin_size]; exact hq)]; simp [allFin]
        rw [hx, encRow_get _ _ _ hr']
        have := hcell _ _ hq hr'
        rw [Nat.add_assoc, Nat.div_add_mod'] at this
        exact this
      · have hcc := hA.hc
        have hle : (m + 1) * T.size e ≤ c * T.size e := Nat.mul_le_mul_right _ (by omega)
        simp only [World.frozen?, hheap, Bool.and_eq_false_iff, decide_eq_false_iff_not]
        cases el.2 with
        | true => left; simp only [fzE, cond_true]; omega
        | false => right; simp only [fzE, cond_false]; omega
    have hF' : ∀ i j b', F i j b' → b' ≠ b ∧ b' < w.heap.size ∧ F0 0 b' := fun i j b' h => ⟨fun x => (hA.hF i j b' h).2 b off rfl x, hlt b' (.inl (.inl (hFS 0 b' (hA.hF i j b' h).1))), (hA.hF i j b' h).1⟩
    have hKb : ∀ b', K b' → b' ≠ b := fun b' h x => by subst x; exact hMK b' (.inl (hFS 0 b' hSb)) h
    have hcmp : CmpLays P g cb.toArray (encRow vals (T.size e)) (T.size e) (fun i j : Fin (m + 1) => cf i j) b off (allFin m).size w := by
      intro q os dk hdk x y
      obtain ⟨_, hcall⟩ := hc x y (by have := x.isLt; omega) (by have := y.isLt; omega)
      have hargs2 : ArgsOk T (sortWorldK (encRow vals (T.size e)) (T.size e) w b off q dk os) (fun b => K b ∨ ∃ i j, F i j b) (T.sg g).modes (.val true (row T e l x) :: .val true (row T e l y) :: caps) (.agg (encRow vals (T.size e) x).toArray :: .agg (encRow vals (T.size e) y).toArray :: cb) fun _ => False := by
        have hrep : ∀ z : Fin (m + 1), ArgRo T (sortWorldK (encRow vals (T.size e)) (T.size e) w b off q dk os) (fun b => K b ∨ ∃ i j, F i j b) (.val true (row T e l z)) (.agg (encRow vals (T.size e) z).toArray) := fun z => by
          refine ⟨_, rfl, by rw [encRow_len, hrow], fun j d v hd hv => ?_⟩
          obtain ⟨hj, rfl⟩ := encRow_get? _ _ _ hv
          have := hA.hsub z j d (by have := z.isLt; omega) hd
          exact (OwnD.rep (show OwnD T w d (vals z j) (F z j) from this)).mono (fun b' hb' => .inr ⟨z, j, hb'⟩) fun b' hb' => sw_other (hF' _ _ _ hb').1 (hF' _ _ _ hb').2.1
        refine argsRo (by rw [hm]; rfl) (by simp [hcl]) fun j a v ha hv => ?_
        match j, ha, hv with
        | 0, ha, hv => simp at ha hv; subst ha; subst hv; exact hrep x
        | 1, ha, hv => simp at ha hv; subst ha; subst hv; exact hrep y
        | j + 2, ha, hv => exact capRo_world (hcb j a v (by simpa using ha) (by simpa using hv)) (fun _ h => .inl h) fun b' hb' => sw_other (hKb b' hb') (hlt b' (.inr hb'))
      have hcall := hcall _ _ _ _ hargs2 (fun _ h => h.elim) fun b' hb' => by
        refine Nat.lt_of_lt_of_le ?_ sw_size
        rcases hb' with h | h | ⟨i, j, h⟩
        · exact h.elim
        · exact hlt b' (.inr h)
        · exact (hF' i j b' h).2.1
      have hv : (.agg (encRow vals (T.size e) x).toArray :: .agg (encRow vals (T.size e) y).toArray :: cb : List Value).toArray = #[.agg (encRow vals (T.size e) x).toArray, .agg (encRow vals (T.size e) y).toArray] ++ cb.toArray := by simp
      rw [hv] at hcall
      refine hcall.mono ?_
      rintro en w' ⟨v, rfl, hp⟩
      obtain ⟨K', R, R', us, rfl, hrets, _⟩ := hp.ex
      rw [hr] at hrets
      have := ret_int hrets
      subst this
      exact ⟨rfl, grow_of hp.size hp.os hp.tape hp.output fun b' hb' => hp.block b' hb' fun h => h⟩
    have h := AnyQ.slices_SortFunc_eq (P := P) (ρ := ρ) L (T.size e) (fun w => by rw [he, run_isAgg hT hk, hag]) (fun w => by rw [he]; exact run_size hT hk w) (encRow vals (T.size e)) (encRow_len _ _) (fun x v hv => by
      obtain ⟨j, hj⟩ := List.mem_iff_getElem?.1 hv
      obtain ⟨h1, rfl⟩ := encRow_get? _ _ _ hj
      exact hone x j x.isLt h1) (fun i j : Fin (m + 1) => cf i j) hSO g cb.toArray b off c (allFin m) w ((hc 0 0 (by omega) (by omega)).1) hcmp h0 hblk (by rw [allFin_size]; omega)
    have hsz : (allFin m).size = l.length := by rw [allFin_size, hl]
    rw [hsz] at h
    refine h.mono ?_
    rintro en w' ⟨rfl, q, os, rfl⟩
    refine ⟨_, rfl, ?_⟩
    obtain ⟨ha1, ha2, ha3⟩ := sortArr_ok hSO
    have hnd : (sortArr cf m).toList.Nodup := ha2.nodup_iff.2 (allFin_nodup m)
    have hd' : pdq (ltOf fun i j : Fin (m + 1) => cf i j) (allFin m) 0 l.length (Lib.bitLen l.length) true true = sortArr cf m := by
      unfold sortArr; rw [hsz]
    rw [hd']
    have hlen' : (sortBy cf l (T.dflt e)).length = m + 1 := by unfold sortBy; rw [hl]; simp [sortIx, ha1]
    refine post _ _ rfl ?_ sw_size rfl rfl (sw_oth hheap) fun b' hb' hn => sw_other (fun x => hn (x ▸ hSb)) hb'
    have hget : ∀ i (hi : i < m + 1), (sortBy cf l (T.dflt e)).getD i (T.dflt e) = l.getD ((sortArr cf m)[i]'(by rw [ha1]; exact hi)).val (T.dflt e) := fun i hi => by
      unfold sortBy
      rw [hl]
      simp [sortIx, ha1, hi, List.getD_eq_getElem?_getD]
    have hrw : ∀ i (hi : i < m + 1), row T e (sortBy cf l (T.dflt e)) i = row T e l ((sortArr cf m)[i]'(by rw [ha1]; exact hi)).val := fun i hi => by unfold row; rw [hget i hi]
    have hp : ∀ i, ∃ p : Nat, p < m + 1 ∧ ∀ hi : i < m + 1, p = ((sortArr cf m)[i]'(by rw [ha1]; exact hi)).val := fun i => by
      by_cases hi : i < m + 1
      · exact ⟨_, ((sortArr cf m)[i]'(by rw [ha1]; exact hi)).isLt, fun _ => rfl⟩
      · exact ⟨0, by omega, fun h => absurd h hi⟩
    let p : Nat → Nat := fun i => Classical.choose (hp i)
    have hp1 : ∀ i, p i < m + 1 := fun i => (Classical.choose_spec (hp i)).1
    have hp2 : ∀ i (hi : i < m + 1), p i = ((sortArr cf m)[i]'(by rw [ha1]; exact hi)).val := fun i hi => (Classical.choose_spec (hp i)).2 hi
    rw [show l.length = (sortBy cf l (T.dflt e)).length from hl.trans hlen'.symm]
    refine (OwnD.arr_iff K).2 ⟨_, _, fun i j => vals (p i) j, fun i j b' => i < m + 1 ∧ F (p i) j b', rfl, ?_⟩
    refine ⟨by rw [hlen', ← hl]; exact hA.hc, fun _ => ⟨_, _, rfl⟩, fun _ => ?_, fun i j d hi hd => ?_, fun i j d hi hd => ?_, fun i j b' hb' => hA.hF _ _ _ hb'.2, fun i j i' j' b' h1 h2 => ?_⟩
    · obtain ⟨cs', h1, h2⟩ := sw_blk (enc := encRow vals (T.size e)) (k := T.size e) (off := off) (m := q) (dk := sortArr cf m) (os := os) hheap
      rw [← h2] at h1
      exact ⟨b, off, cs', el, rfl, hSb, h1, by rw [h2]; exact hbound⟩
    · rw [hlen'] at hi
      refine ⟨b, off, rfl, ?_⟩
      have hj : j < T.size e := by rw [← hT.len e]; exact (List.getElem?_eq_some_iff.1 hd).1
      have hh := holdsK_sortWorldK_c (encRow vals (T.size e)) (T.size e) w b off (allFin m) (sortArr cf m) q os h0 hblk (by rw [ha1, allFin_size])
      rw [(HoldsK.cell hh (i := i) (c := j) (by rw [ha1]; exact hi) hj).1, getElem!_pos _ i (by rw [ha1]; exact hi), encRow_get _ _ _ hj, hp2 i hi]
    · rw [hlen'] at hi
      rw [hrw i hi, ← hp2 i hi] at hd
      have := hA.hsub (p i) j d (by rw [hl]; exact hp1 i) hd
      exact ((OwnD.mono (w' := sortWorldK (encRow vals (T.size e)) (T.size e) w b off q (sortArr cf m) os) (show OwnD T w d (vals (p i) j) (F (p i) j) from this)) fun b' hb' => sw_other (hF' _ _ _ hb').1 (hF' _ _ _ hb').2.1).wider fun b' hb' => ⟨hi, hb'⟩
    · obtain ⟨h3, h4⟩ := hA.hdis _ _ _ _ _ h1.2 h2.2
      refine ⟨?_, h4⟩
      rw [hp2 i h1.1, hp2 i' h2.1] at h3
      have h5 := Fin.ext h3
      have hnd2 : ∀ (a b : Nat) (ha : a < (sortArr cf m).size) (hb : b < (sortArr cf m).size), a < b → (sortArr cf m)[a] ≠ (sortArr cf m)[b] := fun a b ha hb hab => by
        have := List.pairwise_iff_getElem.1 hnd a b (by simpa using ha) (by simpa using hb) hab
        simpa using this
      rcases Nat.lt_trichotomy i i' with hlt' | heq | hgt
      · exact absurd h5 (hnd2 i i' (by rw [ha1]; exact h1.1) (by rw [ha1]; exact h2.1) hlt')
      · exact heq
      · exact absurd h5.symm (hnd2 i' i (by rw [ha1]; exact h2.1) (by rw [ha1]; exact h1.1) hgt)
theorem sortL_call (hT : TblOk P T) {ρ : Ren} (L : SlLaysF0.n6 P ρ) {e : Nat} (he : ρ.t 24 = e) (hag : Go.Sm.isAgg T e = true) (hk : 0 < T.size e)
    {g : Nat} {caps : List (A T)} (hm : (T.sg g).modes = List.replicate (caps.length + 1 + 1) .ro) (hr : (T.sg g).rk = .own) (hm6 : (T.sg (ρ.f 6)).modes = [.rws, .ro])
    {d : T.U e} (hd : d = T.dflt e) {cmp : T.U e → T.U e → Option Int}
    (hc : ∀ x y c, cmp x y = some c → CallOk P T g (.val true (T.dget e x) :: .val true (T.dget e y) :: caps) ⟨[.val false [.int .i64 c]], []⟩)
    {l y : List (T.U e)} (h : sortL d cmp l = some y) : CallOk P T (ρ.f 6) [.val false [.arr e l], .fn g caps] ⟨[], [.sl e y]⟩ := by
  unfold sortL at h
  split at h
  · rename_i hh
    obtain ⟨h1, h2, h3⟩ := hh
    cases h
    subst hd
    refine sort_call hT L he hag hk hm hr hm6 l _ (fun i j hi hj => hc _ _ _ ?_) h2 h3
    have := h1 i hi j hj
    unfold cmpI
    cases hx : cmp (l.getD i (T.dflt e)) (l.getD j (T.dflt e)) with
    | none => rw [hx] at this; cases this
    | some c => rfl
  · cases h
end Go.Sm
end

section
set_option linter.unusedSimpArgs false
set_option linter.deprecated false
set_option linter.unusedSectionVars false
namespace Go.Sm
open Go.Shelf Go.RowKit Go.Lib Go.Sort Go.Proofs
/-- slices.Delete, laid: its body, and the types that it meets but the element's own. -/
structure DelLays (P : Program) (ρ : Ren) : Prop where
  mixed : P.follows .mixedOrders = true
  f45 : Bears P (ρ.f 45) (SlBodyN.n45 ρ)
  t0 : P.underlying (ρ.t 0) = some (TypeDesc.tuple #[])
  a0 : ∀ w, (Go.isAgg (ρ.t 0)).run P w = .ok false w
  z0 : ∀ w, (Go.sizeOf (ρ.t 0)).run P w = .ok 1 w
  v0 : ∀ w, (zeroValue (ρ.t 0)).run P w = .ok (Value.tuple #[]) w
  t3 : P.underlying (ρ.t 3) = some (TypeDesc.int IntKind.i64)
  a3 : ∀ w, (Go.isAgg (ρ.t 3)).run P w = .ok false w
  z3 : ∀ w, (Go.sizeOf (ρ.t 3)).run P w = .ok 1 w
  v3 : ∀ w, (zeroValue (ρ.t 3)).run P w = .ok (Value.int IntKind.i64 0) w
  t4 : P.underlying (ρ.t 4) = some (TypeDesc.bool)
  a4 : ∀ w, (Go.isAgg (ρ.t 4)).run P w = .ok false w
  z4 : ∀ w, (Go.sizeOf (ρ.t 4)).run P w = .ok 1 w
  v4 : ∀ w, (zeroValue (ρ.t 4)).run P w = .ok (Value.bool false) w
  t22 : P.underlying (ρ.t 22) = some (TypeDesc.slice (ρ.t 23))
  a22 : ∀ w, (Go.isAgg (ρ.t 22)).run P w = .ok false w
  z22 : ∀ w, (Go.sizeOf (ρ.t 22)).run P w = .ok 1 w
  v22 : ∀ w, (zeroValue (ρ.t 22)).run P w = .ok (Value.slice none 0 0) w
variable {P : Program} {ρ : Ren}
theorem run_clear_k (w : World) (t e ty : TypeId) (z : Value) (ht : P.underlying t = some (.slice e)) (hv : ∀ w, (zeroValue e).run P w = .ok z w) (h1 : ∀ v ∈ z.cells.toList, v.oneCell') (b o n c : Nat) (hn : 0 < n)
    (hc : ∀ j, j < n * z.cells.size → (w.cell? ⟨b, o + j, none⟩).isSome = true) (hf : ∀ j, j < n * z.cells.size → w.frozen? ⟨b, o + j, none⟩ = false) :
    (Builtin.clear_ #[t] ty #[.slice (some ⟨b, o, none⟩) n c]).run P w = .ok (.tuple #[]) (w.setCells b o (Builtin.zeroCells z.cells n).toList) := by
  have hsz : (Builtin.zeroCells z.cells n).toList.length = n * z.cells.size := by simp [Builtin.zeroCells]
  have hst := run_storeCells_cells (P := P) b o (Builtin.zeroCells z.cells n).toList 0 w (by rw [hsz]; simpa using hc) (by rw [hsz]; simpa using hf) (by
    intro v hv'
    simp only [Builtin.zeroCells, Array.toList_map, List.mem_map, Array.mem_toList_iff] at hv'
    obtain ⟨x, hx, rfl⟩ := hv'
    have hx' := Array.mem_range.1 hx
    have hpos : 0 < z.cells.size := by
      rcases Nat.eq_zero_or_pos z.cells.size with h0 | h0
      · rw [h0] at hx'; simp at hx'
      · exact h0
    have hlt : x % z.cells.size < z.cells.size := Nat.mod_lt _ hpos
    rw [getElem!_pos z.cells _ hlt]
    exact h1 _ (by simp))
  simp only [Nat.add_zero] at hst
  obtain ⟨m, rfl⟩ : ∃ m, n = m + 1 := ⟨n - 1, by omega⟩
  simp [Builtin.clear_, run_underlying ht, hv, hst]
set_option maxHeartbeats 4000000 in
set_option maxRecDepth 1000000 in
theorem delK (L : DelLays P ρ) {k : Nat} (_ : 0 < k) (z23 : ∀ w, (Go.sizeOf (ρ.t 23)).run P w = .ok k w) (i0 : TypeInfo) (hi0 : P.info? (ρ.t 23) = some i0) (hz1 : i0.size = k) (z : Value) (v23 : ∀ w, (zeroValue (ρ.t 23)).run P w = .ok z w) (hzk : z.cells.size = k) (hzo : ∀ v ∈ z.cells.toList, v.oneCell')
    (blk off cap i j n : Nat) (cells : List Value) (w : World) (hlen : cells.length = n * k) (hH : ∀ t v, cells[t]? = some v → w.cell? ⟨blk, off + t, none⟩ = some v) (hF : ∀ t, t < n * k → w.frozen? ⟨blk, off + t, none⟩ = false) (h1 : ∀ v ∈ cells, v.oneCell')
    (hcap : n ≤ cap) (hm : n ≤ 9223372036854775807) (hij : i < j) (hj : j ≤ n) :
    Calls P (ρ.f 45) #[.slice (some ⟨blk, off, none⟩) n cap, .int .i64 i, .int .i64 j] w fun e w' => e = .returned (.slice (some ⟨blk, off, none⟩) (i + (n - j)) cap) ∧
      w' = (w.drew.setCells blk (off + i * k) (cells.drop (j * k))).setCells blk (off + (i + (n - j)) * k) (Builtin.zeroCells z.cells (n - (i + (n - j)))).toList := by
  have mixed := L.mixed; have t0 := L.t0; have a0 := L.a0; have z0 := L.z0; have v0 := L.v0; have t3 := L.t3; have a3 := L.a3; have z3 := L.z3; have v3 := L.v3; have t4 := L.t4; have a4 := L.a4; have z4 := L.z4; have v4 := L.v4; have t22 := L.t22; have a22 := L.a22; have z22 := L.z22; have v22 := L.v22
  have hjk : j * k ≤ n * k := Nat.mul_le_mul_right _ hj
  have hijk : i * k ≤ j * k := Nat.mul_le_mul_right _ (by omega)
  obtain ⟨news, hnews⟩ : ∃ news, news = cells.drop (j * k) := ⟨_, rfl⟩
  have hnl : news.length = (n - j) * k := by rw [hnews, List.length_drop, hlen, Nat.sub_mul]
  have hfit : i * k + (n - j) * k ≤ n * k := by rw [← Nat.add_mul]; exact Nat.mul_le_mul_right _ (by omega)
  obtain ⟨A, hA, hsrc⟩ : ∃ A : Addr, (if cap = j then some (⟨blk, off, none⟩ : Addr) else some ⟨blk, off + j * k, none⟩) = some A ∧ Hid (∀ t u, news[t]? = some u → w.drew.cell? (A.add t) = some u) := by
    by_cases h : cap = j
    · refine ⟨⟨blk, off, none⟩, by simp [h], fun t u hu => ?_⟩
      have h0 : news.length = 0 := by rw [hnl, show n - j = 0 from by omega, Nat.zero_mul]
      rw [List.length_eq_zero_iff.1 h0] at hu
      simp at hu
    · refine ⟨⟨blk, off + j * k, none⟩, by simp [h], fun t u hu => ?_⟩
      rw [hnews, List.getElem?_drop] at hu
      rw [Addr.add_lit, Nat.add_assoc]
      exact hH _ _ hu
  have hsome : ∀ t, t < n * k → (w.cell? ⟨blk, off + t, none⟩).isSome = true := fun t ht => by
    rw [hH t cells[t] (List.getElem?_eq_getElem (by omega))]; rfl
  have s1 : Hid (news.length = (n - j) * k) := hnl
  have s2 : Hid (∀ u ∈ news, u.oneCell' = true) := fun u hu => h1 u (by rw [hnews] at hu; exact List.mem_of_mem_drop hu)
  have s3 : Hid (∀ t, t < news.length → (w.drew.cell? ⟨blk, off + i * k + t, none⟩).isSome = true ∧ w.drew.frozen? ⟨blk, off + i * k + t, none⟩ = false) := by
    intro t ht
    rw [hnl] at ht
    rw [Nat.add_assoc]
    exact ⟨hsome _ (by omega), hF _ (by omega)⟩
  obtain ⟨W1, hW1⟩ : ∃ W1, W1 = w.drew.setCells blk (off + i * k) news := ⟨_, rfl⟩
  have hq : (i + (n - j)) * k + (n - (i + (n - j))) * k = n * k := by rw [← Nat.add_mul]; congr 1; omega
  have hcl : ∀ ty, (Builtin.clear_ #[ρ.t 22] ty #[.slice (some ⟨blk, off + (i + (n - j)) * k, none⟩) (n - (i + (n - j))) (cap - (i + (n - j)))]).run P W1 = .ok (.tuple #[]) (W1.setCells blk (off + (i + (n - j)) * k) (Builtin.zeroCells z.cells (n - (i + (n - j)))).toList) :=
    fun ty => run_clear_k W1 _ _ ty z t22 v23 hzo blk (off + (i + (n - j)) * k) _ _ (by omega)
      (fun t ht => by
        rw [hzk] at ht
        rw [hW1, Nat.add_assoc]
        exact World.isSome_setCells blk news _ _ _ (hsome _ (by omega)))
      (fun t ht => by
        rw [hzk] at ht
        rw [hW1, World.frozen?_setCells, Nat.add_assoc]
        exact hF _ (by omega))
  have hW : Hid (W1 = w.drew.setCells blk (off + i * k) news) := hW1
  have hic : i ≤ cap := by omega
  have hjc : j ≤ cap := by omega
  rw [← hnews, ← hW1]
  clear hW1 hH hF hsome hnews hlen hnl hzk hzo
  generalize z.cells = zs at hcl ⊢
  obtain ⟨_, _, FG⟩ := L.f45
  go_enter FG, SlBodyN.n45_ntmps ρ
  go_wp2_with fail
  go_region_law_o (refine step_append_room rfl (.tmp 22) (.tmp 25) (ρ.t 22) rfl (ρ.t 23) i0 k t22 hi0 hz1 blk off i cap (by simp [Act.eval, Act.put]) A (n - j) (cap - j) news (by simp [Act.eval, Act.put]) s1.out hsrc.out s2.out (by omega) s3.out ?_; rw [← hW.out])
  go_wp2
  go_ret
  exact ⟨rfl, rfl⟩
end Go.Sm
end

section
set_option linter.unusedSimpArgs false
set_option linter.deprecated false
set_option linter.unusedSectionVars false
set_option linter.unusedVariables false
namespace Go.Sm
open Go.Proofs Go.Shelf
variable {T : Tbl} {P : Program}
theorem setCells_row {b : Nat} : ∀ (vs : List Value) (o : Nat) (w : World) (cs : Array Value) (t : Nat) (fz : Nat × Nat), w.heap[b]? = some (.cells cs t fz) → ∃ cs' : Array Value, cs'.size = cs.size ∧ w.setCells b o vs = w.setRow b cs'
  | [], o, w, cs, t, fz, h => ⟨cs, rfl, (setRow_self w b cs t fz h).symm⟩
  | v :: r, o, w, cs, t, fz, h => by
    obtain ⟨cs', h1, h2⟩ := setCells_row r (o + 1) (w.setRow b (cs.setIfInBounds o v)) (cs.setIfInBounds o v) t fz (setRow_heap w b cs _ t fz h)
    refine ⟨cs', by rw [h1]; simp, ?_⟩
    show (w.setCell ⟨b, o, none⟩ v).setCells b (o + 1) r = _
    rw [setCell_eq_setRow w b o cs t fz v h, h2, setRow_setRow]
theorem zero_one (hT : TblOk P T) {e : Nat} (hk : 0 < T.size e) {v : Value} (hv : v ∈ T.zero e) : v.oneCell' = true := by
  obtain ⟨z1, z2⟩ := hT.zero e hk
  obtain ⟨j, hj⟩ := List.mem_iff_getElem?.1 hv
  have hlt := (List.getElem?_eq_some_iff.1 hj).1
  have hd := List.getElem?_eq_getElem (l := T.dget e (T.dflt e)) (i := j) (by rw [hT.len]; omega)
  rcases z2 j _ v hd hj with hp | ⟨t', _, hp⟩
  · revert hp
    cases (T.dget e (T.dflt e))[j]'(by rw [hT.len]; omega) <;> intro hp <;> simp only [plainD] at hp <;> (subst hp; rfl)
  · rw [hp]; rfl
set_option maxHeartbeats 1000000 in
theorem del_call (hT : TblOk P T) {ρ : Ren} (L : DelLays P ρ) {e : Nat} (he : ρ.t 23 = e) (hk : 0 < T.size e) (hm : (T.sg (ρ.f 45)).modes = [.mv, .ro, .ro]) (hr : (T.sg (ρ.f 45)).rk = .own)
    (l : List (T.U e)) {i j : Nat} (hij : i < j) (hj : j ≤ l.length) (hl : l.length ≤ 9223372036854775807) :
    CallOk P T (ρ.f 45) [.val false [.arr e l], .val false [.int .i64 (i : Int)], .val false [.int .i64 (j : Int)]] ⟨[.val false [.arr e (l.take i ++ l.drop j)]], []⟩ := by
  refine ⟨L.f45.enters rfl, fun w K M vs hargs hMK hlt => ?_⟩
  rw [hm] at hargs
  cases hargs with
  | @rw _ _ vs' S _ _ v S1 h1 h2 h3 =>
  cases h2 with
  | rw h4 _ _ => exact (argRw_ro h4).elim
  | @ro _ _ vs2 _ _ vi h4 h5 =>
  cases h5 with
  | rw h6 _ _ => exact (argRw_ro h6).elim
  | @ro _ _ vs3 _ _ vj h6 h7 =>
  cases h7
  obtain rfl : vi = .int .i64 (i : Int) := by
    have := (show RepDs T w K [.int .i64 (i : Int)] [vi] from h4).2 0 _ _ rfl rfl
    cases this
    rfl
  obtain rfl : vj = .int .i64 (j : Int) := by
    have := (show RepDs T w K [.int .i64 (j : Int)] [vj] from h6).2 0 _ _ rfl rfl
    cases this
    rfl
  obtain ⟨hl1, F0, hF0, hFS, _⟩ := (show OwnDs T w [.arr e l] [v] S1 from h1)
  have hown := hF0 0 _ _ rfl rfl
  obtain ⟨A, c, vals, F, rfl, hA⟩ := (OwnD.arr_iff K).1 hown
  have hne : l ≠ [] := fun h => by rw [h] at hj; simp at hj; omega
  obtain ⟨b, off, rfl⟩ := hA.hA hne
  have hcap := hA.hc
  obtain ⟨b', off', cs, el, hbo, hSb, hheap, hbound⟩ := hA.hblk (by omega)
  simp only [Option.some.injEq, Addr.mk.injEq] at hbo
  obtain ⟨rfl, rfl, _⟩ := hbo
  have hblk : b < w.heap.size := hlt b (.inl (.inl (hFS 0 b hSb)))
  have hck : l.length * T.size e ≤ c * T.size e := Nat.mul_le_mul_right _ hcap
  have hrow : ∀ i, (row T e l i).length = T.size e := fun i => hT.len _ _
  obtain ⟨i0, g1, g2, g3, z, g4, g5, g6⟩ := hT.info e hk
  have hzk : z.cells.size = T.size e := by rw [← Array.length_toList, g5, (hT.zero e hk).1]
  obtain ⟨N, hN⟩ : ∃ N, N = newsOf l.length (T.size e) vals := ⟨_, rfl⟩
  have hNl : N.length = l.length * T.size e := by rw [hN, newsOf_length]
  have hNget : ∀ r q, r < l.length → q < T.size e → N[r * T.size e + q]? = some (vals r q) := fun r q h1 h2 => by rw [hN]; exact newsOf_get h1 h2
  have hcellw : ∀ t v, N[t]? = some v → w.cell? ⟨b, off + t, none⟩ = some v := fun t v hv => by
    rw [hN] at hv
    obtain ⟨r, q, h1, h2, rfl, rfl⟩ := newsOf_inv hv
    obtain ⟨b2, off2, h3, h4⟩ := hA.hcell r q _ h1 (List.getElem?_eq_getElem (by rw [hrow]; exact h2))
    simp only [Option.some.injEq, Addr.mk.injEq] at h3
    obtain ⟨rfl, rfl, _⟩ := h3
    rw [← Nat.add_assoc]
    exact h4
  have hfro : ∀ t, t < l.length * T.size e → w.frozen? ⟨b, off + t, none⟩ = false := fun t ht => by
    simp only [World.frozen?, hheap, Bool.and_eq_false_iff, decide_eq_false_iff_not]
    cases el.2 with
    | true => left; simp only [fzE, cond_true]; omega
    | false => right; simp only [fzE, cond_false]; omega
  have hone : ∀ v ∈ N, v.oneCell' = true := fun v hv => by
    obtain ⟨t, ht⟩ := List.mem_iff_getElem?.1 hv
    rw [hN] at ht
    obtain ⟨r, q, h1, h2, rfl, rfl⟩ := newsOf_inv ht
    exact (OwnD.rep (show OwnD T w _ (vals r q) (F r q) from hA.hsub r q _ h1 (List.getElem?_eq_getElem (by rw [hrow]; exact h2)))).one
  have hcall := delK (P := P) (ρ := ρ) L hk (fun w => by rw [he]; exact run_size hT hk w) i0 (by rw [he]; exact g1) g2 z (fun w => by rw [he]; simp [zeroValue, run_typeInfo w g1, g4]) hzk (fun v hv => zero_one hT hk (by rw [g5] at hv; exact hv))
    b off c i j l.length N w hNl hcellw hfro hone hcap hl hij hj
  refine hcall.mono ?_
  rintro en w' ⟨rfl, rfl⟩
  refine ⟨_, rfl, ?_⟩
  -- the world behind
  have hdr : w.drew.heap[b]? = some (.cells cs el.1 (fzE el.2 cs.size)) := hheap
  obtain ⟨c1, k1, k2⟩ := setCells_row (N.drop (j * T.size e)) (off + i * T.size e) w.drew cs el.1 _ hdr
  obtain ⟨Z, hZ⟩ : ∃ Z, Z = (Builtin.zeroCells z.cells (l.length - (i + (l.length - j)))).toList := ⟨_, rfl⟩
  rw [← hZ]
  obtain ⟨W, hW⟩ : ∃ W, W = (w.drew.setCells b (off + i * T.size e) (N.drop (j * T.size e))).setCells b (off + (i + (l.length - j)) * T.size e) Z := ⟨_, rfl⟩
  rw [← hW]
  obtain ⟨c2, k3, k4⟩ := setCells_row Z (off + (i + (l.length - j)) * T.size e) (w.drew.setRow b c1) c1 el.1 _ (setRow_heap _ _ _ _ _ _ hdr)
  have hWr : W = w.drew.setRow b c2 := by rw [hW, k2, k4, setRow_setRow]
  have hsz2 : c2.size = cs.size := k3.trans k1
  have hWb : W.heap[b]? = some (cellsE c2 el) := by rw [hWr]; exact setRow_E (w := w.drew) (old := cs) hdr hsz2
  have hWo : ∀ b', b' ≠ b → W.heap[b']? = w.heap[b']? := fun b' hb' => by
    rw [hWr]
    simp only [World.setRow, Array.getElem?_modify]
    rw [if_neg (fun h => hb' h.symm)]
    rfl
  have hWs : W.heap.size = w.heap.size := by rw [hWr]; show (w.heap.modify _ _).size = _; simp
  have hOth : Oth w W := by
    rw [hWr]
    exact Oth.trans (b := w.drew) ⟨rfl, Nat.le_succ _, fun b cs el fz h => ⟨cs, h, rfl⟩⟩ (Oth.setRow (w := w.drew) (old := cs) (el := el) hdr hsz2)
  have hlen' : (l.take i ++ l.drop j).length = i + (l.length - j) := by rw [List.length_append, List.length_take, List.length_drop]; omega
  have hrw : ∀ r, r < i + (l.length - j) → row T e (l.take i ++ l.drop j) r = row T e l (if r < i then r else r + (j - i)) := fun r hr => by
    unfold Go.Sm.row
    congr 1
    rw [List.getD_eq_getElem?_getD, List.getD_eq_getElem?_getD]
    by_cases h : r < i
    · rw [if_pos h, List.getElem?_append_left (by rw [List.length_take]; omega), List.getElem?_take, if_pos h]
    · rw [if_neg h, List.getElem?_append_right (by rw [List.length_take]; omega), List.getElem?_drop, List.length_take]
      congr 2
      omega
  have hp : ∀ r, r < i + (l.length - j) → (if r < i then r else r + (j - i)) < l.length := fun r hr => by split <;> omega
  have hF' : ∀ r q b', F r q b' → b' ≠ b ∧ F0 0 b' := fun r q b' h => ⟨fun x => (hA.hF r q b' h).2 b off rfl x, (hA.hF r q b' h).1⟩
  have hownW : OwnD T W (.arr e (l.take i ++ l.drop j)) (.slice (some ⟨b, off, none⟩) (i + (l.length - j)) c) (F0 0) := by
    refine (OwnD.arr_iff K).2 ⟨some ⟨b, off, none⟩, c, fun r q => vals (if r < i then r else r + (j - i)) q, fun r q b' => r < i + (l.length - j) ∧ F (if r < i then r else r + (j - i)) q b', by rw [hlen'], ?_⟩
    refine ⟨by rw [hlen']; omega, fun _ => ⟨_, _, rfl⟩, fun _ => ⟨b, off, c2, el, rfl, hSb, hWb, by rw [hsz2]; exact hbound⟩, fun r q d hr hd => ?_, fun r q d hr hd => ?_, fun r q b' hb' => hA.hF _ _ _ hb'.2, fun r q r' q' b' h1 h2 => ?_⟩
    · rw [hlen'] at hr
      refine ⟨b, off, rfl, ?_⟩
      have hq : q < T.size e := by rw [← hT.len e]; exact (List.getElem?_eq_some_iff.1 hd).1
      have hmul : (r + 1) * T.size e ≤ (i + (l.length - j)) * T.size e := Nat.mul_le_mul_right _ (by omega)
      rw [Nat.add_mul] at hmul
      rw [hW, World.cell?_setCells_out b Z _ _ _ (fun _ _ => .inl (by simp only; omega))]
      by_cases h : r < i
      · have hmul2 : (r + 1) * T.size e ≤ i * T.size e := Nat.mul_le_mul_right _ (by omega)
        rw [Nat.add_mul] at hmul2
        rw [World.cell?_setCells_out b _ _ _ _ (fun _ _ => .inl (by simp only; omega)), if_pos h, Nat.add_assoc]
        exact hcellw _ _ (hNget r q (by omega) hq)
      · have e1 : off + r * T.size e + q = off + i * T.size e + ((r - i) * T.size e + q) := by
          have : r * T.size e = i * T.size e + (r - i) * T.size e := by rw [← Nat.add_mul]; congr 1; omega
          omega
        have e2 : j * T.size e + ((r - i) * T.size e + q) = (r + (j - i)) * T.size e + q := by
          rw [← Nat.add_assoc, ← Nat.add_mul]; congr 2; omega
        have hNv := hNget (r + (j - i)) q (by omega) hq
        have hlt2 : (r - i) * T.size e + q < (N.drop (j * T.size e)).length := by
          have := (List.getElem?_eq_some_iff.1 hNv).1
          rw [List.length_drop]
          omega
        rw [if_neg h, e1, World.cell?_setCells_in b _ _ _ (fun t ht => by
          rw [List.length_drop, hNl] at ht
          have hit : i * T.size e ≤ j * T.size e := Nat.mul_le_mul_right _ (by omega)
          have : w.cell? ⟨b, off + (i * T.size e + t), none⟩ = some N[i * T.size e + t] := hcellw _ _ (List.getElem?_eq_getElem (by omega))
          show (w.cell? _).isSome = true
          rw [Nat.add_assoc, this]
          rfl) _ hlt2]
        congr 1
        rw [List.getElem_drop]
        have := (List.getElem?_eq_some_iff.1 hNv).2
        rw [← this]
        congr 1
    · rw [hlen'] at hr
      rw [hrw r hr] at hd
      have := hA.hsub _ q d (hp r hr) hd
      exact ((OwnD.mono (w' := W) (show OwnD T w d (vals (if r < i then r else r + (j - i)) q) (F (if r < i then r else r + (j - i)) q) from this)) fun b' hb' => hWo b' (hF' _ _ _ hb').1).wider fun b' hb' => ⟨hr, hb'⟩
    · obtain ⟨h3, h4⟩ := hA.hdis _ _ _ _ _ h1.2 h2.2
      refine ⟨?_, h4⟩
      have := h1.1
      have := h2.1
      revert h3
      split <;> split <;> omega
  refine ⟨⟨K, fun b' => F0 0 b' ∨ False, fun b' => False ∨ False, [.slice (some ⟨b, off, none⟩) (i + (l.length - j)) c], rfl, ?_, ?_, fun _ _ h => h.elim id id, fun b' hb' => ?_, fun _ h => h, fun b' hb' => ⟨by rw [hWs]; exact hlt b' (.inr hb'), .inl hb'⟩⟩, Nat.le_of_eq hWs.symm, by rw [hWr]; rfl, by rw [hWr]; rfl, hOth, fun b' hb' hn => hWo b' fun h => hn (.inl (hFS 0 b' (h ▸ hSb)))⟩
  · rw [hr]
    exact .cons (R1 := F0 0) (OwnDs.cons hownW .nil (fun _ _ h => h) (fun _ h => h) (fun _ h => h.elim)) .nil fun _ _ h => h
  · rw [hm]
    exact OutsOk.rw (o := []) (os := []) (R1 := fun _ => False) rfl (.ro (.ro .nil)) fun _ h => h.elim
  · rcases hb' with (hb' | hb') | hb'
    · exact ⟨hMK b' (.inl (hFS 0 b' hb')), by rw [hWs]; exact hlt b' (.inl (.inl (hFS 0 b' hb'))), .inl (.inl (hFS 0 b' hb'))⟩
    · exact hb'.elim
    · exact (hb'.elim id id).elim
theorem delL_call (hT : TblOk P T) {ρ : Ren} (L : DelLays P ρ) {e : Nat} (he : ρ.t 23 = e) (hk : 0 < T.size e) (hm : (T.sg (ρ.f 45)).modes = [.mv, .ro, .ro]) (hr : (T.sg (ρ.f 45)).rk = .own)
    {l y : List (T.U e)} {i j : Int} (h : delL l i j = some y) : CallOk P T (ρ.f 45) [.val false [.arr e l], .val false [.int .i64 i], .val false [.int .i64 j]] ⟨[.val false [.arr e y]], []⟩ := by
  unfold delL at h
  split at h
  · rename_i hh
    obtain ⟨h1, h2, h3, h4⟩ := hh
    cases h
    have := del_call hT L he hk hm hr l (i := i.toNat) (j := j.toNat) (by omega) (by omega) (by omega)
    rwa [show ((i.toNat : Nat) : Int) = i from by omega, show ((j.toNat : Nat) : Int) = j from by omega] at this
  · cases h
end Go.Sm
end
