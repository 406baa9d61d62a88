import Derived.Test.YtakllmgiobpmgaaEngA
import Derived.Maps.RangeWalk
import Derived.Maps.OwnOps
import Derived.Test.YtakllmgiobpmgaaE11Tb
import Derived.Test.YtakllmgiobpmgaaEngB
import Derived.Lib.Hide
import Derived.WalkSpells
import Derived.Shelf.Abstract
import Derived.OwnWalk
/- The walk of the function that ranges over a map: sets of places, whatever the order. -/
set_option linter.unusedSimpArgs false
set_option linter.deprecated false
set_option linter.unusedSectionVars false
section
set_option linter.unusedVariables false
namespace Go.Sm
open Go
open Go.ChangeMaps (setBlock)
open Go.MapKept (Stamped IsKey stamped_iff stamped_empty stamped_push findNow_spec heap_set)
/-! ### A set of whole numbers: a map[int]bool all of whose elements are true -/
structure SetL (es : Array MapEntry) (clk : Nat) (S : List Int) : Prop where
  st : Stamped es clk
  key : ∀ x ∈ es.toList, ∃ k, k ∈ S ∧ x.key = .int .i64 k ∧ x.val = .bool true
  all : ∀ k, k ∈ S → ∃ x, x ∈ es.toList ∧ x.key = .int .i64 k
def SetAt (w : World) (b : Nat) (S : List Int) : Prop := ∃ es clk, w.heap[b]? = some (.map es clk) ∧ SetL es clk S
theorem SetL.congr {es : Array MapEntry} {clk : Nat} {S S' : List Int} (h : SetL es clk S) (e : ∀ z, z ∈ S ↔ z ∈ S') : SetL es clk S' :=
  ⟨h.st, fun x hx => by obtain ⟨k, h1, h2⟩ := h.key x hx; exact ⟨k, (e k).1 h1, h2⟩, fun k hk => h.all k ((e k).2 hk)⟩
theorem SetAt.congr {w : World} {b : Nat} {S S' : List Int} (h : SetAt w b S) (e : ∀ z, z ∈ S ↔ z ∈ S') : SetAt w b S' := by
  obtain ⟨es, clk, h1, h2⟩ := h
  exact ⟨es, clk, h1, h2.congr e⟩
theorem SetAt.keep {w w' : World} {b : Nat} {S : List Int} (h : SetAt w b S) (e : w'.heap[b]? = w.heap[b]?) : SetAt w' b S := by
  obtain ⟨es, clk, h1, h2⟩ := h
  exact ⟨es, clk, e.trans h1, h2⟩
theorem SetAt.lt {w : World} {b : Nat} {S : List Int} (h : SetAt w b S) : b < w.heap.size := by
  obtain ⟨es, clk, h1, h2⟩ := h
  exact (Array.getElem?_eq_some_iff.1 h1).1
theorem setAt_new (w : World) : SetAt (w.alloc (.map #[] 0)) w.heap.size [] :=
  ⟨#[], 0, heap_alloc_new w _, stamped_empty 0, fun x hx => by simp at hx, fun k hk => by cases hk⟩
theorem SetL.isKey {es : Array MapEntry} {clk : Nat} {S : List Int} (h : SetL es clk S) : ∀ x ∈ es.toList, IsKey (.int .i64) x.key := fun x hx => by
  obtain ⟨k, _, h2, _⟩ := h.key x hx
  rw [h2]; rfl
section
variable {P : Program} {w : World} {t kt et b : Nat} {S : List Int}
theorem set_make (ht : P.underlying t = some (.map kt et)) : (Instr.makeMap t none).run P w = .ok (.map (some w.heap.size)) (w.alloc (.map #[] 0)) := rfl
theorem set_look (ht : P.underlying t = some (.map kt et)) (hk : P.underlying kt = some (.int .i64)) (hz : (zeroValue et).run P w = .ok (.bool false) w) (h : SetAt w b S) (k : Int) :
    (Instr.lookup t (.map (some b)) (.int .i64 k) false).run P w = .ok (.bool (S.contains k)) w := by
  obtain ⟨es, clk, h1, h2⟩ := h
  have hu := run_underlying (w := w) ht
  have hck := fun em => Go.MapKept.run_checkKey (w := w) (k := .int .i64 k) hk rfl em 9999
  rcases findNow_spec (d := .int .i64) (k := .int .i64 k) rfl es.toList 0 h2.isKey with ⟨g1, g2⟩ | ⟨j, e, g1, g2, g3⟩
  · have hn : S.contains k = false := by
      cases hc : S.contains k with
      | false => rfl
      | true =>
        obtain ⟨x, hx, hx2⟩ := h2.all k (by simpa using hc)
        exact absurd hx2 (g2 x hx)
    rw [hn]
    simp only [Instr.lookup, Sem.run_bind, hu, Result.andThen_ok, Go.MapKept.run_getObj_map h1, Sem.run_pure, hck, Go.MapKept.run_findKey hk g1, hz]
    rfl
  · have he : e ∈ es.toList := List.mem_of_getElem? g2
    obtain ⟨k', k1, k2, k3⟩ := h2.key e he
    rw [g3] at k2
    cases k2
    have hn : S.contains k = true := by simpa using k1
    rw [hn]
    simp only [Instr.lookup, Sem.run_bind, hu, Result.andThen_ok, Go.MapKept.run_getObj_map h1, Sem.run_pure, hck, Go.MapKept.run_findKey hk g1, k3]
    rfl
theorem set_put (ht : P.underlying t = some (.map kt et)) (hk : P.underlying kt = some (.int .i64)) (h : SetAt w b S) (k : Int) :
    ∃ o, (Instr.mapUpdate t (.map (some b)) (.int .i64 k) (.bool true)).run P w = .ok () (setBlock w b o) ∧ SetAt (setBlock w b o) b (k :: S) := by
  obtain ⟨es, clk, h1, h2⟩ := h
  have hu := run_underlying (w := w) ht
  have hck := fun em => Go.MapKept.run_checkKey (w := w) (k := .int .i64 k) hk rfl em 9999
  rcases findNow_spec (d := .int .i64) (k := .int .i64 k) rfl es.toList 0 h2.isKey with ⟨g1, g2⟩ | ⟨j, e, g1, g2, g3⟩
  · refine ⟨.map (es.push { key := .int .i64 k, val := .bool true, born := clk }) (clk + 1), ?_, _, _, (heap_set h1).1, stamped_push h2.st g2, fun x hx => ?_, fun z hz => ?_⟩
    · simp [Instr.mapUpdate, hu, Go.MapKept.run_getObj_map h1, hck, Go.MapKept.run_findKey hk g1, Go.MapKept.run_setObj_map _ h1, Result.andThen, setBlock]
    · simp only [Array.toList_push, List.mem_append, List.mem_singleton] at hx
      rcases hx with hx | rfl
      · obtain ⟨k', k1, k2⟩ := h2.key x hx
        exact ⟨k', List.mem_cons_of_mem _ k1, k2⟩
      · exact ⟨k, List.mem_cons_self, rfl, rfl⟩
    · rcases List.mem_cons.1 hz with rfl | hz
      · exact ⟨{ key := .int .i64 z, val := .bool true, born := clk }, by simp, rfl⟩
      · obtain ⟨x, hx, hx2⟩ := h2.all z hz
        exact ⟨x, by simp only [Array.toList_push, List.mem_append]; exact .inl hx, hx2⟩
  · have hj : es[j]? = some e := by simpa using g2
    have he : e ∈ es.toList := List.mem_of_getElem? g2
    obtain ⟨k', k1, k2, k3⟩ := h2.key e he
    rw [g3] at k2
    cases k2
    have hid : (es.modify j fun e => { e with key := .int .i64 k, val := .bool true }) = es := by
      apply Array.ext
      · simp
      · intro i hi1 hi2
        rw [Array.getElem_modify]
        split
        · rename_i e'
          subst e'
          have : es[j] = e := by
            have := Array.getElem?_eq_getElem hi2
            rw [hj] at this
            exact (Option.some.inj this).symm
          rw [this]
          cases e with
          | mk a b c => simp only at g3 k3; subst g3; subst k3; rfl
        · rfl
    refine ⟨.map es clk, ?_, es, clk, (heap_set h1).1, ?_⟩
    · simp [Instr.mapUpdate, hu, Go.MapKept.run_getObj_map h1, hck, Go.MapKept.run_findKey hk g1, hj, g3, Go.MapKept.run_keyThatStays (d := .int .i64) (k := .int .i64 k) rfl, Go.MapKept.run_setObj_map _ h1, Result.andThen, setBlock]
      rw [hid]
    · refine h2.congr fun z => ⟨fun hz => List.mem_cons_of_mem _ hz, fun hz => ?_⟩
      rcases List.mem_cons.1 hz with rfl | hz
      · exact k1
      · exact hz
/-! ### Ranged over -/
def strikeL (k : Int) (l : List Int) : List Int := l.filter fun z => decide (z ≠ k)

/-- Block r ranges over the set in block b; todo: what it has not handed out; cnt: how many entries. -/
def RangeAt (w : World) (b r : Nat) (S todo : List Int) (cnt : Nat) : Prop := ∃ es clk since seen c0, w.heap[b]? = some (.map es clk) ∧ w.heap[r]? = some (.mapIter (some b) since seen c0) ∧ SetL es clk S ∧ (∀ x ∈ es.toList, x.born < since) ∧ since ≤ c0 ∧ since ≤ clk ∧
  (leftOf es seen).size = cnt ∧ ∀ k, k ∈ todo ↔ ∃ x, x ∈ (leftOf es seen).toList ∧ x.key = .int .i64 k
theorem RangeAt.keep {w w' : World} {b r : Nat} {S todo : List Int} {cnt : Nat} (h : RangeAt w b r S todo cnt) (e1 : w'.heap[b]? = w.heap[b]?) (e2 : w'.heap[r]? = w.heap[r]?) : RangeAt w' b r S todo cnt := by
  obtain ⟨es, clk, since, seen, c0, h1, h2, h3⟩ := h
  exact ⟨es, clk, since, seen, c0, e1.trans h1, e2.trans h2, h3⟩
theorem RangeAt.set {w : World} {b r : Nat} {S todo : List Int} {cnt : Nat} (h : RangeAt w b r S todo cnt) : SetAt w b S := by
  obtain ⟨es, clk, since, seen, c0, h1, h2, h3, _⟩ := h
  exact ⟨es, clk, h1, h3⟩
theorem RangeAt.ltr {w : World} {b r : Nat} {S todo : List Int} {cnt : Nat} (h : RangeAt w b r S todo cnt) : r < w.heap.size := by
  obtain ⟨es, clk, since, seen, c0, h1, h2, h3, _⟩ := h
  exact (Array.getElem?_eq_some_iff.1 h2).1
theorem RangeAt.sub {w : World} {b r : Nat} {S todo : List Int} {cnt : Nat} (h : RangeAt w b r S todo cnt) {k : Int} (hk : k ∈ todo) : k ∈ S := by
  obtain ⟨es, clk, since, seen, c0, h1, h2, h3, h4, h5, h6, h7, h8⟩ := h
  obtain ⟨x, hx, hx2⟩ := (h8 k).1 hk
  obtain ⟨k', k1, k2, _⟩ := h3.key x (by simp only [leftOf, Array.toList_filter, List.mem_filter] at hx; exact hx.1)
  rw [hx2] at k2
  cases k2
  exact k1
theorem set_range (ht : P.underlying t = some (.map kt et)) (h : SetAt w b S) :
    ∃ w' cnt, (Instr.range t (.map (some b))).run P w = .ok (.pointer (some ⟨w.heap.size, 0, none⟩)) w' ∧ (∃ o, w' = w.alloc o) ∧ RangeAt w' b w.heap.size S S cnt := by
  obtain ⟨es, clk, h1, h2⟩ := h
  have hlt : b < w.heap.size := (Array.getElem?_eq_some_iff.1 h1).1
  have hl : leftOf es #[] = es := by
    unfold leftOf
    apply Array.filter_eq_self.2
    intro x hx
    simp
  refine ⟨_, es.size, run_range_map w t kt et b es clk ht h1, ⟨_, rfl⟩, es, clk, clk, #[], clk, ?_, heap_alloc_new w _, h2, h2.st.1, Nat.le_refl _, Nat.le_refl _, by rw [hl], fun k => ?_⟩
  · rw [heap_alloc_old w _ hlt]; exact h1
  · rw [hl]
    constructor
    · exact h2.all k
    · rintro ⟨x, hx, hx2⟩
      obtain ⟨k', k1, k2, _⟩ := h2.key x hx
      rw [hx2] at k2
      cases k2
      exact k1
theorem pair_inj : ∀ {l : List MapEntry} {x y : MapEntry}, l.Pairwise (fun x y => x.key ≠ y.key) → x ∈ l → y ∈ l → x.key = y.key → x = y
  | a :: l, x, y, h, hx, hy, e => by
    have h' := List.pairwise_cons.1 h
    rcases List.mem_cons.1 hx with e1 | hx1
    · rcases List.mem_cons.1 hy with e2 | hy1
      · rw [e1, e2]
      · rw [e1] at e
        exact absurd e (h'.1 y hy1)
    · rcases List.mem_cons.1 hy with e2 | hy1
      · rw [e2] at e
        exact absurd e.symm (h'.1 x hx1)
      · exact pair_inj h'.2 hx1 hy1 e
theorem filter_lt {α : Type} (p : α → Bool) : ∀ {l : List α} {x : α}, x ∈ l → p x = false → (l.filter p).length < l.length
  | y :: l, x, h, hp => by
    rcases List.mem_cons.1 h with rfl | h
    · rw [List.filter_cons_of_neg (by rw [hp]; exact Bool.false_ne_true)]
      exact Nat.lt_succ_of_le (List.length_filter_le _ _)
    · have ih := filter_lt p h hp
      by_cases hy : p y = true
      · rw [List.filter_cons_of_pos hy, List.length_cons, List.length_cons]; omega
      · rw [List.filter_cons_of_neg hy, List.length_cons]; omega
theorem set_next (ty r : Nat) {todo : List Int} {cnt : Nat} (hbr : b ≠ r) (h : RangeAt w b r S todo cnt) :
    ((∀ k, k ∉ todo) ∧ (Instr.next (.pointer (some ⟨r, 0, none⟩)) false ty).run P w = .ok (.tuple #[.bool false]) w) ∨
    ∃ (k : Int) (w1 w' : World) (o : Obj) (cnt' : Nat), k ∈ todo ∧ (w1 = w ∨ w1 = w.drew) ∧ w' = setBlock w1 r o ∧ (∀ cs el fz, o ≠ .cells cs el fz) ∧ (Instr.next (.pointer (some ⟨r, 0, none⟩)) false ty).run P w = .ok (.tuple #[.bool true, .int .i64 k, .bool true]) w' ∧ RangeAt w' b r S (strikeL k todo) cnt' ∧ cnt' < cnt ∧
      (Instr.entry (.pointer (some ⟨r, 0, none⟩))).run P w' = .ok (.tuple #[.int .i64 k, .bool true]) w' := by
  obtain ⟨es, clk, since, seen, c0, h1, h2, h3, h4, h5, h6, h7, h8⟩ := h
  rcases run_next_at (P := P) w ty r b since c0 seen es clk h2 h1 h4 h5 with ⟨g1, g2⟩ | ⟨e, he, w1, hw1, g2⟩
  · refine .inl ⟨fun k hk => ?_, g2⟩
    obtain ⟨x, hx, _⟩ := (h8 k).1 hk
    have : (leftOf es seen) = #[] := Array.eq_empty_of_size_eq_zero g1
    rw [this] at hx
    simp at hx
  · have he' : e ∈ es.toList := by simp only [leftOf, Array.toList_filter, List.mem_filter] at he; exact he.1
    obtain ⟨k, k1, k2, k3⟩ := h3.key e he'
    have hborn := (stamped_iff es clk).1 h3.st
    have hlr : (leftOf es (seen.push e.born)).toList = (leftOf es seen).toList.filter (fun x => !(x.born == e.born)) := by
      simp only [leftOf, Array.toList_filter, List.filter_filter]
      apply List.filter_congr
      intro x _
      rw [Array.contains_push, Bool.not_or, Bool.and_comm]
    have hw1h : w1.heap = w.heap := by rcases hw1 with rfl | rfl <;> rfl
    have hrl : r < w1.heap.size := by rw [hw1h]; exact (Array.getElem?_eq_some_iff.1 h2).1
    have s1 : (setBlock w1 r (.mapIter (some b) since (seen.push e.born) clk)).heap[r]? = some (.mapIter (some b) since (seen.push e.born) clk) := by
      show (w1.heap.setIfInBounds r _)[r]? = _
      simp [hrl]
    have s2 : (setBlock w1 r (.mapIter (some b) since (seen.push e.born) clk)).heap[b]? = some (.map es clk) := by
      show (w1.heap.setIfInBounds r _)[b]? = _
      rw [Array.getElem?_setIfInBounds_ne (Ne.symm hbr), hw1h]
      exact h1
    rw [k2, k3] at g2
    refine .inr ⟨k, w1, _, .mapIter (some b) since (seen.push e.born) clk, (leftOf es (seen.push e.born)).size, (h8 k).2 ⟨e, he, k2⟩, hw1, rfl, (fun _ _ _ x => nomatch x), g2, ⟨es, clk, since, seen.push e.born, clk, s2, s1, h3, h4, h6, h6, rfl, fun z => ?_⟩, ?_, ?_⟩
    · rw [strikeL, List.mem_filter, h8 z, hlr]
      constructor
      · rintro ⟨⟨x, hx, hx2⟩, hz⟩
        refine ⟨x, List.mem_filter.2 ⟨hx, ?_⟩, hx2⟩
        have hz := of_decide_eq_true hz
        cases hb : x.born == e.born with
        | false => rfl
        | true =>
          exfalso
          have hx' : x ∈ es.toList := by simp only [leftOf, Array.toList_filter, List.mem_filter] at hx; exact hx.1
          have := find_born x es.toList hborn.2.1 hx'
          rw [beq_iff_eq.1 hb, find_born e es.toList hborn.2.1 he'] at this
          cases this
          rw [hx2] at k2
          cases k2
          exact hz rfl
      · rintro ⟨x, hx, hx2⟩
        obtain ⟨hx, hb⟩ := List.mem_filter.1 hx
        refine ⟨⟨x, hx, hx2⟩, decide_eq_true fun e' => ?_⟩
        subst e'
        have hx' : x ∈ es.toList := by simp only [leftOf, Array.toList_filter, List.mem_filter] at hx; exact hx.1
        have hxe : x = e := pair_inj hborn.2.2 hx' he' (hx2.trans k2.symm)
        rw [hxe] at hb
        simp at hb
    · rw [← h7, ← Array.length_toList, ← Array.length_toList, hlr]
      exact filter_lt _ he (by simp)
    · have := run_entry_at (P := P) (setBlock w1 r (.mapIter (some b) since (seen.push e.born) clk)) r b since seen es clk e s1 s2 he' hborn.2.1
      rw [k2, k3] at this
      exact this
end
end Go.Sm
end

section
set_option linter.unusedVariables false
namespace Go.Sm.E11
open Go Go.Proofs Go.Shelf Go.RowKit Go.Sm
/-- What a stretch of the walk leaves of the world: all that was there but X. -/
structure Tn (w w' : World) (X : Nat → Prop) : Prop where
  size : w.heap.size ≤ w'.heap.size
  os : w'.os = w.os
  tape : w'.tape = w.tape
  oth : Oth w w'
  old : ∀ k, k < w.heap.size → ¬ X k → w'.heap[k]? = w.heap[k]?
theorem Tn.refl (w : World) (X : Nat → Prop) : Tn w w X := ⟨Nat.le_refl _, rfl, rfl, Oth.refl _, fun _ _ _ => rfl⟩
theorem Tn.trans {a b c : World} {X : Nat → Prop} (h : Tn a b X) (k : Tn b c X) : Tn a c X :=
  ⟨Nat.le_trans h.size k.size, k.os.trans h.os, k.tape.trans h.tape, h.oth.trans k.oth, fun i hi hX => (k.old i (Nat.lt_of_lt_of_le hi h.size) hX).trans (h.old i hi hX)⟩
/-- Behind a world b what lies above a is free to turn. -/
theorem Tn.then {a b c : World} {X Y : Nat → Prop} (h : Tn a b X) (k : Tn b c Y) (hY : ∀ i, i < a.heap.size → Y i → X i) : Tn a c X :=
  ⟨Nat.le_trans h.size k.size, k.os.trans h.os, k.tape.trans h.tape, h.oth.trans k.oth, fun i hi hX => (k.old i (Nat.lt_of_lt_of_le hi h.size) fun y => hX (hY i hi y)).trans (h.old i hi hX)⟩
theorem Tn.weak {a b : World} {X Y : Nat → Prop} (h : Tn a b X) (hX : ∀ i, i < a.heap.size → X i → Y i) : Tn a b Y := ⟨h.size, h.os, h.tape, h.oth, fun i hi hy => h.old i hi fun x => hy (hX i hi x)⟩
abbrev NX : Nat → Prop := fun _ => False
theorem othAlloc (w : World) (o : Obj) : Oth w (w.alloc o) :=
  ⟨rfl, Nat.le_refl _, fun k cs el fz hk => ⟨cs, by rw [heap_alloc_old w o (Array.getElem?_eq_some_iff.1 hk).1]; exact hk, rfl⟩⟩
theorem Tn.alloc (w : World) (o : Obj) : Tn w (w.alloc o) NX :=
  ⟨by show _ ≤ (w.heap.push o).size; simp, rfl, rfl, othAlloc w o, fun k hk _ => heap_alloc_old w o hk⟩
theorem Tn.cell {w w' : World} {X : Nat → Prop} (h : Tn w w' X) {g i : Nat} (hg : g < w.heap.size) (hX : ¬ X g) : w'.cell? ⟨g, i, none⟩ = w.cell? ⟨g, i, none⟩ := by simp only [World.cell?, h.old g hg hX]
theorem cell_lt {w : World} {g i : Nat} {v : Value} (h : w.cell? ⟨g, i, none⟩ = some v) : g < w.heap.size := by
  simp only [World.cell?] at h
  rcases Nat.lt_or_ge g w.heap.size with h2 | h2
  · exact h2
  · rw [Array.getElem?_eq_none h2] at h
    simp at h
abbrev pB (b : Nat) : Value := .pointer (some ⟨b, 0, none⟩)
abbrev seaV (s : SSea) (cv sv : Value) : Value := .agg #[.int .i64 s.Wide, .int .i64 s.High, cv, sv]
/-- The sea's data in memory: K: its blocks. -/
def SeaR (w : World) (K : Nat → Prop) (s : SSea) (cv sv : Value) : Prop := (∀ b, K b → b < w.heap.size) ∧ RepDs T w K (T.dget 104 s) [.int .i64 s.Wide, .int .i64 s.High, cv, sv]
theorem SeaR.keep {w w' : World} {K : Nat → Prop} {s : SSea} {cv sv : Value} (h : SeaR w K s cv sv) {X : Nat → Prop} (ht : Tn w w' X) (hX : ∀ b, K b → ¬ X b) : SeaR w' K s cv sv := by
  obtain ⟨h1, h2, h3⟩ := h
  exact ⟨fun b hb => Nat.lt_of_lt_of_le (h1 b hb) ht.size, h2, fun j d v hd hv => (h3 j d v hd hv).mono (fun _ h => h) fun b hb => ht.old b (h1 b hb) (hX b hb)⟩
theorem post_tn {w : World} {K : Nat → Prop} {sg : Sig} {ars : List (A T)} {vs : List Value} {res : Res T} {v : Value} {w' : World} (h : Post T w K NX sg ars vs res v w') : Tn w w' NX := ⟨h.size, h.os, h.tape, h.output, fun k hk hX => h.block k hk hX⟩
theorem repB {w : World} {K : Nat → Prop} {b : Bool} {v : Value} {S : Nat → Prop} (h : OwnDs T w [.bool b] [v] S) : v = .bool b := by
  obtain ⟨_, F, h2, _⟩ := h
  have := h2 0 _ _ rfl rfl
  cases this
  rfl
/-- A call of a function that is handed numbers and a sea, and answers a bool. -/
theorem bool_call {f : Nat} {ars : List (A T)} {vs : List Value} {b : Bool} (hc : CallOk Try.prog T f ars ⟨[vR T 4 b], []⟩) (hrk : (T.sg f).rk = .own) {w : World} {K : Nat → Prop} (hK : ∀ b, K b → b < w.heap.size) (ha : ArgsOk T w K (T.sg f).modes ars vs NX) (hs : SelfOk T w ars vs) :
    Calls Try.prog f vs.toArray w fun e w' => e = .returned (.bool b) ∧ Tn w w' NX := by
  refine (hc.2 w K NX vs ha hs (fun _ h => h.elim) (fun b hb => hb.elim (fun h => h.elim) (hK b))).mono ?_
  rintro e w' ⟨v, rfl, hp⟩
  obtain ⟨K', R, R', us, rfl, hr, _⟩ := hp.ex
  refine ⟨?_, post_tn hp⟩
  cases hr with
  | cons h1 h2 h3 =>
    cases h2
    rw [hrk] at h1
    rw [repB (K := K) h1]
    rfl
abbrev iA (x : Int) : A T := vA T 3 x
theorem ro_int {w : World} {K : Nat → Prop} (x : Int) : ArgRo T w K (iA x) (.int .i64 x) := ⟨rfl, fun j d v hd hv => by
  cases j with
  | succ j => cases hd
  | zero => cases hd; cases hv; exact .int _ _⟩
theorem ro_sea {w : World} {K : Nat → Prop} {s : SSea} {cv sv : Value} (h : SeaR w K s cv sv) : ArgRo T w K (vA T 104 s) (seaV s cv sv) := ⟨_, rfl, h.2⟩
theorem self_none {w : World} {ars : List (A T)} {us : List Value} (h : ∀ a ∈ ars, ∃ ag ds, a = .val ag ds) : SelfOk T w ars us := selfOk_none h
theorem shut_run {s : SSea} {cv sv : Value} {q st : Int} {b : Bool} (hc : CallOk Try.prog T 161 [vA T 104 s, iA q, iA st] ⟨[vR T 4 b], []⟩) {w : World} {K : Nat → Prop} (h : SeaR w K s cv sv) :
    Calls Try.prog 161 #[seaV s cv sv, .int .i64 q, .int .i64 st] w fun e w' => e = .returned (.bool b) ∧ Tn w w' NX :=
  bool_call (vs := [seaV s cv sv, .int .i64 q, .int .i64 st]) hc (by kernel_rfl) h.1 (.ro (ro_sea h) (.ro (ro_int q) (.ro (ro_int st) .nil))) (self_none fun a ha => by
    simp only [List.mem_cons, List.not_mem_nil, or_false] at ha
    rcases ha with rfl | rfl | rfl <;> exact ⟨_, _, rfl⟩)
theorem getD_eq' {l : List Int} {i : Nat} (h : i < l.length) : l.getD i 0 = l[i] := by rw [List.getD_eq_getElem?_getD, List.getElem?_eq_getElem h]; rfl
theorem ix_some {R : Type} {i : Int} {len : Nat} {x : Option R} {r : R} (h : ix i len x = some r) : (0 ≤ i ∧ i < (len : Int)) ∧ x = some r := by
  unfold ix at h
  by_cases c : 0 ≤ i ∧ i < (len : Int)
  · refine ⟨c, ?_⟩
    simpa [c.1, c.2] using h
  · exfalso
    revert h
    by_cases c1 : 0 ≤ i
    · have c2 : ¬ i < (len : Int) := fun h => c ⟨c1, h⟩
      simp [c1, c2]
    · simp [c1]
/-- May a place be held at a step? -/
def mayF (n : Nat) (s : SSea) (q st : Int) : Option Bool := ix q s.Costs.length (bif decide (s.Costs.getD q.toNat 0 > 0) then (impl_Sea_shut n s q st).bind fun b => some (!b) else some false)
theorem SeaR.costs {w : World} {K : Nat → Prop} {s : SSea} {cv sv : Value} (h : SeaR w K s cv sv) : ∃ A c, cv = .slice A s.Costs.length c ∧ s.Costs.length ≤ c ∧ ∀ k, k < s.Costs.length → ∃ g off, A = some ⟨g, off, none⟩ ∧ K g ∧ w.cell? ⟨g, off + k, none⟩ = some (.int .i64 (s.Costs.getD k 0)) := by
  have hr : RepD T w K (.arr 3 s.Costs) cv := h.2.2 2 _ _ rfl rfl
  obtain ⟨A, c, vals, rfl, k1, k2, k3, k4⟩ := hr.arr_inv
  refine ⟨A, c, rfl, k1, fun k hk => ?_⟩
  have hrow : (row T 3 s.Costs k)[0]? = some (.int .i64 (s.Costs.getD k 0)) := rfl
  obtain ⟨b, off, rfl, e1, e2⟩ := k3 k 0 _ hk hrow
  have e3 := k4 k 0 _ hk hrow
  have e4 : vals k 0 = .int .i64 (s.Costs.getD k 0) := by
    generalize vals k 0 = v at e3
    cases e3
    rfl
  refine ⟨b, off, rfl, e1, ?_⟩
  have hz : T.size 3 = 1 := rfl
  rw [hz, Nat.mul_one, Nat.add_zero, e4] at e2
  exact e2
set_option maxHeartbeats 2000000 in
set_option maxRecDepth 100000 in
theorem may_walk {n : Nat} {s : SSea} {cv sv : Value} {q st : Int} {b : Bool} (hsh : ∀ b, impl_Sea_shut n s q st = some b → CallOk Try.prog T 161 [vA T 104 s, iA q, iA st] ⟨[vR T 4 b], []⟩) (hm : mayF n s q st = some b) {w : World} {K : Nat → Prop} (h : SeaR w K s cv sv) {bs : Nat} {fz : Nat × Nat}
    (hbs : w.heap[bs]? = some (.cells #[.int .i64 s.Wide, .int .i64 s.High, cv, sv] 104 fz)) :
    Calls Try.prog 160 #[.int .i64 q, .int .i64 st, pB bs] w fun e w' => e = .returned (.bool b) ∧ Tn w w' NX := by
  have hn : Try.f160.ntmps = 19 := by rfl
  have e161 : ∀ args w, (callFunc 161 args).run Try.prog w = .ok (.enter 161 args) w := enters_of Try.func161 (by kernel_rfl) rfl
  have t104 := Try.underlying104; have a104 := Try.isAgg104; have z104 := Try.sizeOf104; have v104 := Try.zeroValue104; have u104 := run_underlying t104
  have t24 := Try.underlying24; have a24 := Try.isAgg24; have z24 := Try.sizeOf24; have v24 := Try.zeroValue24; have u24 := run_underlying t24
  have t3 := Try.underlying3; have a3 := Try.isAgg3; have z3 := Try.sizeOf3; have v3 := Try.zeroValue3; have u3 := run_underlying t3
  have t4 := Try.underlying4; have a4 := Try.isAgg4; have z4 := Try.sizeOf4; have v4 := Try.zeroValue4; have u4 := run_underlying t4
  obtain ⟨A, c, rfl, hc, hcell⟩ := h.costs
  unfold mayF at hm
  have hix : (0 ≤ q ∧ q < (s.Costs.length : Int)) ∧ (bif decide (s.Costs.getD q.toNat 0 > 0) then (impl_Sea_shut n s q st).bind fun b => some (!b) else some false) = some b := ix_some hm
  obtain ⟨hix, hm⟩ := hix
  obtain ⟨k, rfl⟩ : ∃ k : Nat, q = (k : Int) := ⟨q.toNat, by omega⟩
  rw [Int.toNat_natCast] at hm
  have hk : k < s.Costs.length := by omega
  obtain ⟨g, off, rfl, hg, hcl⟩ := hcell k hk
  clear hcell hix
  generalize s.Costs.getD k 0 = cst at hm hcl
  have c0 : w.cell? ⟨bs, 0, none⟩ = some (.int .i64 s.Wide) := by simp [World.cell?, hbs]
  have c1 : w.cell? ⟨bs, 1, none⟩ = some (.int .i64 s.High) := by simp [World.cell?, hbs]
  have c2 : w.cell? ⟨bs, 2, none⟩ = some (.slice (some ⟨g, off, none⟩) s.Costs.length c) := by simp [World.cell?, hbs]
  have c3 : w.cell? ⟨bs, 3, none⟩ = some sv := by simp [World.cell?, hbs]
  by_cases hpos : 0 < cst
  · rw [decide_eq_true (show cst > 0 from hpos), cond_true] at hm
    cases hb : impl_Sea_shut n s k st with
    | none => rw [hb] at hm; cases hm
    | some b' =>
      rw [hb] at hm
      cases hm
      have HC := Lib.hid (shut_run (hsh b' hb) h)
      clear hsh h hb hbs hg
      have hp' : decide (cst > 0) = true := decide_eq_true hpos
      go_enter Try.func160, hn
      go_wp2_with (go_at_fn 161; refine HC.out.mono ?_; rintro _ w1 ⟨rfl, h1⟩)
      go_ret
      exact ⟨rfl, h1⟩
  · rw [decide_eq_false (show ¬ cst > 0 from hpos), cond_false] at hm
    cases hm
    have hp' : decide (cst > 0) = false := decide_eq_false hpos
    clear hsh h hbs hg
    go_enter Try.func160, hn
    go_wp2
    go_ret
    exact ⟨rfl, Tn.refl _ _⟩
end Go.Sm.E11
end

section
set_option linter.unusedVariables false
namespace Go.Sm.E11
open Go Go.Proofs Go.Shelf Go.RowKit Go.Sm
open Go.ChangeMaps (setBlock)
/-! ### The operations on sets, for the walk -/
section
variable {P : Program} {w : World} {ops : Array Oper} {rest : List Oper} {o : Oper} {a : Act} {Q : Exit → Act → World → Prop}
theorem wpList_look_set (hg : o.guard = none) (m x : Operand) (t : TypeId) (hop : o.op = Op.lookup t m x false) (k e : TypeId) (ht : P.underlying t = some (.map k e)) (hk : P.underlying k = some (.int .i64)) (hz : (zeroValue e).run P w = .ok (.bool false) w) (b : Nat) (S : List Int)
    (hm : a.eval m = .map (some b)) (hs : SetAt w b S) (n : Int) (hx : a.eval x = .int .i64 n) (bb : Bool) (hbb : S.contains n = bb)
    (hK : wpList P ops Q rest (a.put o.dst (.bool bb)) w) : wpList P ops Q (o :: rest) a w := by
  refine wpList_plain hg fun K' hK' => ?_
  have hrun := set_look ht hk hz hs n
  rw [hbb] at hrun
  unfold Oper.wp
  simp [execOp, hop, hm, hx, hrun, Result.andThen]
  exact hK' _ _ hK
theorem wpList_put_set (hg : o.guard = none) (m x v : Operand) (t : TypeId) (hop : o.op = Op.mapUpdate t m x v) (k e : TypeId) (ht : P.underlying t = some (.map k e)) (hk : P.underlying k = some (.int .i64)) (b : Nat) (S : List Int)
    (hm : a.eval m = .map (some b)) (hs : SetAt w b S) (n : Int) (hx : a.eval x = .int .i64 n) (hv : a.eval v = .bool true)
    (hK : ∀ w', SetAt w' b (n :: S) → Tn w w' (fun i => i = b) → w'.heap.size = w.heap.size → wpList P ops Q rest (a.put o.dst undef) w') : wpList P ops Q (o :: rest) a w := by
  refine wpList_plain hg fun K' hK' => ?_
  obtain ⟨ob, hrun, h1⟩ := set_put ht hk hs n
  unfold Oper.wp
  simp [execOp, hop, hm, hx, hv, hrun, Result.andThen]
  obtain ⟨es, clk, h2, _⟩ := hs
  have hset : ∀ i, i ≠ b → (setBlock w b ob).heap[i]? = w.heap[i]? := fun i hi => by
    show (w.heap.setIfInBounds b ob)[i]? = _
    rw [Array.getElem?_setIfInBounds_ne (Ne.symm hi)]
  have hsz : (setBlock w b ob).heap.size = w.heap.size := by show (w.heap.setIfInBounds b ob).size = _; simp
  exact hK' _ _ (hK _ h1 ⟨by rw [hsz]; exact Nat.le_refl _, rfl, rfl, ⟨rfl, Nat.le_refl _, fun i cs el fz hi => ⟨cs, (hset i fun e => by rw [e, h2] at hi; cases hi).trans hi, rfl⟩⟩, fun i _ hi => hset i hi⟩ hsz)
theorem wpList_range_set (hg : o.guard = none) (m : Operand) (t : TypeId) (hop : o.op = Op.range t m) (k e : TypeId) (ht : P.underlying t = some (.map k e)) (b : Nat) (S : List Int)
    (hm : a.eval m = .map (some b)) (hs : SetAt w b S)
    (hK : ∀ w' cnt, RangeAt w' b w.heap.size S S cnt → Tn w w' NX → w'.heap.size = w.heap.size + 1 → wpList P ops Q rest (a.put o.dst (.pointer (some ⟨w.heap.size, 0, none⟩))) w') : wpList P ops Q (o :: rest) a w := by
  refine wpList_plain hg fun K' hK' => ?_
  obtain ⟨w', cnt, hrun, ⟨ob, rfl⟩, h2⟩ := set_range ht hs
  unfold Oper.wp
  simp [execOp, hop, hm, hrun, Result.andThen]
  exact hK' _ _ (hK _ cnt h2 (Tn.alloc w ob) (by show (w.heap.push ob).size = _; simp))
theorem wpList_next_set (hg : o.guard = none) (it : Operand) (hop : o.op = Op.next it false) (b r : Nat) (S todo : List Int) (cnt : Nat) (hbr : b ≠ r)
    (hit : a.eval it = .pointer (some ⟨r, 0, none⟩)) (h : RangeAt w b r S todo cnt)
    (hDone : (∀ k, k ∉ todo) → wpList P ops Q rest (a.put o.dst (.tuple #[.bool false])) w)
    (hMore : ∀ (k : Int) (w' : World) (cnt' : Nat), k ∈ todo → RangeAt w' b r S (strikeL k todo) cnt' → cnt' < cnt → Tn w w' (fun i => i = r) → w'.heap.size = w.heap.size →
      (Instr.entry (.pointer (some ⟨r, 0, none⟩))).run P w' = .ok (.tuple #[.int .i64 k, .bool true]) w' → wpList P ops Q rest (a.put o.dst (.tuple #[.bool true, .int .i64 k, .bool true])) w') :
    wpList P ops Q (o :: rest) a w := by
  refine wpList_plain hg fun K' hK' => ?_
  unfold Oper.wp
  rcases set_next (P := P) o.type r hbr h with ⟨h0, hrun⟩ | ⟨k, w1, w', ob, cnt', h1, h2, rfl, hob, hrun, h3, h4, h5⟩
  · simp [execOp, hop, hit, hrun, Result.andThen]
    exact hK' _ _ (hDone h0)
  · simp [execOp, hop, hit, hrun, Result.andThen]
    have hw : w1.heap = w.heap ∧ w1.os = w.os ∧ w1.tape = w.tape ∧ w1.output = w.output ∧ w.drawn ≤ w1.drawn := by
      rcases h2 with rfl | rfl
      · exact ⟨rfl, rfl, rfl, rfl, Nat.le_refl _⟩
      · exact ⟨rfl, rfl, rfl, rfl, Nat.le_succ _⟩
    obtain ⟨g1, g2, g3, g4, g5⟩ := hw
    have hset : ∀ i, i ≠ r → (setBlock w1 r ob).heap[i]? = w.heap[i]? := fun i hi => by
      show (w1.heap.setIfInBounds r ob)[i]? = _
      rw [Array.getElem?_setIfInBounds_ne (Ne.symm hi), g1]
    have hsz : (setBlock w1 r ob).heap.size = w.heap.size := by show (w1.heap.setIfInBounds r ob).size = _; rw [Array.size_setIfInBounds, g1]
    obtain ⟨es, clk, since, seen, c0, e1, e2, _⟩ := h
    exact hK' _ _ (hMore k _ cnt' h1 h3 h4 ⟨by rw [hsz]; exact Nat.le_refl _, g2, g3, ⟨g4, g5, fun i cs el fz hi => ⟨cs, (hset i fun e => by rw [e, e2] at hi; cases hi).trans hi, rfl⟩⟩, fun i _ hi => hset i hi⟩ hsz h5)
/-- An append of which the run is known. -/
theorem wpList_append_run (hgd : o.guard = none) (s x : Operand) (t t2 : TypeId)
    (ho : o.op = .call { callee := .builtin .append, args := #[s, x], argTypes := #[t, t2] }) (v xv : Value) (hs : a.eval s = v) (hx : a.eval x = xv) (F : Value → World → Prop)
    (hr : ∃ v' w', (Builtin.append_ #[t, t2] o.type #[v, xv]).run P w = .ok v' w' ∧ F v' w') (h : ∀ v' w', F v' w' → wpList P ops Q rest (a.put o.dst v') w') : wpList P ops Q (o :: rest) a w := by
  refine wpList_plain hgd fun K hK => ?_
  obtain ⟨v', w', hr, h2⟩ := hr
  unfold Oper.wp execOp
  simp only [ho, resolve, invoke, builtin, Sem.run_bind, Sem.run_pure, Result.andThen_ok, List.map_toArray, List.map_cons, List.map_nil, hs, hx, hr]
  exact hK _ _ (h v' w' h2)
end
/-! ### A list that is new -/
structure RowN (w : World) (B : Nat) (v : Value) (l : List Int) : Prop where
  ex : ∃ A c, v = .slice A l.length c ∧ l.length ≤ c ∧ (A = none → c = 0) ∧ (0 < c → ∃ b off cs el, A = some ⟨b, off, none⟩ ∧ B ≤ b ∧ w.heap[b]? = some (cellsE cs el) ∧ off + c ≤ cs.size) ∧
    ∀ k, k < l.length → ∃ b off, A = some ⟨b, off, none⟩ ∧ w.cell? ⟨b, off + k, none⟩ = some (.int .i64 (l.getD k 0))
theorem rowN_of {w : World} {B : Nat} {v : Value} {l : List Int} {S : Nat → Prop} (h : OwnD T w (.arr 3 l) v S) (hS : ∀ b, S b → B ≤ b) : RowN w B v l := by
  obtain ⟨A, c, vals, F, rfl, k⟩ := (OwnD.arr_iff (fun _ => False)).1 h
  refine ⟨A, c, rfl, k.hc, fun hA => ?_, fun hc => ?_, fun i hi => ?_⟩
  · rcases Nat.eq_zero_or_pos c with h0 | h0
    · exact h0
    · obtain ⟨b, off, cs, el, e1, _⟩ := k.hblk h0
      rw [hA] at e1; cases e1
  · obtain ⟨b, off, cs, el, e1, e2, e3, e4⟩ := k.hblk hc
    have hz : T.size 3 = 1 := rfl
    rw [hz, Nat.mul_one] at e4
    exact ⟨b, off, cs, el, e1, hS b e2, e3, e4⟩
  · have hrow : (row T 3 l i)[0]? = some (.int .i64 (l.getD i 0)) := rfl
    obtain ⟨b, off, e1, e2⟩ := k.hcell i 0 _ hi hrow
    have e3 := k.hsub i 0 _ hi hrow
    have e4 : vals i 0 = .int .i64 (l.getD i 0) := by
      generalize vals i 0 = v at e3
      cases e3
      rfl
    have hz : T.size 3 = 1 := rfl
    rw [hz, Nat.mul_one, Nat.add_zero, e4] at e2
    exact ⟨b, off, e1, e2⟩
theorem next_run {s : SSea} {cv sv : Value} {p : Int} {l : List Int} (hc : CallOk Try.prog T 158 [vA T 104 s, iA p] ⟨[vR T 24 l], []⟩) {w : World} {K : Nat → Prop} (h : SeaR w K s cv sv) :
    Calls Try.prog 158 #[seaV s cv sv, .int .i64 p] w fun e w' => ∃ v, e = .returned v ∧ Tn w w' NX ∧ RowN w' w.heap.size v l := by
  refine (hc.2 w K NX [seaV s cv sv, .int .i64 p] (.ro (ro_sea h) (.ro (ro_int p) .nil)) (self_none fun a ha => by
    simp only [List.mem_cons, List.not_mem_nil, or_false] at ha
    rcases ha with rfl | rfl <;> exact ⟨_, _, rfl⟩) (fun _ h => h.elim) (fun b hb => hb.elim (fun h => h.elim) (h.1 b))).mono ?_
  rintro e w' ⟨v, rfl, hp⟩
  obtain ⟨K', R, R', us, rfl, hr, _, _, hR, _⟩ := hp.ex
  cases hr with
  | cons h1 h2 h3 =>
    cases h2
    refine ⟨_, rfl, post_tn hp, ?_⟩
    have h1 : OwnDs T w' [.arr 3 l] [_] _ := h1
    obtain ⟨_, F, g2, g3, _⟩ := h1
    exact rowN_of (g2 0 _ _ rfl rfl) fun b hb => ((hR b (.inl (.inl (g3 0 b hb)))).2.2).elim (fun x => x.elim) id
theorem cell_new {w : World} {cs : Array Value} {t i : Nat} {u : Value} (h : cs[i]? = some u) : (w.alloc (.cells cs t)).cell? ⟨w.heap.size, i, none⟩ = some u := by
  have : (w.alloc (.cells cs t)).heap[w.heap.size]? = some (.cells cs t (0, 0)) := heap_alloc_new w _
  simp only [World.cell?, this]
  exact h
/-- One more number is laid behind a list that is new. -/
theorem app_one {w : World} {B : Nat} {v : Value} {l : List Int} (h : RowN w B v l) (hB : B ≤ w.heap.size) (hl : l.length ≤ 1000) (p : Int) {ty : Nat} :
    ∃ v' w', (Builtin.append_ #[24, 24] ty #[v, .slice (some ⟨w.heap.size, 0, none⟩) 1 1]).run Try.prog (w.alloc (.cells #[.int .i64 p] 3)) = .ok v' w' ∧ Tn w w' (fun i => B ≤ i) ∧
      ∃ g off c, v' = .slice (some ⟨g, off, none⟩) (l ++ [p]).length c ∧ (l ++ [p]).length ≤ c ∧ ∀ k, k < (l ++ [p]).length → w'.cell? ⟨g, off + k, none⟩ = some (.int .i64 ((l ++ [p]).getD k 0)) := by
  rw [show (l ++ [p]).length = l.length + 1 by simp]
  obtain ⟨A, c, rfl, h2, h3, h4, h5⟩ := h.ex
  have hz : T.size 3 = 1 := rfl
  have hb8 : T.bytes 3 = 8 := rfl
  have hsz : (w.alloc (.cells #[.int .i64 p] 3)).heap.size = w.heap.size + 1 := by show (w.heap.push _).size = _; simp
  have hta := Tn.alloc w (.cells #[.int .i64 p] 3)
  have hgrow : ∀ b, b < w.heap.size → (w.alloc (.cells #[.int .i64 p] 3)).heap[b]? = w.heap[b]? := fun b hb => heap_alloc_old w _ hb
  obtain ⟨A', c', w', g1, g2, g3, g4, g5, g6, g7, g8⟩ := append_memE (P := Try.prog) (w := w.alloc (.cells #[.int .i64 p] 3)) (T := T) (ty := ty) ok (el := 3) (by omega) (by omega) Try.underlying24 (A := A) (n := l.length) (c := c) h2 h3 (tx := 24) (xv := .slice (some ⟨w.heap.size, 0, none⟩) 1 1) (m := 1) (olds := l.map (Value.int .i64)) (news := [.int .i64 p])
    (fun _ hc => by
      obtain ⟨b, off, cs, el, e1, e2, e3, e4⟩ := h4 hc
      exact ⟨b, off, cs, el, e1, by rw [hgrow b (Array.getElem?_eq_some_iff.1 e3).1]; exact e3, by rw [hz]; omega⟩) (by rw [hz, Nat.mul_one, List.length_map])
    (fun hn => by
      obtain ⟨b, off, cs, el, e1, e2, e3, e4⟩ := h4 (by omega)
      refine ⟨b, off, e1, fun j u hj => ?_⟩
      obtain ⟨hj1, hj2⟩ := List.getElem?_eq_some_iff.1 hj
      rw [List.length_map] at hj1
      obtain ⟨b', off', f1, f2⟩ := h5 j hj1
      rw [e1] at f1
      cases f1
      rw [hta.cell (Array.getElem?_eq_some_iff.1 e3).1 (fun x => x), f2, ← hj2, List.getElem_map, getD_eq' hj1]) 
    (by rw [hz]; exact Go.Src.ofSlice _ Try.underlying24 ⟨w.heap.size, 0, none⟩ 1 1 [.int .i64 p] rfl (fun j u hj => by
        cases j with
        | succ j => cases hj
        | zero => cases hj; exact cell_new rfl) (fun u hu => by rw [List.mem_singleton.1 hu]; rfl)) (by rw [hb8]; omega)
  rw [hz] at g8
  obtain ⟨b, off, cs, ell, e1, e0, e2, e3, e4, e5, e6⟩ := g8 (by omega)
  refine ⟨_, w', g1, ⟨by omega, g4, g5, hta.oth.trans g6, fun k hk hkB => (g7 k (by omega) fun _ hc off he => ?_).trans (hgrow k hk)⟩, b, off, c', by rw [e1], g2, fun k hk => ?_⟩
  · obtain ⟨b', off', cs', el', f1, f2, _⟩ := h4 hc
    rw [he] at f1
    cases f1
    exact hkB f2
  · have hcs : cs[off + k]? = some (.int .i64 ((l ++ [p]).getD k 0)) := by
      by_cases hkl : k < l.length
      · refine e5 k _ ?_
        rw [List.getElem?_map, List.getElem?_eq_getElem hkl, List.getD_eq_getElem?_getD, List.getElem?_append_left hkl, List.getElem?_eq_getElem hkl]
        rfl
      · have : k = l.length := by omega
        subst this
        have := e6 0 _ rfl
        rw [Nat.mul_one, Nat.add_zero] at this
        rw [this, List.getD_eq_getElem?_getD, List.getElem?_append_right (Nat.le_refl _), Nat.sub_self]
        rfl
    simp only [World.cell?, e3, cellsE]
    exact hcs
end Go.Sm.E11
end

section
set_option linter.unusedVariables false
namespace Go.Sm.E11
open Go Go.Proofs Go.Shelf Go.RowKit Go.Sm
def nthL : Nat → Code → Option Code
  | n, .loop c => match n with
    | 0 => some c
    | n + 1 => nthL n c
  | n, .seq a b => match nthL n a with
    | some c => some c
    | none => nthL n b
  | n, .block _ c => nthL n c
  | n, .scope c => nthL n c
  | n, .cond _ a b => match nthL n a with
    | some c => some c
    | none => nthL n b
  | _, _ => none
noncomputable def qbody (n : Nat) : Code := ((Try.f69.body.bind (nthL n)).getD .skip)
/-- What the walk rests on: the sea in memory, its box, and the contracts of what is called. -/
structure QE (n : Nat) (s : SSea) (W : World) (K : Nat → Prop) (cv sv : Value) (bs B : Nat) : Prop where
  sea : SeaR W K s cv sv
  lo : ∀ b, K b → b < B
  bsl : bs < B
  box : ∃ fz, W.heap[bs]? = some (.cells #[.int .i64 s.Wide, .int .i64 s.High, cv, sv] 104 fz)
  shut : ∀ q st b, impl_Sea_shut n s q st = some b → CallOk Try.prog T 161 [vA T 104 s, iA q, iA st] ⟨[vR T 4 b], []⟩
  next : ∀ p l, impl_Sea_next n s p = some l → CallOk Try.prog T 158 [vA T 104 s, iA p] ⟨[vR T 24 l], []⟩
theorem QE.keep {n : Nat} {s : SSea} {W w : World} {K : Nat → Prop} {cv sv : Value} {bs B : Nat} (h : QE n s W K cv sv bs B) {X : Nat → Prop} (ht : Tn W w X) (hX : ∀ i, X i → B ≤ i) : QE n s w K cv sv bs B := by
  obtain ⟨fz, hb⟩ := h.box
  exact ⟨h.sea.keep ht fun b hb hx => by have := hX b hx; have := h.lo b hb; omega, h.lo, h.bsl, ⟨fz, (ht.old bs (Array.getElem?_eq_some_iff.1 hb).1 fun hx => by have := hX bs hx; have := h.bsl; omega).trans hb⟩, h.shut, h.next⟩
theorem QE.may {n : Nat} {s : SSea} {w : World} {K : Nat → Prop} {cv sv : Value} {bs B : Nat} (h : QE n s w K cv sv bs B) {q st : Int} {b : Bool} (hm : mayF n s q st = some b) : Calls Try.prog 160 #[.int .i64 q, .int .i64 st, pB bs] w fun e w' => e = .returned (.bool b) ∧ Tn w w' NX := by
  obtain ⟨fz, hb⟩ := h.box
  exact may_walk (fun b hb => h.shut _ _ _ hb) hm h.sea hb
abbrev fnV (bs : Nat) : Value := .func (.func 160) #[] #[pB bs]

def Inv4 (n : Nat) (s : SSea) (W : World) (step : Int) (bs bT g off c : Nat) (L S0 : List Int) (u0 u1 u2 u3 u4 u5 u6 u7 u8 u9 u11 u14 u15 u17 u18 u19 u20 u21 u22 u23 u24 u25 u26 u27 u28 u29 u30 u31 u32 u33 u34 u35 u36 u37 u38 u39 u40 u41 u42 u43 u44 u45 u46 u47 u48 u49 u50 u51 u52 u53 u54 u55 u56 u57 u58 u59 u60 u61 u62 u63 u64 u79 : Value) (a : Act) (w : World) : Prop := ∃ j : Nat, ∃ u16 u68 u69 u70 u71 u72 u73 u74 u75 u76 u77 u78 : Value, ∃ S : List Int, j ≤ L.length ∧ Tn W w (fun i => i = bT) ∧ SetAt w bT S ∧ (∀ z, z ∈ S ↔ z ∈ S0 ∨ (z ∈ L.take j ∧ mayF n s z (step + 1) = some true)) ∧ a = ⟨#[u0, u1, u2, u3, u4, u5, u6, u7, u8, u9, fnV bs, u11, .int .i64 step, .map (some bT), u14, u15, u16, u17, u18, u19, u20, u21, u22, u23, u24, u25, u26, u27, u28, u29, u30, u31, u32, u33, u34, u35, u36, u37, u38, u39, u40, u41, u42, u43, u44, u45, u46, u47, u48, u49, u50, u51, u52, u53, u54, u55, u56, u57, u58, u59, u60, u61, u62, u63, u64, .slice (some ⟨g, off, none⟩) L.length c, .int .i64 L.length, .int .i64 (j : Nat), u68, u69, u70, u71, u72, u73, u74, u75, u76, u77, u78, u79], []⟩
def mu67 (n : Nat) (a : Act) (w : World) : Nat := n - (intOf (a.tmps.getD 67 undef)).toNat
set_option maxHeartbeats 4000000 in
set_option maxRecDepth 100000 in
theorem round4 {n : Nat} {s : SSea} {K : Nat → Prop} {cv sv : Value} {bs B : Nat} {W : World} (hE : QE n s W K cv sv bs B) {step : Int} (hs0 : 0 ≤ step) (hs1 : step ≤ 1000) {bT : Nat} (hbT : B ≤ bT) {g off c : Nat} {L : List Int} (hLc : L.length ≤ c) (hL1 : L.length ≤ 2000) (hcell : ∀ k, k < L.length → W.cell? ⟨g, off + k, none⟩ = some (.int .i64 (L.getD k 0))) (hg : g ≠ bT) (hmay : ∀ z ∈ L, ∃ b, mayF n s z (step + 1) = some b) {S0 : List Int} {Q : Exit → Act → World → Prop} (u0 u1 u2 u3 u4 u5 u6 u7 u8 u9 u11 u14 u15 u17 u18 u19 u20 u21 u22 u23 u24 u25 u26 u27 u28 u29 u30 u31 u32 u33 u34 u35 u36 u37 u38 u39 u40 u41 u42 u43 u44 u45 u46 u47 u48 u49 u50 u51 u52 u53 u54 u55 u56 u57 u58 u59 u60 u61 u62 u63 u64 u79 : Value)
    (hexit : ∀ (u16 u68 u69 u70 u71 u72 u73 u74 u75 u76 u77 u78 : Value) (j : Nat) (w : World) (S : List Int), Tn W w (fun i => i = bT) → SetAt w bT S → (∀ z, z ∈ S ↔ z ∈ S0 ∨ (z ∈ L ∧ mayF n s z (step + 1) = some true)) → Q (.exit 4) ⟨#[u0, u1, u2, u3, u4, u5, u6, u7, u8, u9, fnV bs, u11, .int .i64 step, .map (some bT), u14, u15, u16, u17, u18, u19, u20, u21, u22, u23, u24, u25, u26, u27, u28, u29, u30, u31, u32, u33, u34, u35, u36, u37, u38, u39, u40, u41, u42, u43, u44, u45, u46, u47, u48, u49, u50, u51, u52, u53, u54, u55, u56, u57, u58, u59, u60, u61, u62, u63, u64, .slice (some ⟨g, off, none⟩) L.length c, .int .i64 L.length, .int .i64 (j : Nat), u68, u69, u70, u71, u72, u73, u74, u75, u76, u77, u78, u79], []⟩ w) {j : Nat} (u16 u68 u69 u70 u71 u72 u73 u74 u75 u76 u77 u78 : Value) (hj : j ≤ L.length) {w : World} (hT : Tn W w (fun i => i = bT)) {S : List Int} (hS : SetAt w bT S) (hm : ∀ z, z ∈ S ↔ z ∈ S0 ∨ (z ∈ L.take j ∧ mayF n s z (step + 1) = some true)) :
    Code.wp Try.prog (qbody 2) (Exit.then (fun a' w' => Inv4 n s W step bs bT g off c L S0 u0 u1 u2 u3 u4 u5 u6 u7 u8 u9 u11 u14 u15 u17 u18 u19 u20 u21 u22 u23 u24 u25 u26 u27 u28 u29 u30 u31 u32 u33 u34 u35 u36 u37 u38 u39 u40 u41 u42 u43 u44 u45 u46 u47 u48 u49 u50 u51 u52 u53 u54 u55 u56 u57 u58 u59 u60 u61 u62 u63 u64 u79 a' w' ∧ mu67 L.length a' w' < mu67 L.length ⟨#[u0, u1, u2, u3, u4, u5, u6, u7, u8, u9, fnV bs, u11, .int .i64 step, .map (some bT), u14, u15, u16, u17, u18, u19, u20, u21, u22, u23, u24, u25, u26, u27, u28, u29, u30, u31, u32, u33, u34, u35, u36, u37, u38, u39, u40, u41, u42, u43, u44, u45, u46, u47, u48, u49, u50, u51, u52, u53, u54, u55, u56, u57, u58, u59, u60, u61, u62, u63, u64, .slice (some ⟨g, off, none⟩) L.length c, .int .i64 L.length, .int .i64 (j : Nat), u68, u69, u70, u71, u72, u73, u74, u75, u76, u77, u78, u79], []⟩ w) Q) ⟨#[u0, u1, u2, u3, u4, u5, u6, u7, u8, u9, fnV bs, u11, .int .i64 step, .map (some bT), u14, u15, u16, u17, u18, u19, u20, u21, u22, u23, u24, u25, u26, u27, u28, u29, u30, u31, u32, u33, u34, u35, u36, u37, u38, u39, u40, u41, u42, u43, u44, u45, u46, u47, u48, u49, u50, u51, u52, u53, u54, u55, u56, u57, u58, u59, u60, u61, u62, u63, u64, .slice (some ⟨g, off, none⟩) L.length c, .int .i64 L.length, .int .i64 (j : Nat), u68, u69, u70, u71, u72, u73, u74, u75, u76, u77, u78, u79], []⟩ w := by
  have e160 : ∀ args w, (callFunc 160 args).run Try.prog w = .ok (.enter 160 args) w := enters_of Try.func160 (by kernel_rfl) rfl
  have t160 := Try.underlying160
  have t3 := Try.underlying3; have a3 := Try.isAgg3; have z3 := Try.sizeOf3; have v3 := Try.zeroValue3; have u3 := run_underlying t3
  have t24 := Try.underlying24; have a24 := Try.isAgg24; have z24 := Try.sizeOf24; have v24 := Try.zeroValue24; have u24 := run_underlying t24
  conv => arg 2; whnf
  by_cases hlt : j < L.length
  · have hz : w.cell? ⟨g, off + j, none⟩ = some (.int .i64 (L.getD j 0)) := by rw [hT.cell (cell_lt (hcell j hlt)) hg]; exact hcell j hlt
    have hmem : L.getD j 0 ∈ L := by rw [getD_eq' hlt]; exact List.getElem_mem hlt
    have htake : L.take (j + 1) = L.take j ++ [L.getD j 0] := by rw [getD_eq' hlt, List.take_succ_eq_append_getElem hlt]
    obtain ⟨b, hb⟩ := hmay _ hmem
    have hC := (hE.keep hT fun i hi => by rw [hi]; exact hbT).may hb
    generalize L.getD j 0 = z at *
    have HE := Lib.hid hexit
    have HC := Lib.hid hC
    have HB := Lib.hid hb
    have HM := Lib.hid hm
    have HK := Lib.hid htake
    have HY := Lib.hid hmay
    have HL := Lib.hid hcell
    have HX := Lib.hid hE
    clear hexit hC hb hm htake hmem hmay hcell hE
    cases b with
    | true =>
      go_wp2_with fail
      refine HC.out.mono ?_
      rintro _ w1 ⟨rfl, h1⟩
      have hS1 := hS.keep (h1.old bT hS.lt fun x => x)
      go_wp2_with (first | (at_mapUpdate; refine wpList_put_set rfl _ _ _ 160 rfl 3 4 t160 t3 bT _ rfl hS1 _ rfl rfl ?_; intro w2 hS2 hT2 hsz2) | fail)
      refine ⟨?_, by simp [mu67, intOf]; omega⟩
      unfold Inv4
      exact ⟨j + 1, _, _, _, _, _, _, _, _, _, _, _, _, z :: S, by omega, (hT.then h1 fun _ _ h => h.elim).then hT2 (fun i _ h => h), hS2, fun y => by
        rw [List.mem_cons, HM.out y, HK.out, List.mem_append, List.mem_singleton]
        constructor
        · rintro (rfl | h | ⟨h1, h2⟩)
          · exact .inr ⟨.inr rfl, HB.out⟩
          · exact .inl h
          · exact .inr ⟨.inl h1, h2⟩
        · rintro (h | ⟨h1 | h1, h2⟩)
          · exact .inr (.inl h)
          · exact .inr (.inr ⟨h1, h2⟩)
          · exact .inl h1, rfl⟩
    | false =>
      go_wp2_with fail
      refine HC.out.mono ?_
      rintro _ w1 ⟨rfl, h1⟩
      have hS1 := hS.keep (h1.old bT hS.lt fun x => x)
      go_wp2_with fail
      refine ⟨?_, by simp [mu67, intOf]; omega⟩
      unfold Inv4
      exact ⟨j + 1, _, _, _, _, _, _, _, _, _, _, _, _, S, by omega, hT.then h1 fun _ _ h => h.elim, hS1, (fun y => by
        rw [HM.out y, HK.out, List.mem_append, List.mem_singleton]
        constructor
        · rintro (h | ⟨h1, h2⟩)
          · exact .inl h
          · exact .inr ⟨.inl h1, h2⟩
        · rintro (h | ⟨h1 | h1, h2⟩)
          · exact .inl h
          · exact .inr ⟨h1, h2⟩
          · rw [h1, HB.out] at h2
            cases h2), rfl⟩
  · have hjl : j = L.length := by omega
    subst hjl
    have hm' : ∀ z, z ∈ S ↔ z ∈ S0 ∨ (z ∈ L ∧ mayF n s z (step + 1) = some true) := by
      rw [List.take_length] at hm; exact hm
    have HE := Lib.hid hexit
    have HM := Lib.hid hm'
    clear hexit hm hm' hmay hcell hE hlt hj
    go_wp2_with fail
    exact HE.out _ _ _ _ _ _ _ _ _ _ _ _ _ w S hT hS HM.out

theorem loop4 {n : Nat} {s : SSea} {K : Nat → Prop} {cv sv : Value} {bs B : Nat} {W : World} (hE : QE n s W K cv sv bs B) {step : Int} (hs0 : 0 ≤ step) (hs1 : step ≤ 1000) {bT : Nat} (hbT : B ≤ bT) {g off c : Nat} {L : List Int} (hLc : L.length ≤ c) (hL1 : L.length ≤ 2000) (hcell : ∀ k, k < L.length → W.cell? ⟨g, off + k, none⟩ = some (.int .i64 (L.getD k 0))) (hg : g ≠ bT) (hmay : ∀ z ∈ L, ∃ b, mayF n s z (step + 1) = some b) {S0 : List Int} {Q : Exit → Act → World → Prop} (u0 u1 u2 u3 u4 u5 u6 u7 u8 u9 u11 u14 u15 u17 u18 u19 u20 u21 u22 u23 u24 u25 u26 u27 u28 u29 u30 u31 u32 u33 u34 u35 u36 u37 u38 u39 u40 u41 u42 u43 u44 u45 u46 u47 u48 u49 u50 u51 u52 u53 u54 u55 u56 u57 u58 u59 u60 u61 u62 u63 u64 u79 : Value)
    (hexit : ∀ (u16 u68 u69 u70 u71 u72 u73 u74 u75 u76 u77 u78 : Value) (j : Nat) (w : World) (S : List Int), Tn W w (fun i => i = bT) → SetAt w bT S → (∀ z, z ∈ S ↔ z ∈ S0 ∨ (z ∈ L ∧ mayF n s z (step + 1) = some true)) → Q (.exit 4) ⟨#[u0, u1, u2, u3, u4, u5, u6, u7, u8, u9, fnV bs, u11, .int .i64 step, .map (some bT), u14, u15, u16, u17, u18, u19, u20, u21, u22, u23, u24, u25, u26, u27, u28, u29, u30, u31, u32, u33, u34, u35, u36, u37, u38, u39, u40, u41, u42, u43, u44, u45, u46, u47, u48, u49, u50, u51, u52, u53, u54, u55, u56, u57, u58, u59, u60, u61, u62, u63, u64, .slice (some ⟨g, off, none⟩) L.length c, .int .i64 L.length, .int .i64 (j : Nat), u68, u69, u70, u71, u72, u73, u74, u75, u76, u77, u78, u79], []⟩ w) (u16 u68 u69 u70 u71 u72 u73 u74 u75 u76 u77 u78 : Value) (hS : SetAt W bT S0) :
    Code.wp Try.prog (Code.loop (qbody 2)) Q ⟨#[u0, u1, u2, u3, u4, u5, u6, u7, u8, u9, fnV bs, u11, .int .i64 step, .map (some bT), u14, u15, u16, u17, u18, u19, u20, u21, u22, u23, u24, u25, u26, u27, u28, u29, u30, u31, u32, u33, u34, u35, u36, u37, u38, u39, u40, u41, u42, u43, u44, u45, u46, u47, u48, u49, u50, u51, u52, u53, u54, u55, u56, u57, u58, u59, u60, u61, u62, u63, u64, .slice (some ⟨g, off, none⟩) L.length c, .int .i64 L.length, .int .i64 0, u68, u69, u70, u71, u72, u73, u74, u75, u76, u77, u78, u79], []⟩ W := by
  refine wp_loop (Inv4 n s W step bs bT g off c L S0 u0 u1 u2 u3 u4 u5 u6 u7 u8 u9 u11 u14 u15 u17 u18 u19 u20 u21 u22 u23 u24 u25 u26 u27 u28 u29 u30 u31 u32 u33 u34 u35 u36 u37 u38 u39 u40 u41 u42 u43 u44 u45 u46 u47 u48 u49 u50 u51 u52 u53 u54 u55 u56 u57 u58 u59 u60 u61 u62 u63 u64 u79) (mu67 L.length) ⟨0, u16, u68, u69, u70, u71, u72, u73, u74, u75, u76, u77, u78, S0, Nat.zero_le _, Tn.refl _ _, hS, fun z => by simp, rfl⟩ (fun a w' hI => ?_)
  obtain ⟨j, u16, u68, u69, u70, u71, u72, u73, u74, u75, u76, u77, u78, S, hj, hT', hS', hm', rfl⟩ := hI
  exact round4 hE hs0 hs1 hbT hLc hL1 hcell hg hmay u0 u1 u2 u3 u4 u5 u6 u7 u8 u9 u11 u14 u15 u17 u18 u19 u20 u21 u22 u23 u24 u25 u26 u27 u28 u29 u30 u31 u32 u33 u34 u35 u36 u37 u38 u39 u40 u41 u42 u43 u44 u45 u46 u47 u48 u49 u50 u51 u52 u53 u54 u55 u56 u57 u58 u59 u60 u61 u62 u63 u64 u79 hexit u16 u68 u69 u70 u71 u72 u73 u74 u75 u76 u77 u78 hj hT' hS' hm' 
theorem next_le {n : Nat} {s : SSea} {p : Int} {l : List Int} (h : impl_Sea_next n s p = some l) : l.length ≤ 4 := by
  have hc : ∀ {b : Bool} {x : Option (List Int)}, (∀ l, x = some l → l.length ≤ 4) → ∀ l, chk b x = some l → l.length ≤ 4 := by
    intro b x hx l hl
    cases b with
    | true => exact hx l hl
    | false => cases hl
  have hb : ∀ {c : Bool} {x y : Option (List Int)}, (∀ l, x = some l → l.length ≤ 4) → (∀ l, y = some l → l.length ≤ 4) → ∀ l, (bif c then x else y) = some l → l.length ≤ 4 := by
    intro c x y hx hy l hl
    cases c with
    | true => exact hx l hl
    | false => exact hy l hl
  have hs : ∀ {y : List Int}, y.length ≤ 4 → ∀ l, some y = some l → l.length ≤ 4 := by
    intro y hy l hl
    cases hl
    exact hy
  have hn : ∀ l, (none : Option (List Int)) = some l → l.length ≤ 4 := fun l hl => nomatch hl
  revert l
  unfold impl_Sea_next impl_Sea_next_k0 impl_Sea_next_k1 impl_Sea_next_k2 impl_Sea_next_k3 bd
  intro l hl
  refine (?_ : ∀ l, _ = some l → l.length ≤ 4) l hl
  repeat first
    | exact hn
    | exact hs (Nat.le_of_ble_eq_true rfl)
    | refine hb ?_ ?_
    | refine hc ?_
theorem rangeMu {w : World} {b r : Nat} {S todo : List Int} {cnt : Nat} (h : RangeAt w b r S todo cnt) : (match w.heap[b]?, w.heap[r]? with | some (.map es _), some (.mapIter _ _ seen _) => (leftOf es seen).size | _, _ => 0) = cnt := by
  obtain ⟨es, clk, since, seen, c0, h1, h2, h3, h4, h5, h6, h7, h8⟩ := h
  rw [h1, h2]
  exact h7
def muR (b r : Nat) (a : Act) (w : World) : Nat := match w.heap[b]?, w.heap[r]? with | some (.map es _), some (.mapIter _ _ seen _) => (leftOf es seen).size | _, _ => 0
theorem set_cells_ne {w : World} {b g i : Nat} {S : List Int} {v : Value} (h : SetAt w b S) (hc : w.cell? ⟨g, i, none⟩ = some v) : g ≠ b := by
  rintro rfl
  obtain ⟨es, clk, h1, _⟩ := h
  simp [World.cell?, h1] at hc
/-- What has been stored when the places of S that are not todo have been gone through. -/
def Stored (n : Nat) (s : SSea) (st : Int) (S todo ST : List Int) : Prop := ∀ z, z ∈ ST ↔ mayF n s z st = some true ∧ ∃ p, p ∈ S ∧ p ∉ todo ∧ ∃ l, impl_Sea_next n s p = some l ∧ z ∈ l ++ [p]
theorem Stored.start (n : Nat) (s : SSea) (st : Int) (S : List Int) : Stored n s st S S [] := fun z => ⟨(fun h => nomatch h), fun ⟨_, p, h1, h2, _⟩ => absurd h1 h2⟩
theorem Stored.step {n : Nat} {s : SSea} {st : Int} {S todo ST ST' : List Int} (h : Stored n s st S todo ST) {k : Int} (hk : k ∈ S) {l : List Int} (hl : impl_Sea_next n s k = some l) (h' : ∀ z, z ∈ ST' ↔ z ∈ ST ∨ (z ∈ l ++ [k] ∧ mayF n s z st = some true)) : Stored n s st S (strikeL k todo) ST' := by
  intro z
  rw [h' z, h z]
  constructor
  · rintro (⟨h1, p, h2, h3, h4⟩ | ⟨h1, h2⟩)
    · exact ⟨h1, p, h2, fun hp => h3 (List.mem_filter.1 hp).1, h4⟩
    · exact ⟨h2, k, hk, fun hp => by have := of_decide_eq_true (List.mem_filter.1 hp).2; exact this rfl, l, hl, h1⟩
  · rintro ⟨h1, p, h2, h3, l', h4, h5⟩
    by_cases e : p = k
    · subst e
      rw [hl] at h4
      cases h4
      exact .inr ⟨h5, h1⟩
    · exact .inl ⟨h1, p, h2, fun hp => h3 (List.mem_filter.2 ⟨hp, decide_eq_true e⟩), l', h4, h5⟩
def Inv2 (n : Nat) (s : SSea) (W : World) (step : Int) (bs bA bT r : Nat) (S : List Int) (u0 u1 u2 u3 u5 u6 u7 u8 u9 u11 u15 u17 u18 u19 u20 u21 u22 u23 u24 u25 u26 u27 u28 u29 u30 u31 u32 u33 u34 u35 u36 u37 u38 u39 u40 u41 u42 u43 u44 u45 u46 u47 u48 u49 u50 u51 u52 u53 u54 u79 : Value) (a : Act) (w : World) : Prop := ∃ u14 u16 u56 u57 u58 u59 u60 u61 u62 u63 u64 u65 u66 u67 u68 u69 u70 u71 u72 u73 u74 u75 u76 u77 u78 : Value, ∃ todo : List Int, ∃ cnt : Nat, ∃ ST : List Int, RangeAt w bA r S todo cnt ∧ Tn W w (fun i => i = bT ∨ i = r) ∧ SetAt w bT ST ∧ Stored n s (step + 1) S todo ST ∧ a = ⟨#[u0, u1, u2, u3, pB bs, u5, u6, u7, u8, u9, fnV bs, u11, .int .i64 step, .map (some bT), u14, u15, u16, u17, u18, u19, u20, u21, u22, u23, u24, u25, u26, u27, u28, u29, u30, u31, u32, u33, u34, u35, u36, u37, u38, u39, u40, u41, u42, u43, u44, u45, u46, u47, u48, u49, u50, u51, u52, u53, u54, pB r, u56, u57, u58, u59, u60, u61, u62, u63, u64, u65, u66, u67, u68, u69, u70, u71, u72, u73, u74, u75, u76, u77, u78, u79], []⟩
set_option maxHeartbeats 4000000 in
set_option maxRecDepth 100000 in
theorem round2 {n : Nat} {s : SSea} {K : Nat → Prop} {cv sv : Value} {bs B : Nat} {W : World} (hE : QE n s W K cv sv bs B) {step : Int} (hs0 : 0 ≤ step) (hs1 : step ≤ 1000) {bA bT r : Nat} (hbT : B ≤ bT) (hbr : B ≤ r) (hAr : bA ≠ r) (hAT : bA ≠ bT) (hTr : bT ≠ r) {S : List Int} (hq : ∀ p ∈ S, ∃ l, impl_Sea_next n s p = some l ∧ ∀ z ∈ l ++ [p], ∃ b, mayF n s z (step + 1) = some b) {Q : Exit → Act → World → Prop} (u0 u1 u2 u3 u5 u6 u7 u8 u9 u11 u15 u17 u18 u19 u20 u21 u22 u23 u24 u25 u26 u27 u28 u29 u30 u31 u32 u33 u34 u35 u36 u37 u38 u39 u40 u41 u42 u43 u44 u45 u46 u47 u48 u49 u50 u51 u52 u53 u54 u79 : Value)
    (hexit : ∀ (u14 u16 u56 u57 u58 u59 u60 u61 u62 u63 u64 u65 u66 u67 u68 u69 u70 u71 u72 u73 u74 u75 u76 u77 u78 : Value) (w : World) (todo ST : List Int), (∀ k, k ∉ todo) → Tn W w (fun i => i = bT ∨ i = r) → SetAt w bT ST → Stored n s (step + 1) S todo ST → Q (.exit 2) ⟨#[u0, u1, u2, u3, pB bs, u5, u6, u7, u8, u9, fnV bs, u11, .int .i64 step, .map (some bT), u14, u15, u16, u17, u18, u19, u20, u21, u22, u23, u24, u25, u26, u27, u28, u29, u30, u31, u32, u33, u34, u35, u36, u37, u38, u39, u40, u41, u42, u43, u44, u45, u46, u47, u48, u49, u50, u51, u52, u53, u54, pB r, u56, u57, u58, u59, u60, u61, u62, u63, u64, u65, u66, u67, u68, u69, u70, u71, u72, u73, u74, u75, u76, u77, u78, u79], []⟩ w) (u14 u16 u56 u57 u58 u59 u60 u61 u62 u63 u64 u65 u66 u67 u68 u69 u70 u71 u72 u73 u74 u75 u76 u77 u78 : Value) {w : World} {todo : List Int} {cnt : Nat} (hR : RangeAt w bA r S todo cnt) (hT : Tn W w (fun i => i = bT ∨ i = r)) {ST : List Int} (hS : SetAt w bT ST) (hm : Stored n s (step + 1) S todo ST) :
    Code.wp Try.prog (qbody 1) (Exit.then (fun a' w' => Inv2 n s W step bs bA bT r S u0 u1 u2 u3 u5 u6 u7 u8 u9 u11 u15 u17 u18 u19 u20 u21 u22 u23 u24 u25 u26 u27 u28 u29 u30 u31 u32 u33 u34 u35 u36 u37 u38 u39 u40 u41 u42 u43 u44 u45 u46 u47 u48 u49 u50 u51 u52 u53 u54 u79 a' w' ∧ muR bA r a' w' < muR bA r ⟨#[u0, u1, u2, u3, pB bs, u5, u6, u7, u8, u9, fnV bs, u11, .int .i64 step, .map (some bT), u14, u15, u16, u17, u18, u19, u20, u21, u22, u23, u24, u25, u26, u27, u28, u29, u30, u31, u32, u33, u34, u35, u36, u37, u38, u39, u40, u41, u42, u43, u44, u45, u46, u47, u48, u49, u50, u51, u52, u53, u54, pB r, u56, u57, u58, u59, u60, u61, u62, u63, u64, u65, u66, u67, u68, u69, u70, u71, u72, u73, u74, u75, u76, u77, u78, u79], []⟩ w) Q) ⟨#[u0, u1, u2, u3, pB bs, u5, u6, u7, u8, u9, fnV bs, u11, .int .i64 step, .map (some bT), u14, u15, u16, u17, u18, u19, u20, u21, u22, u23, u24, u25, u26, u27, u28, u29, u30, u31, u32, u33, u34, u35, u36, u37, u38, u39, u40, u41, u42, u43, u44, u45, u46, u47, u48, u49, u50, u51, u52, u53, u54, pB r, u56, u57, u58, u59, u60, u61, u62, u63, u64, u65, u66, u67, u68, u69, u70, u71, u72, u73, u74, u75, u76, u77, u78, u79], []⟩ w := by
  have e158 : ∀ args w, (callFunc 158 args).run Try.prog w = .ok (.enter 158 args) w := enters_of Try.func158 (by kernel_rfl) rfl
  have t160 := Try.underlying160
  have t104 := Try.underlying104; have a104 := Try.isAgg104; have z104 := Try.sizeOf104; have v104 := Try.zeroValue104; have u104 := run_underlying t104
  have t3 := Try.underlying3; have a3 := Try.isAgg3; have z3 := Try.sizeOf3; have v3 := Try.zeroValue3; have u3 := run_underlying t3
  have t24 := Try.underlying24; have a24 := Try.isAgg24; have z24 := Try.sizeOf24; have v24 := Try.zeroValue24; have u24 := run_underlying t24
  have t102 := Try.underlying102; have a102 := Try.isAgg102; have z102 := Try.sizeOf102; have v102 := Try.zeroValue102; have u102 := run_underlying t102
  have hE1 := hE.keep hT fun i hi => by rcases hi with rfl | rfl <;> assumption
  have HE := Lib.hid hexit
  have HM := Lib.hid hm
  have HQ := Lib.hid hq
  have HX := Lib.hid hE1
  clear hexit hm hq hE hE1
  conv => arg 2; whnf
  go_wp2_with (first | (at_next; refine wpList_next_set rfl _ rfl bA r S todo cnt hAr rfl hR ?_ ?_) | fail)
  · intro h0
    go_wp2_with fail
    exact HE.out _ _ _ _ _ _ _ _ _ _ _ _ _ _ _ _ _ _ _ _ _ _ _ _ _ w todo ST h0 hT hS HM.out
  · intro k w1 cnt1 hk hR1 hlt1 hT1 hsz1 hen
    have hkS := hR.sub hk
    obtain ⟨l, hl, hmay⟩ := HQ.out k hkS
    have hE1 := HX.out.keep hT1 fun i hi => by rw [hi]; exact hbr
    obtain ⟨fz, hbx⟩ := hE1.box
    have c0 : w1.cell? ⟨bs, 0, none⟩ = some (.int .i64 s.Wide) := by simp [World.cell?, hbx]
    have c1 : w1.cell? ⟨bs, 1, none⟩ = some (.int .i64 s.High) := by simp [World.cell?, hbx]
    have c2 : w1.cell? ⟨bs, 2, none⟩ = some cv := by simp [World.cell?, hbx]
    have c3 : w1.cell? ⟨bs, 3, none⟩ = some sv := by simp [World.cell?, hbx]
    have HC := Lib.hid (next_run (hE1.next _ _ hl) hE1.sea)
    have HY := Lib.hid hmay
    have HN := Lib.hid hl
    have HX1 := Lib.hid hE1
    have hT01 := hT.then hT1 (fun i _ h => .inr h)
    have hS1 := hS.keep (hT1.old bT hS.lt hTr)
    clear hE1 hmay hl hbx
    go_wp2_with fail
    refine HC.out.mono ?_
    rintro _ w2 ⟨v, rfl, hT2, hrow⟩
    clear c0 c1 c2 c3 hen
    have hap := app_one (ty := 24) hrow hT2.size (by have := next_le HN.out; omega) k
    have hL1 : (l ++ [k]).length ≤ 2000 := by have := next_le HN.out; rw [List.length_append, List.length_singleton]; omega
    have hL0 : 0 < (l ++ [k]).length := by rw [List.length_append, List.length_singleton]; omega
    have hmay2 : ∀ z ∈ l ++ [k], ∃ b, mayF n s z (step + 1) = some b := HY.out
    generalize hL : l ++ [k] = L at hap hL1 hL0 hmay2
    have HL := Lib.hid hL
    have HY2 := Lib.hid hmay2
    clear hL hmay2 hrow
    go_wp2_with (first | (at_builtin; refine wpList_append_run rfl _ _ 24 24 rfl v (.slice (some ⟨w2.heap.size, 0, none⟩) 1 1) rfl rfl _ hap ?_; rintro v' w3 ⟨hT3, g, off, c, rfl, hc1, hcell⟩) | fail)
    have hT13 : Tn w1 w3 NX := hT2.then hT3 (fun i hi h => absurd hi (Nat.not_lt.2 h))
    have hS3 := hS1.keep (hT13.old bT hS1.lt fun x => x)
    have hR3 := hR1.keep (hT13.old bA hR1.set.lt fun x => x) (hT13.old r hR1.ltr fun x => x)
    have hE3 := HX1.out.keep hT13 fun i hi => hi.elim
    have hT03 := hT01.then hT13 (fun i _ h => h.elim)
    have hgT : g ≠ bT := set_cells_ne hS3 (hcell 0 hL0)
    refine loop4 hE3 hs0 hs1 hbT hc1 hL1 hcell hgT HY2.out _ _ _ _ _ _ _ _ _ _ _ _ _ _ _ _ _ _ _ _ _ _ _ _ _ _ _ _ _ _ _ _ _ _ _ _ _ _ _ _ _ _ _ _ _ _ _ _ _ _ _ _ _ _ _ _ _ _ _ _ _ _ ?_ _ _ _ _ _ _ _ _ _ _ _ _ hS3
    intro x16 x68 x69 x70 x71 x72 x73 x74 x75 x76 x77 x78 j w4 S4 hT4 hS4 hm4
    have hm4' := HM.out.step hkS HN.out (ST' := S4) (by rw [HL.out]; exact hm4)
    have hR4 := hR3.keep (hT4.old bA hR3.set.lt hAT) (hT4.old r hR3.ltr (Ne.symm hTr))
    have hT04 := hT03.then hT4 (fun i _ h => .inl h)
    clear hcell hap hm4
    go_wp2_with fail
    refine ⟨?_, ?_⟩
    · unfold Inv2
      exact ⟨_, _, _, _, _, _, _, _, _, _, _, _, _, _, _, _, _, _, _, _, _, _, _, _, _, _, cnt1, S4, hR4, hT04, hS4, hm4', rfl⟩
    · have e1 : ∀ a, muR bA r a w4 = cnt1 := fun a => rangeMu hR4
      have e2 : ∀ a, muR bA r a w = cnt := fun a => rangeMu hR
      rw [e1, e2]
      exact hlt1

theorem loop2 {n : Nat} {s : SSea} {K : Nat → Prop} {cv sv : Value} {bs B : Nat} {W : World} (hE : QE n s W K cv sv bs B) {step : Int} (hs0 : 0 ≤ step) (hs1 : step ≤ 1000) {bA bT r : Nat} (hbT : B ≤ bT) (hbr : B ≤ r) (hAr : bA ≠ r) (hAT : bA ≠ bT) (hTr : bT ≠ r) {S : List Int} (hq : ∀ p ∈ S, ∃ l, impl_Sea_next n s p = some l ∧ ∀ z ∈ l ++ [p], ∃ b, mayF n s z (step + 1) = some b) {Q : Exit → Act → World → Prop} (u0 u1 u2 u3 u5 u6 u7 u8 u9 u11 u15 u17 u18 u19 u20 u21 u22 u23 u24 u25 u26 u27 u28 u29 u30 u31 u32 u33 u34 u35 u36 u37 u38 u39 u40 u41 u42 u43 u44 u45 u46 u47 u48 u49 u50 u51 u52 u53 u54 u79 : Value)
    (hexit : ∀ (u14 u16 u56 u57 u58 u59 u60 u61 u62 u63 u64 u65 u66 u67 u68 u69 u70 u71 u72 u73 u74 u75 u76 u77 u78 : Value) (w : World) (todo ST : List Int), (∀ k, k ∉ todo) → Tn W w (fun i => i = bT ∨ i = r) → SetAt w bT ST → Stored n s (step + 1) S todo ST → Q (.exit 2) ⟨#[u0, u1, u2, u3, pB bs, u5, u6, u7, u8, u9, fnV bs, u11, .int .i64 step, .map (some bT), u14, u15, u16, u17, u18, u19, u20, u21, u22, u23, u24, u25, u26, u27, u28, u29, u30, u31, u32, u33, u34, u35, u36, u37, u38, u39, u40, u41, u42, u43, u44, u45, u46, u47, u48, u49, u50, u51, u52, u53, u54, pB r, u56, u57, u58, u59, u60, u61, u62, u63, u64, u65, u66, u67, u68, u69, u70, u71, u72, u73, u74, u75, u76, u77, u78, u79], []⟩ w) (u14 u16 u56 u57 u58 u59 u60 u61 u62 u63 u64 u65 u66 u67 u68 u69 u70 u71 u72 u73 u74 u75 u76 u77 u78 : Value) {cnt : Nat} (hR : RangeAt W bA r S S cnt) (hS : SetAt W bT []) :
    Code.wp Try.prog (Code.loop (qbody 1)) Q ⟨#[u0, u1, u2, u3, pB bs, u5, u6, u7, u8, u9, fnV bs, u11, .int .i64 step, .map (some bT), u14, u15, u16, u17, u18, u19, u20, u21, u22, u23, u24, u25, u26, u27, u28, u29, u30, u31, u32, u33, u34, u35, u36, u37, u38, u39, u40, u41, u42, u43, u44, u45, u46, u47, u48, u49, u50, u51, u52, u53, u54, pB r, u56, u57, u58, u59, u60, u61, u62, u63, u64, u65, u66, u67, u68, u69, u70, u71, u72, u73, u74, u75, u76, u77, u78, u79], []⟩ W := by
  refine wp_loop (Inv2 n s W step bs bA bT r S u0 u1 u2 u3 u5 u6 u7 u8 u9 u11 u15 u17 u18 u19 u20 u21 u22 u23 u24 u25 u26 u27 u28 u29 u30 u31 u32 u33 u34 u35 u36 u37 u38 u39 u40 u41 u42 u43 u44 u45 u46 u47 u48 u49 u50 u51 u52 u53 u54 u79) (muR bA r) ⟨u14, u16, u56, u57, u58, u59, u60, u61, u62, u63, u64, u65, u66, u67, u68, u69, u70, u71, u72, u73, u74, u75, u76, u77, u78, S, cnt, [], hR, Tn.refl _ _, hS, Stored.start _ _ _ _, rfl⟩ (fun a w' hI => ?_)
  obtain ⟨u14, u16, u56, u57, u58, u59, u60, u61, u62, u63, u64, u65, u66, u67, u68, u69, u70, u71, u72, u73, u74, u75, u76, u77, u78, todo, cnt', ST, hR', hT', hS', hm', rfl⟩ := hI
  exact round2 hE hs0 hs1 hbT hbr hAr hAT hTr hq u0 u1 u2 u3 u5 u6 u7 u8 u9 u11 u15 u17 u18 u19 u20 u21 u22 u23 u24 u25 u26 u27 u28 u29 u30 u31 u32 u33 u34 u35 u36 u37 u38 u39 u40 u41 u42 u43 u44 u45 u46 u47 u48 u49 u50 u51 u52 u53 u54 u79 hexit u14 u16 u56 u57 u58 u59 u60 u61 u62 u63 u64 u65 u66 u67 u68 u69 u70 u71 u72 u73 u74 u75 u76 u77 u78 hR' hT' hS' hm' 
def mu12 (most : Int) (a : Act) (w : World) : Nat := (most - intOf (a.tmps.getD 12 undef)).toNat
def Inv0 (n : Nat) (s : SSea) (W : World) (to most : Int) (r : Int × Bool) (bs : Nat) (u0 u1 u5 u6 u7 u8 u9 u15 u17 u18 u19 u20 u21 u22 u23 u24 u25 u26 u27 u28 u29 u30 u31 u32 u33 u34 u35 u36 u37 u38 u39 u40 u41 u42 u43 : Value) (a : Act) (w : World) : Prop := ∃ u13 u14 u16 u44 u45 u46 u47 u48 u49 u50 u51 u52 u53 u54 u55 u56 u57 u58 u59 u60 u61 u62 u63 u64 u65 u66 u67 u68 u69 u70 u71 u72 u73 u74 u75 u76 u77 u78 u79 : Value, ∃ (step : Int) (S : List Int) (bA f : Nat), Tn W w NX ∧ SetAt w bA S ∧ W.heap.size ≤ bA ∧ 0 ≤ step ∧ step ≤ most ∧ qgo (mayF n s) (fun p => impl_Sea_next n s p) to most f step S = some r ∧ a = ⟨#[u0, u1, .int .i64 to, .int .i64 most, pB bs, u5, u6, u7, u8, u9, fnV bs, .map (some bA), .int .i64 step, u13, u14, u15, u16, u17, u18, u19, u20, u21, u22, u23, u24, u25, u26, u27, u28, u29, u30, u31, u32, u33, u34, u35, u36, u37, u38, u39, u40, u41, u42, u43, u44, u45, u46, u47, u48, u49, u50, u51, u52, u53, u54, u55, u56, u57, u58, u59, u60, u61, u62, u63, u64, u65, u66, u67, u68, u69, u70, u71, u72, u73, u74, u75, u76, u77, u78, u79], []⟩
set_option maxHeartbeats 4000000 in
set_option maxRecDepth 100000 in
theorem round0 {n : Nat} {s : SSea} {K : Nat → Prop} {cv sv : Value} {bs : Nat} {W : World} (hE : QE n s W K cv sv bs W.heap.size) {to most : Int} (hmo : most ≤ 200) {r : Int × Bool} {Q : Exit → Act → World → Prop} (u0 u1 u5 u6 u7 u8 u9 u15 u17 u18 u19 u20 u21 u22 u23 u24 u25 u26 u27 u28 u29 u30 u31 u32 u33 u34 u35 u36 u37 u38 u39 u40 u41 u42 u43 : Value)
    (hret : ∀ (u11 u12 u13 u14 u16 u44 u45 u46 u47 u48 u49 u50 u51 u52 u53 u54 u55 u56 u57 u58 u59 u60 u61 u62 u63 u64 u65 u66 u67 u68 u69 u70 u71 u72 u73 u74 u75 u76 u77 u78 u79 : Value) (w : World), Tn W w NX → Q .ret ⟨#[u0, u1, .int .i64 to, .int .i64 most, pB bs, u5, u6, u7, .int .i64 r.1, .bool r.2, fnV bs, u11, u12, u13, u14, u15, u16, u17, u18, u19, u20, u21, u22, u23, u24, u25, u26, u27, u28, u29, u30, u31, u32, u33, u34, u35, u36, u37, u38, u39, u40, u41, u42, u43, u44, u45, u46, u47, u48, u49, u50, u51, u52, u53, u54, u55, u56, u57, u58, u59, u60, u61, u62, u63, u64, u65, u66, u67, u68, u69, u70, u71, u72, u73, u74, u75, u76, u77, u78, u79], []⟩ w) (u13 u14 u16 u44 u45 u46 u47 u48 u49 u50 u51 u52 u53 u54 u55 u56 u57 u58 u59 u60 u61 u62 u63 u64 u65 u66 u67 u68 u69 u70 u71 u72 u73 u74 u75 u76 u77 u78 u79 : Value) {step : Int} {S : List Int} {bA f : Nat} {w : World} (hT : Tn W w NX) (hS : SetAt w bA S) (hbA : W.heap.size ≤ bA) (hs0 : 0 ≤ step) (hs1 : step ≤ most) (hgo : qgo (mayF n s) (fun p => impl_Sea_next n s p) to most f step S = some r) :
    Code.wp Try.prog (qbody 0) (Exit.then (fun a' w' => Inv0 n s W to most r bs u0 u1 u5 u6 u7 u8 u9 u15 u17 u18 u19 u20 u21 u22 u23 u24 u25 u26 u27 u28 u29 u30 u31 u32 u33 u34 u35 u36 u37 u38 u39 u40 u41 u42 u43 a' w' ∧ mu12 most a' w' < mu12 most ⟨#[u0, u1, .int .i64 to, .int .i64 most, pB bs, u5, u6, u7, u8, u9, fnV bs, .map (some bA), .int .i64 step, u13, u14, u15, u16, u17, u18, u19, u20, u21, u22, u23, u24, u25, u26, u27, u28, u29, u30, u31, u32, u33, u34, u35, u36, u37, u38, u39, u40, u41, u42, u43, u44, u45, u46, u47, u48, u49, u50, u51, u52, u53, u54, u55, u56, u57, u58, u59, u60, u61, u62, u63, u64, u65, u66, u67, u68, u69, u70, u71, u72, u73, u74, u75, u76, u77, u78, u79], []⟩ w) Q) ⟨#[u0, u1, .int .i64 to, .int .i64 most, pB bs, u5, u6, u7, u8, u9, fnV bs, .map (some bA), .int .i64 step, u13, u14, u15, u16, u17, u18, u19, u20, u21, u22, u23, u24, u25, u26, u27, u28, u29, u30, u31, u32, u33, u34, u35, u36, u37, u38, u39, u40, u41, u42, u43, u44, u45, u46, u47, u48, u49, u50, u51, u52, u53, u54, u55, u56, u57, u58, u59, u60, u61, u62, u63, u64, u65, u66, u67, u68, u69, u70, u71, u72, u73, u74, u75, u76, u77, u78, u79], []⟩ w := by
  have t160 := Try.underlying160
  have t3 := Try.underlying3; have a3 := Try.isAgg3; have z3 := Try.sizeOf3; have v3 := Try.zeroValue3; have u3 := run_underlying t3
  have v4 := Try.zeroValue4
  have hmm := @run_makeMap Try.prog
  cases f with
  | zero => cases hgo
  | succ f =>
    unfold qgo at hgo
    conv => arg 2; whnf
    have HR := Lib.hid hret
    have HX := Lib.hid hE
    clear hret hE
    cases hc : S.contains to with
    | true =>
      rw [hc, cond_true] at hgo
      cases hgo
      go_wp2_with (first | (at_lookup; refine wpList_look_set rfl _ _ 160 rfl 3 4 t160 t3 (v4 _) bA S rfl hS _ rfl true hc ?_) | fail)
      exact HR.out _ _ _ _ _ _ _ _ _ _ _ _ _ _ _ _ _ _ _ _ _ _ _ _ _ _ _ _ _ _ _ _ _ _ _ _ _ _ _ _ _ w hT
    | false =>
      rw [hc, cond_false] at hgo
      by_cases hst : step = most
      · rw [decide_eq_true hst, cond_true] at hgo
        cases hgo
        subst hst
        go_wp2_with (first | (at_lookup; refine wpList_look_set rfl _ _ 160 rfl 3 4 t160 t3 (v4 _) bA S rfl hS _ rfl false hc ?_) | fail)
        exact HR.out _ _ _ _ _ _ _ _ _ _ _ _ _ _ _ _ _ _ _ _ _ _ _ _ _ _ _ _ _ _ _ _ _ _ _ _ _ _ _ _ _ w hT
      · rw [decide_eq_false hst, cond_false] at hgo
        have hne : (step == most) = false := by simpa using hst
        cases ha : qstep (fun q => mayF n s q (step + 1)) (fun p => impl_Sea_next n s p) S [] with
        | none => rw [ha] at hgo; cases hgo
        | some a =>
          rw [ha, Option.bind_some] at hgo
          obtain ⟨hq, hmem⟩ := qstep_some ha
          have HG := Lib.hid hgo
          have HQ := Lib.hid hq
          have HM := Lib.hid hmem
          clear hgo ha hq hmem
          have hTa := Tn.alloc w (.map #[] 0)
          have hSa := hS.keep (hTa.old bA hS.lt fun x => x)
          have hlt := hS.lt
          go_wp2_with (first | (at_lookup; refine wpList_look_set rfl _ _ 160 rfl 3 4 t160 t3 (v4 _) bA S rfl hS _ rfl false hc ?_) | (at_range; refine wpList_range_set rfl _ 160 rfl 3 4 t160 bA S rfl hSa ?_; intro w2 cnt hR2 hT2 hsz2) | fail)
          have hsz1 : (w.alloc (.map #[] 0)).heap.size = w.heap.size + 1 := by show (w.heap.push _).size = _; simp
          have hS2 : SetAt w2 w.heap.size [] := (setAt_new w).keep (hT2.old _ (by rw [hsz1]; omega) fun x => x)
          rw [hsz1] at hR2 hsz2
          have hT02 := (hT.then hTa fun i _ h => h).then hT2 (fun i _ h => h)
          have hWs := hT.size
          refine loop2 (HX.out.keep hT02 fun i h => h.elim) hs0 (by omega) (by omega) (by omega) (by omega) (by omega) (by omega) HQ.out _ _ _ _ _ _ _ _ _ _ _ _ _ _ _ _ _ _ _ _ _ _ _ _ _ _ _ _ _ _ _ _ _ _ _ _ _ _ _ _ _ _ _ _ _ _ _ _ _ _ ?_ _ _ _ _ _ _ _ _ _ _ _ _ _ _ _ _ _ _ _ _ _ _ _ _ _ hR2 hS2
          intro x14 x16 x56 x57 x58 x59 x60 x61 x62 x63 x64 x65 x66 x67 x68 x69 x70 x71 x72 x73 x74 x75 x76 x77 x78 w3 todo ST h0 hT3 hS3 hm3
          have hS4 := hS3.congr (S' := a) (fun z => by
            rw [HM.out z, hm3 z]
            constructor
            · rintro ⟨h1, p, h2, _, h3⟩
              exact .inr ⟨h1, p, h2, h3⟩
            · rintro (h | ⟨h1, p, h2, h3⟩)
              · cases h
              · exact ⟨h1, p, h2, h0 p, h3⟩)
          have hT03 := hT02.then hT3 (fun i hi h => by rcases h with rfl | rfl <;> omega)
          go_wp2_with fail
          refine ⟨?_, by simp [mu12, intOf]; omega⟩
          unfold Inv0
          exact ⟨_, _, _, _, _, _, _, _, _, _, _, _, _, _, _, _, _, _, _, _, _, _, _, _, _, _, _, _, _, _, _, _, _, _, _, _, _, _, _, step + 1, a, w.heap.size, f, hT03, hS4, hWs, by omega, by omega, HG.out, rfl⟩

theorem loop0 {n : Nat} {s : SSea} {K : Nat → Prop} {cv sv : Value} {bs : Nat} {W : World} (hE : QE n s W K cv sv bs W.heap.size) {to most : Int} (hmo : most ≤ 200) {r : Int × Bool} {Q : Exit → Act → World → Prop} (u0 u1 u5 u6 u7 u8 u9 u15 u17 u18 u19 u20 u21 u22 u23 u24 u25 u26 u27 u28 u29 u30 u31 u32 u33 u34 u35 u36 u37 u38 u39 u40 u41 u42 u43 : Value)
    (hret : ∀ (u11 u12 u13 u14 u16 u44 u45 u46 u47 u48 u49 u50 u51 u52 u53 u54 u55 u56 u57 u58 u59 u60 u61 u62 u63 u64 u65 u66 u67 u68 u69 u70 u71 u72 u73 u74 u75 u76 u77 u78 u79 : Value) (w : World), Tn W w NX → Q .ret ⟨#[u0, u1, .int .i64 to, .int .i64 most, pB bs, u5, u6, u7, .int .i64 r.1, .bool r.2, fnV bs, u11, u12, u13, u14, u15, u16, u17, u18, u19, u20, u21, u22, u23, u24, u25, u26, u27, u28, u29, u30, u31, u32, u33, u34, u35, u36, u37, u38, u39, u40, u41, u42, u43, u44, u45, u46, u47, u48, u49, u50, u51, u52, u53, u54, u55, u56, u57, u58, u59, u60, u61, u62, u63, u64, u65, u66, u67, u68, u69, u70, u71, u72, u73, u74, u75, u76, u77, u78, u79], []⟩ w) (u13 u14 u16 u44 u45 u46 u47 u48 u49 u50 u51 u52 u53 u54 u55 u56 u57 u58 u59 u60 u61 u62 u63 u64 u65 u66 u67 u68 u69 u70 u71 u72 u73 u74 u75 u76 u77 u78 u79 : Value) {step : Int} {S : List Int} {bA f : Nat} {w : World} (hT : Tn W w NX) (hS : SetAt w bA S) (hbA : W.heap.size ≤ bA) (hs0 : 0 ≤ step) (hs1 : step ≤ most) (hgo : qgo (mayF n s) (fun p => impl_Sea_next n s p) to most f step S = some r) :
    Code.wp Try.prog (Code.loop (qbody 0)) Q ⟨#[u0, u1, .int .i64 to, .int .i64 most, pB bs, u5, u6, u7, u8, u9, fnV bs, .map (some bA), .int .i64 step, u13, u14, u15, u16, u17, u18, u19, u20, u21, u22, u23, u24, u25, u26, u27, u28, u29, u30, u31, u32, u33, u34, u35, u36, u37, u38, u39, u40, u41, u42, u43, u44, u45, u46, u47, u48, u49, u50, u51, u52, u53, u54, u55, u56, u57, u58, u59, u60, u61, u62, u63, u64, u65, u66, u67, u68, u69, u70, u71, u72, u73, u74, u75, u76, u77, u78, u79], []⟩ w := by
  refine wp_loop (Inv0 n s W to most r bs u0 u1 u5 u6 u7 u8 u9 u15 u17 u18 u19 u20 u21 u22 u23 u24 u25 u26 u27 u28 u29 u30 u31 u32 u33 u34 u35 u36 u37 u38 u39 u40 u41 u42 u43) (mu12 most) ⟨u13, u14, u16, u44, u45, u46, u47, u48, u49, u50, u51, u52, u53, u54, u55, u56, u57, u58, u59, u60, u61, u62, u63, u64, u65, u66, u67, u68, u69, u70, u71, u72, u73, u74, u75, u76, u77, u78, u79, step, S, bA, f, hT, hS, hbA, hs0, hs1, hgo, rfl⟩ (fun a w' hI => ?_)
  obtain ⟨u13, u14, u16, u44, u45, u46, u47, u48, u49, u50, u51, u52, u53, u54, u55, u56, u57, u58, u59, u60, u61, u62, u63, u64, u65, u66, u67, u68, u69, u70, u71, u72, u73, u74, u75, u76, u77, u78, u79, step', S', bA', f', hT', hS', hbA', hs0', hs1', hgo', rfl⟩ := hI
  exact round0 hE hmo u0 u1 u5 u6 u7 u8 u9 u15 u17 u18 u19 u20 u21 u22 u23 u24 u25 u26 u27 u28 u29 u30 u31 u32 u33 u34 u35 u36 u37 u38 u39 u40 u41 u42 u43 hret u13 u14 u16 u44 u45 u46 u47 u48 u49 u50 u51 u52 u53 u54 u55 u56 u57 u58 u59 u60 u61 u62 u63 u64 u65 u66 u67 u68 u69 u70 u71 u72 u73 u74 u75 u76 u77 u78 u79 hT' hS' hbA' hs0' hs1' hgo' 
end Go.Sm.E11
end

section
set_option linter.unusedVariables false
namespace Go.Sm.E11
open Go Go.Proofs Go.Shelf Go.RowKit Go.Sm
theorem box_cell {w : World} {b i : Nat} {cs : Array Value} {t : Nat} {fz : Nat × Nat} {v : Value} (h : w.heap[b]? = some (.cells cs t fz)) (hv : cs[i]? = some v) : w.cell? ⟨b, i, none⟩ = some v := by
  simp only [World.cell?, h]
  exact hv
theorem in_true {n : Nat} {x a b : Int} (h : impl_in n x a b = some true) : a ≤ x ∧ x ≤ b := by
  unfold impl_in at h
  by_cases h0 : x ≥ a
  · rw [decide_eq_true h0, cond_true] at h
    by_cases h1 : x ≤ b
    · exact ⟨h0, h1⟩
    · rw [decide_eq_false h1] at h; cases h
  · rw [decide_eq_false h0] at h; cases h
set_option maxHeartbeats 4000000 in
set_option maxRecDepth 100000 in
theorem quick_walk {n : Nat} {s : SSea} {W : World} {K : Nat → Prop} {cv sv : Value} (hsea : SeaR W K s cv sv)
    (hok : ∀ b, impl_SeaOk n s = some b → CallOk Try.prog T 65 [vA T 104 s] ⟨[vR T 4 b], []⟩) (hpl : ∀ p b, impl_Sea_place n s p = some b → CallOk Try.prog T 157 [vA T 104 s, iA p] ⟨[vR T 4 b], []⟩)
    (hin : ∀ x b, impl_in n x 0 200 = some b → CallOk Try.prog T 87 [iA x, iA 0, iA 200] ⟨[vR T 4 b], []⟩)
    (hshut : ∀ q st b, impl_Sea_shut n s q st = some b → CallOk Try.prog T 161 [vA T 104 s, iA q, iA st] ⟨[vR T 4 b], []⟩) (hnext : ∀ p l, impl_Sea_next n s p = some l → CallOk Try.prog T 158 [vA T 104 s, iA p] ⟨[vR T 24 l], []⟩)
    {fr to most : Int} {r : Int × Bool} (h : impl_Quickest n s fr to most = some r) :
    Calls Try.prog 69 #[seaV s cv sv, .int .i64 fr, .int .i64 to, .int .i64 most] W fun e w' => e = .returned (.tuple #[.int .i64 r.1, .bool r.2]) ∧ Tn W w' NX := by
  have hn : Try.f69.ntmps = 80 := by rfl
  have e65 : ∀ args w, (callFunc 65 args).run Try.prog w = .ok (.enter 65 args) w := enters_of Try.func65 (by kernel_rfl) rfl
  have e157 : ∀ args w, (callFunc 157 args).run Try.prog w = .ok (.enter 157 args) w := enters_of Try.func157 (by kernel_rfl) rfl
  have e87 : ∀ args w, (callFunc 87 args).run Try.prog w = .ok (.enter 87 args) w := enters_of Try.func87 (by kernel_rfl) rfl
  have e160 : ∀ args w, (callFunc 160 args).run Try.prog w = .ok (.enter 160 args) w := enters_of Try.func160 (by kernel_rfl) rfl
  have t104 := Try.underlying104; have a104 := Try.isAgg104; have z104 := Try.sizeOf104; have v104 := Try.zeroValue104; have u104 := run_underlying t104
  have t3 := Try.underlying3; have a3 := Try.isAgg3; have z3 := Try.sizeOf3; have v3 := Try.zeroValue3; have u3 := run_underlying t3
  have t24 := Try.underlying24; have a24 := Try.isAgg24; have z24 := Try.sizeOf24; have v24 := Try.zeroValue24; have u24 := run_underlying t24
  have t102 := Try.underlying102; have a102 := Try.isAgg102; have z102 := Try.sizeOf102; have v102 := Try.zeroValue102; have u102 := run_underlying t102
  have t4 := Try.underlying4; have a4 := Try.isAgg4; have z4 := Try.sizeOf4; have v4 := Try.zeroValue4; have u4 := run_underlying t4
  have t160 := Try.underlying160
  have hmm := @run_makeMap Try.prog
  -- the box
  have hT1 := Tn.alloc W (.cells #[.int .i64 s.Wide, .int .i64 s.High, cv, sv] 104)
  have hs1 : (W.alloc (.cells #[.int .i64 s.Wide, .int .i64 s.High, cv, sv] 104)).heap.size = W.heap.size + 1 := by show (W.heap.push _).size = _; simp
  have hb1 : (W.alloc (.cells #[.int .i64 s.Wide, .int .i64 s.High, cv, sv] 104)).heap[W.heap.size]? = some (.cells #[.int .i64 s.Wide, .int .i64 s.High, cv, sv] 104 (0, 0)) := heap_alloc_new W _
  have hE1 : QE n s (W.alloc (.cells #[.int .i64 s.Wide, .int .i64 s.High, cv, sv] 104)) K cv sv W.heap.size (W.alloc (.cells #[.int .i64 s.Wide, .int .i64 s.High, cv, sv] 104)).heap.size :=
    ⟨hsea.keep hT1 fun _ _ x => x, fun b hb => by have := hsea.1 b hb; omega, by omega, ⟨_, hb1⟩, hshut, hnext⟩
  clear hshut hnext hsea
  have HX := Lib.hid hE1
  clear hE1
  unfold impl_Quickest at h
  cases h0 : impl_SeaOk n s with
  | none => rw [h0] at h; cases h
  | some b0 =>
  rw [h0, Option.bind_some] at h
  have C0 := Lib.hid (hok _ h0)
  clear hok h0
  have HH := Lib.hid h
  clear h
  have HP := Lib.hid hpl
  have HI := Lib.hid hin
  clear hpl hin
  go_enter Try.func69, hn
  go_wp2_with fail
  refine (bool_call (ars := [vA T 104 s]) (vs := [seaV s cv sv]) C0.out (by kernel_rfl) HX.out.sea.1 (.ro (ro_sea HX.out.sea) .nil) (self_none fun a ha => by
    rw [List.mem_singleton.1 ha]; exact ⟨_, _, rfl⟩)).mono ?_
  rintro _ w1 ⟨rfl, hT2⟩
  have hE2 := HX.out.keep hT2 fun _ h => h.elim
  have hb2 := (hT2.old _ (Array.getElem?_eq_some_iff.1 hb1).1 fun x => x).trans hb1
  have HX2 := Lib.hid hE2
  clear hE2
  have c0 : w1.cell? ⟨W.heap.size, 0, none⟩ = some (.int .i64 s.Wide) := box_cell hb2 rfl
  have c1 : w1.cell? ⟨W.heap.size, 1, none⟩ = some (.int .i64 s.High) := box_cell hb2 rfl
  have c2 : w1.cell? ⟨W.heap.size, 2, none⟩ = some (cv) := box_cell hb2 rfl
  have c3 : w1.cell? ⟨W.heap.size, 3, none⟩ = some (sv) := box_cell hb2 rfl
  cases b0 with
  | false =>
    have h := HH.out
    rw [Bool.not_false, cond_true] at h
    cases h
    go_wp2_with fail
    go_ret2
    exact ⟨rfl, (hT1.then hT2 fun _ _ h => h)⟩
  | true =>
    have h := HH.out
    rw [Bool.not_true, cond_false] at h
    cases h1 : impl_Sea_place n s fr with
    | none => rw [h1] at h; cases h
    | some b1 =>
    rw [h1, Option.bind_some] at h
    have C1 := Lib.hid (HP.out _ _ h1)
    have HH1 := Lib.hid h
    have HF1 := Lib.hid h1
    clear h h1
    go_wp2_with fail
    refine (bool_call (ars := [vA T 104 s, iA fr]) (vs := [seaV s cv sv, .int .i64 fr]) C1.out (by kernel_rfl) HX2.out.sea.1 (.ro (ro_sea HX2.out.sea) (.ro (ro_int fr) .nil)) (self_none fun a ha => by
      simp only [List.mem_cons, List.not_mem_nil, or_false] at ha
      rcases ha with rfl | rfl <;> exact ⟨_, _, rfl⟩)).mono ?_
    rintro _ w2 ⟨rfl, hT3⟩
    have hE3 := HX2.out.keep hT3 fun _ h => h.elim
    have hb3 := (hT3.old _ (Array.getElem?_eq_some_iff.1 hb2).1 fun x => x).trans hb2
    have HX3 := Lib.hid hE3
    clear hE3 c0 c1 c2 c3
    have c0 : w2.cell? ⟨W.heap.size, 0, none⟩ = some (.int .i64 s.Wide) := box_cell hb3 rfl
    have c1 : w2.cell? ⟨W.heap.size, 1, none⟩ = some (.int .i64 s.High) := box_cell hb3 rfl
    have c2 : w2.cell? ⟨W.heap.size, 2, none⟩ = some (cv) := box_cell hb3 rfl
    have c3 : w2.cell? ⟨W.heap.size, 3, none⟩ = some (sv) := box_cell hb3 rfl
    cases b1 with
    | false =>
      have h := HH1.out
      rw [Bool.not_false, cond_true] at h
      cases h
      go_wp2_with fail
      go_ret2
      exact ⟨rfl, ((hT1.then hT2 fun _ _ h => h).then hT3 fun _ _ h => h)⟩
    | true =>
      have h := HH1.out
      rw [Bool.not_true, cond_false] at h
      cases h1 : impl_Sea_place n s to with
      | none => rw [h1] at h; cases h
      | some b2 =>
      rw [h1, Option.bind_some] at h
      have C2 := Lib.hid (HP.out _ _ h1)
      have HH2 := Lib.hid h
      have HF2 := Lib.hid h1
      clear h h1
      go_wp2_with fail
      refine (bool_call (ars := [vA T 104 s, iA to]) (vs := [seaV s cv sv, .int .i64 to]) C2.out (by kernel_rfl) HX3.out.sea.1 (.ro (ro_sea HX3.out.sea) (.ro (ro_int to) .nil)) (self_none fun a ha => by
        simp only [List.mem_cons, List.not_mem_nil, or_false] at ha
        rcases ha with rfl | rfl <;> exact ⟨_, _, rfl⟩)).mono ?_
      rintro _ w3 ⟨rfl, hT4⟩
      have hE4 := HX3.out.keep hT4 fun _ h => h.elim
      have hb4 := (hT4.old _ (Array.getElem?_eq_some_iff.1 hb3).1 fun x => x).trans hb3
      have HX4 := Lib.hid hE4
      clear hE4 c0 c1 c2 c3
      have c0 : w3.cell? ⟨W.heap.size, 0, none⟩ = some (.int .i64 s.Wide) := box_cell hb4 rfl
      have c1 : w3.cell? ⟨W.heap.size, 1, none⟩ = some (.int .i64 s.High) := box_cell hb4 rfl
      have c2 : w3.cell? ⟨W.heap.size, 2, none⟩ = some (cv) := box_cell hb4 rfl
      have c3 : w3.cell? ⟨W.heap.size, 3, none⟩ = some (sv) := box_cell hb4 rfl
      cases b2 with
      | false =>
        have h := HH2.out
        rw [Bool.not_false, cond_true] at h
        cases h
        go_wp2_with fail
        go_ret2
        exact ⟨rfl, (((hT1.then hT2 fun _ _ h => h).then hT3 fun _ _ h => h).then hT4 fun _ _ h => h)⟩
      | true =>
        have h := HH2.out
        rw [Bool.not_true, cond_false] at h
        cases h1 : impl_in n most 0 200 with
        | none => rw [h1] at h; cases h
        | some b3 =>
        rw [h1, Option.bind_some] at h
        have C3 := Lib.hid (HI.out _ _ h1)
        have HH3 := Lib.hid h
        have HF3 := Lib.hid h1
        clear h h1
        go_wp2_with fail
        refine (bool_call (ars := [iA most, iA 0, iA 200]) (vs := [.int .i64 most, .int .i64 0, .int .i64 200]) C3.out (by kernel_rfl) HX4.out.sea.1 (.ro (ro_int most) (.ro (ro_int 0) (.ro (ro_int 200) .nil))) (self_none fun a ha => by
          simp only [List.mem_cons, List.not_mem_nil, or_false] at ha
          rcases ha with rfl | rfl | rfl <;> exact ⟨_, _, rfl⟩)).mono ?_
        rintro _ w4 ⟨rfl, hT5⟩
        have hE5 := HX4.out.keep hT5 fun _ h => h.elim
        have hb5 := (hT5.old _ (Array.getElem?_eq_some_iff.1 hb4).1 fun x => x).trans hb4
        have HX5 := Lib.hid hE5
        clear hE5 c0 c1 c2 c3
        have c0 : w4.cell? ⟨W.heap.size, 0, none⟩ = some (.int .i64 s.Wide) := box_cell hb5 rfl
        have c1 : w4.cell? ⟨W.heap.size, 1, none⟩ = some (.int .i64 s.High) := box_cell hb5 rfl
        have c2 : w4.cell? ⟨W.heap.size, 2, none⟩ = some (cv) := box_cell hb5 rfl
        have c3 : w4.cell? ⟨W.heap.size, 3, none⟩ = some (sv) := box_cell hb5 rfl
        cases b3 with
        | false =>
          have h := HH3.out
          rw [Bool.not_false, cond_true] at h
          cases h
          go_wp2_with fail
          go_ret2
          exact ⟨rfl, ((((hT1.then hT2 fun _ _ h => h).then hT3 fun _ _ h => h).then hT4 fun _ _ h => h).then hT5 fun _ _ h => h)⟩
        | true =>
          have hm := in_true HF3.out
          have h := HH3.out
          rw [Bool.not_true, cond_false] at h
          replace h : ((mayF n s fr 0).bind fun b => qgo (mayF n s) (fun p => impl_Sea_next n s p) to most 202 0 (bif b then [fr] else [])) = some r := h
          cases h1 : mayF n s fr 0 with
          | none => rw [h1] at h; cases h
          | some b4 =>
          rw [h1, Option.bind_some] at h
          have hTa := Tn.alloc w4 (.map #[] 0)
          have hTW : Tn (W.alloc (.cells #[.int .i64 s.Wide, .int .i64 s.High, cv, sv] 104)) (w4.alloc (.map #[] 0)) NX := ((((hT2.then hT3 fun _ _ h => h).then hT4 fun _ _ h => h).then hT5 fun _ _ h => h).then hTa fun _ _ h => h)
          have hEa := HX5.out.keep hTa fun _ h => h.elim
          have C4 := Lib.hid (hEa.may h1)
          have HH4 := Lib.hid h
          have hsz := hTW.size
          have hsa : (w4.alloc (.map #[] 0)).heap.size = w4.heap.size + 1 := by show (w4.heap.push _).size = _; simp
          have hsw : (W.alloc (.cells #[.int .i64 s.Wide, .int .i64 s.High, cv, sv] 104)).heap.size ≤ w4.heap.size := (((hT2.then hT3 fun _ _ h => h).then hT4 fun _ _ h => h).then hT5 fun _ _ h => h).size
          clear h h1 hEa c0 c1 c2 c3
          go_wp2_with fail
          refine C4.out.mono ?_
          rintro _ w5 ⟨rfl, hT6⟩
          have hS5 : SetAt w5 w4.heap.size [] := (setAt_new w4).keep (hT6.old _ (by rw [hsa]; omega) fun x => x)
          have hT0 := hTW.then hT6 fun _ _ h => h
          cases b4 with
          | true =>
            go_wp2_with (first | (at_mapUpdate; refine wpList_put_set rfl _ _ _ 160 rfl 3 4 t160 t3 w4.heap.size _ rfl hS5 _ rfl rfl ?_; intro w6 hS6 hT7 hsz7) | fail)
            have hT8 := hT0.then hT7 (Y := fun i => i = w4.heap.size) (fun i hi h => by omega)
            refine loop0 HX.out hm.2 _ _ _ _ _ _ _ _ _ _ _ _ _ _ _ _ _ _ _ _ _ _ _ _ _ _ _ _ _ _ _ _ _ _ _ ?_ _ _ _ _ _ _ _ _ _ _ _ _ _ _ _ _ _ _ _ _ _ _ _ _ _ _ _ _ _ _ _ _ _ _ _ _ _ _ _ hT8 hS6 hsw (by omega) hm.1 HH4.out
            intro x11 x12 x13 x14 x16 x44 x45 x46 x47 x48 x49 x50 x51 x52 x53 x54 x55 x56 x57 x58 x59 x60 x61 x62 x63 x64 x65 x66 x67 x68 x69 x70 x71 x72 x73 x74 x75 x76 x77 x78 x79 w7 hT9
            go_ret2
            exact ⟨rfl, hT1.then hT9 fun _ _ h => h⟩
          | false =>
            go_wp2_with fail
            refine loop0 HX.out hm.2 _ _ _ _ _ _ _ _ _ _ _ _ _ _ _ _ _ _ _ _ _ _ _ _ _ _ _ _ _ _ _ _ _ _ _ ?_ _ _ _ _ _ _ _ _ _ _ _ _ _ _ _ _ _ _ _ _ _ _ _ _ _ _ _ _ _ _ _ _ _ _ _ _ _ _ _ hT0 hS5 hsw (by omega) hm.1 HH4.out
            intro x11 x12 x13 x14 x16 x44 x45 x46 x47 x48 x49 x50 x51 x52 x53 x54 x55 x56 x57 x58 x59 x60 x61 x62 x63 x64 x65 x66 x67 x68 x69 x70 x71 x72 x73 x74 x75 x76 x77 x78 x79 w7 hT9
            go_ret2
            exact ⟨rfl, hT1.then hT9 fun _ _ h => h⟩
end Go.Sm.E11
end

section
set_option linter.unusedVariables false
namespace Go.Sm.E11
open Go Go.Proofs Go.Shelf Go.RowKit Go.Sm
theorem sem_call {Φ : {R : Type} → Nat → List (A T) → (Res T → Option R) → Option R} {Ok : Nat → List (A T) → Res T → Prop} (hs : SemOk Φ Ok) {f : Nat} {ars : List (A T)} {res : Res T} (h : Φ f ars (fun r => some r) = some res) : Ok f ars res := by
  obtain ⟨r, h1, h2⟩ := hs f ars _ _ h
  cases h2
  exact h1
theorem repInt {w : World} {K : Nat → Prop} {x : Int} {v : Value} (h : RepD T w K (.int .i64 x) v) : v = .int .i64 x := by cases h; rfl
theorem ro_int_inv {w : World} {K : Nat → Prop} {x : Int} {v : Value} (h : ArgRo T w K (iA x) v) : v = .int .i64 x := by
  have h : RepDs T w K [.int .i64 x] [v] := h
  exact repInt (h.2 0 _ _ rfl rfl)
theorem ro_sea_inv {w : World} {K : Nat → Prop} {s : SSea} {v : Value} (h : ArgRo T w K (vA T 104 s) v) : ∃ cv sv, v = seaV s cv sv ∧ RepDs T w K (T.dget 104 s) [.int .i64 s.Wide, .int .i64 s.High, cv, sv] := by
  have h : ∃ vs : List Value, v = .agg vs.toArray ∧ RepDs T w K [.int .i64 s.Wide, .int .i64 s.High, .arr 3 s.Costs, .arr 179 s.Shut] vs := h
  obtain ⟨vs, rfl, h1, h2⟩ := h
  match vs, h1 with
  | [v0, v1, v2, v3], _ =>
    have e0 := repInt (h2 0 _ _ rfl rfl)
    have e1 := repInt (h2 1 _ _ rfl rfl)
    subst e0
    subst e1
    exact ⟨v2, v3, rfl, rfl, h2⟩
theorem quick_call {n : Nat} {s : SSea}
    (hok : ∀ b, impl_SeaOk n s = some b → CallOk Try.prog T 65 [vA T 104 s] ⟨[vR T 4 b], []⟩) (hpl : ∀ p b, impl_Sea_place n s p = some b → CallOk Try.prog T 157 [vA T 104 s, iA p] ⟨[vR T 4 b], []⟩)
    (hin : ∀ x b, impl_in n x 0 200 = some b → CallOk Try.prog T 87 [iA x, iA 0, iA 200] ⟨[vR T 4 b], []⟩)
    (hshut : ∀ q st b, impl_Sea_shut n s q st = some b → CallOk Try.prog T 161 [vA T 104 s, iA q, iA st] ⟨[vR T 4 b], []⟩) (hnext : ∀ p l, impl_Sea_next n s p = some l → CallOk Try.prog T 158 [vA T 104 s, iA p] ⟨[vR T 24 l], []⟩)
    {fr to most : Int} {r : Int × Bool} (h : impl_Quickest n s fr to most = some r) : CallOk Try.prog T 69 [vA T 104 s, iA fr, iA to, iA most] ⟨[vR T 3 r.1, vR T 4 r.2], []⟩ := by
  refine ⟨fun args w => enters_of Try.func69 (by kernel_rfl) rfl args w, fun w K M vs ha _ hMK hlt => ?_⟩
  have hm : (T.sg 69).modes = [.ro, .ro, .ro, .ro] := by kernel_rfl
  have hrk : (T.sg 69).rk = .own := by kernel_rfl
  rw [hm] at ha
  cases ha with
  | rw hx _ _ => exact hx.elim
  | ro ha0 ha =>
  cases ha with
  | rw hx _ _ => exact hx.elim
  | ro ha1 ha =>
  cases ha with
  | rw hx _ _ => exact hx.elim
  | ro ha2 ha =>
  cases ha with
  | rw hx _ _ => exact hx.elim
  | ro ha3 ha =>
  cases ha
  have e1 := ro_int_inv ha1
  have e2 := ro_int_inv ha2
  have e3 := ro_int_inv ha3
  subst e1; subst e2; subst e3
  obtain ⟨cv, sv, rfl, hrep⟩ := ro_sea_inv ha0
  have hK : ∀ b, K b → b < w.heap.size := fun b hb => hlt b (.inr hb)
  refine (quick_walk ⟨hK, hrep⟩ hok hpl hin hshut hnext h).mono ?_
  rintro e' w' ⟨rfl, q⟩
  refine ⟨_, rfl, ⟨⟨K, fun b => (fun _ => False) b ∨ ((fun _ => False) b ∨ (fun _ => False) b), fun _ => False, [.int .i64 r.1, .bool r.2], rfl, ?_, ?_, (fun _ h => by simp at h), (fun b hb => by simp at hb), fun _ h => h, fun b hb => ⟨Nat.lt_of_lt_of_le (hK b hb) q.size, .inl hb⟩⟩, q.size, q.os, q.tape, q.oth, fun b hb _ => q.old b hb fun x => x⟩⟩
  · rw [hrk]
    refine .cons ?_ (.cons ?_ .nil fun _ h => h.elim) (fun _ h => h.elim)
    · refine ⟨rfl, fun _ _ => False, fun j d v hj hv => ?_, fun _ _ h => h.elim, fun _ _ _ h => h.elim⟩
      cases j with
      | succ j => cases hj
      | zero => cases hj; cases hv; exact .int _ _ _
    · refine ⟨rfl, fun _ _ => False, fun j d v hj hv => ?_, fun _ _ h => h.elim, fun _ _ _ h => h.elim⟩
      cases j with
      | succ j => cases hj
      | zero => cases hj; cases hv; exact .bool _ _
  · rw [hm]; exact .ro (.ro (.ro (.ro .nil)))
end Go.Sm.E11
end
