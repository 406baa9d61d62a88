import Derived.Shelf.Strings.Builder1
import Derived.Test.YtakllmgiobpmgaaProg
import Derived.Test.YtakllmgiobpmgaaEngB
import Derived.Test.YtakllmgiobpmgaaE10Seg
import Derived.Lib.Hide
/- The walk of the function that writes segments through a builder. -/
set_option linter.unusedSimpArgs false
set_option linter.deprecated false
set_option linter.unusedSectionVars false
section
set_option linter.unusedVariables false
namespace Go.Proofs
open Go.Shelf Go.RowKit
set_option maxHeartbeats 1000000 in
set_option maxRecDepth 100000 in
theorem Bw.check_used (b : Nat) (w : World) (h0 : w.cell? ⟨b, 0, none⟩ = some (.pointer (some ⟨b, 0, none⟩))) :
    Calls Try.prog 232 #[.pointer (some ⟨b, 0, none⟩)] w fun e w' => e = .returned (.tuple #[]) ∧ w' = w := by
  have hX : (Try.prog.info? 209).map (·.size) = some 2 := by kernel_rfl
  obtain ⟨j, hj, _⟩ := Option.map_eq_some_iff.1 hX
  have mixed : Try.prog.follows .mixedOrders = true := by kernel_rfl
  have t72 := Try.underlying209; have a72 := Try.isAgg209; have z72 := Try.sizeOf209; have v72 := Try.zeroValue209; have u72 := run_underlying t72
  have t70 := Try.underlying207; have a70 := Try.isAgg207; have z70 := Try.sizeOf207; have v70 := Try.zeroValue207; have u70 := run_underlying t70
  have t4 := Try.underlying4; have a4 := Try.isAgg4; have z4 := Try.sizeOf4; have v4 := Try.zeroValue4; have u4 := run_underlying t4
  have hn : Try.f232.ntmps = 20 := by rfl
  go_enter Try.func232, hn
  go_wp2
  rw [Lib.run_neq_ptr_same w _ t70 hj]
  go_wp2
  go_end0
  exact ⟨rfl, rfl⟩
set_option maxHeartbeats 1000000 in
set_option maxRecDepth 100000 in
theorem Bw.check_fresh (b : Nat) (w : World) (h0 : w.cell? ⟨b, 0, none⟩ = some (.pointer none)) (hsh : w.shape? b = some (209, 2)) (hfz : w.frozen? ⟨b, 0, none⟩ = false) :
    Calls Try.prog 232 #[.pointer (some ⟨b, 0, none⟩)] w fun e w' => e = .returned (.tuple #[]) ∧ w' = w.setCell ⟨b, 0, none⟩ (.pointer (some ⟨b, 0, none⟩)) := by
  have hX : (Try.prog.info? 209).map (·.size) = some 2 := by kernel_rfl
  obtain ⟨j, hj, hjs⟩ := Option.map_eq_some_iff.1 hX
  have mixed : Try.prog.follows .mixedOrders = true := by kernel_rfl
  have t72 := Try.underlying209; have a72 := Try.isAgg209; have z72 := Try.sizeOf209; have v72 := Try.zeroValue209; have u72 := run_underlying t72
  have t70 := Try.underlying207; have a70 := Try.isAgg207; have z70 := Try.sizeOf207; have v70 := Try.zeroValue207; have u70 := run_underlying t70
  have t4 := Try.underlying4; have a4 := Try.isAgg4; have z4 := Try.sizeOf4; have v4 := Try.zeroValue4; have u4 := run_underlying t4
  have t164 := Try.underlying251; have a164 := Try.isAgg251; have z164 := Try.sizeOf251; have v164 := Try.zeroValue251; have u164 := run_underlying t164
  have hn : Try.f232.ntmps = 20 := by rfl
  go_enter Try.func232, hn
  go_wp2
  rw [Lib.run_to_unsafe w ⟨b, 0, none⟩ t70 t164 hj (by rw [hjs]; decide) hsh (Nat.zero_lt_succ 1)]
  simp only [Result.andThen]
  rw [Oper.upon_value]
  go_wp2
  rw [run_callFunc_extern Try.func246 (by kernel_rfl) (by kernel_rfl) (by kernel_rfl) (e := Extern.AbiNoEscape.same) (by kernel_rfl)]
  rw [Lib.run_noEscape]
  simp only [Result.andThen]
  rw [Oper.upon_value]
  go_wp2
  rw [Lib.run_from_unsafe w ⟨b, 0, none⟩ t164 t70 hj hsh (by kernel_rfl)]
  simp only [Result.andThen]
  rw [Oper.upon_value]
  go_wp2
  go_end0
  exact ⟨rfl, rfl⟩
end Go.Proofs
end

section
set_option linter.unusedVariables false
namespace Go.Sm
open Go Go.Proofs Go.Shelf Go.RowKit
/-- An append of which the run is known. -/
theorem wpList_append_any {P : Program} {w : World} {ops : Array Oper} {rest : List Oper} {o : Oper} {a : Act} {Q : Exit → Act → World → Prop} (hgd : o.guard = none) (s x : Operand) (t t2 : TypeId)
    (ho : o.op = .call { callee := .builtin .append, args := #[s, x], argTypes := #[t, t2] }) (v xv : Value) (hs : a.eval s = v) (hx : a.eval x = xv) (F : Value → World → Prop)
    (hr : ∃ v' w', (Builtin.append_ #[t, t2] o.type #[v, xv]).run P w = .ok v' w' ∧ F v' w') (h : ∀ v' w', F v' w' → wpList P ops Q rest (a.put o.dst v') w') : wpList P ops Q (o :: rest) a w := by
  refine wpList_plain hgd fun K hK => ?_
  obtain ⟨v', w', hr, h2⟩ := hr
  unfold Oper.wp execOp
  simp only [ho, resolve, invoke, builtin, Sem.run_bind, Sem.run_pure, Result.andThen_ok, List.map_toArray, List.map_cons, List.map_nil, hs, hx, hr]
  exact hK _ _ (h v' w' h2)
/-- The builder's bytes: a row of its own, that is new. -/
structure BufAt (B b : Nat) (v : Value) (l : List Value) (w : World) : Prop where
  ex : ∃ A c, v = .slice A l.length c ∧ l.length ≤ c ∧ (A = none → c = 0) ∧ (0 < c → ∃ (g : Nat) (cs : Array Value), A = some ⟨g, 0, none⟩ ∧ B ≤ g ∧ g ≠ b ∧ w.heap[g]? = some (.cells cs 5 (0, 0)) ∧ c ≤ cs.size ∧ ∀ (k : Nat) (u : Value), l[k]? = some u → cs[k]? = some u)
  nil : l = [] → v = .slice none 0 0
/-- What has come to pass since W: nothing below it has changed; a builder with these bytes. -/
structure Base (W : World) (b : Nat) (w : World) : Prop where
  new : W.heap.size ≤ b
  os : w.os = W.os
  tape : w.tape = W.tape
  oth : Oth W w
  size : W.heap.size ≤ w.heap.size
  old : ∀ k, k < W.heap.size → w.heap[k]? = W.heap[k]?
structure BldAt (W : World) (b : Nat) (p : Value) (l : List Value) (w : World) : Prop extends Base W b w where
  ex : ∃ v, w.heap[b]? = some (.cells #[p, v] 209 (0, 0)) ∧ BufAt W.heap.size b v l w
def Bld (W : World) (b : Nat) (l : List Value) (w : World) : Prop := BldAt W b (.pointer none) l w ∨ BldAt W b (.pointer (some ⟨b, 0, none⟩)) l w
theorem BufAt.keep {B b : Nat} {v : Value} {l : List Value} {w w' : World} (h : BufAt B b v l w) (hw : ∀ k, B ≤ k → k ≠ b → k < w.heap.size → w'.heap[k]? = w.heap[k]?) : BufAt B b v l w' := by
  obtain ⟨A, c, h1, h2, h3, h4⟩ := h.ex
  refine ⟨⟨A, c, h1, h2, h3, fun hc => ?_⟩, h.nil⟩
  obtain ⟨g, cs, e1, e2, e3, e4, e5⟩ := h4 hc
  exact ⟨g, cs, e1, e2, e3, by rw [hw g e2 e3 (Array.getElem?_eq_some_iff.1 e4).1]; exact e4, e5⟩
theorem heap_setCell_same {w : World} {b i : Nat} {u : Value} {cs : Array Value} {t : Nat} {fz : Nat × Nat} (h : w.heap[b]? = some (.cells cs t fz)) : (w.setCell ⟨b, i, none⟩ u).heap[b]? = some (.cells (cs.setIfInBounds i u) t fz) := by
  simp [World.setCell, Array.getElem?_modify, h]
theorem heap_setCell_ne {w : World} {b i k : Nat} {u : Value} (h : k ≠ b) : (w.setCell ⟨b, i, none⟩ u).heap[k]? = w.heap[k]? := Below.heap_setCell w _ u k h
theorem Oth.setCell (w : World) (b i : Nat) (u : Value) : Oth w (w.setCell ⟨b, i, none⟩ u) := by
  refine ⟨rfl, Nat.le_refl _, fun k cs el fz hk => ?_⟩
  by_cases h : k = b
  · subst h; exact ⟨_, heap_setCell_same hk, by simp⟩
  · exact ⟨cs, (heap_setCell_ne h).trans hk, rfl⟩
theorem Oth.alloc (w : World) (o : Obj) : Oth w (w.alloc o) := by
  refine ⟨rfl, Nat.le_refl _, fun k cs el fz hk => ⟨cs, ?_, rfl⟩⟩
  rw [Below.heap_alloc w o k (Array.getElem?_eq_some_iff.1 hk).1]; exact hk
theorem size_setCell (w : World) (b i : Nat) (u : Value) : (w.setCell ⟨b, i, none⟩ u).heap.size = w.heap.size := by simp [World.setCell]
/-- Not a row of bytes. -/
def N5 (w : World) (k : Nat) : Prop := ∀ cs, w.heap[k]? ≠ some (.cells cs 5 (0, 0))
/-- Cells are laid behind the builder's bytes. -/
theorem app_buf {P : Program} {T : Tbl} (hT : TblOk P T) {t tx ty : Nat} (hty : P.underlying t = some (.slice 5)) (h5 : T.size 5 = 1) (hb5 : T.bytes 5 = 1) {B b : Nat} {v xv : Value} {l news : List Value} {w : World} (hB : B ≤ w.heap.size) (hb : b < w.heap.size)
    (h : BufAt B b v l w) {m : Nat} (hsrc : Go.Src P 1 tx xv m news w) (hroom : l.length + news.length ≤ 140737488355328) :
    ∃ v' w', (Builtin.append_ #[t, tx] ty #[v, xv]).run P w = .ok v' w' ∧ BufAt B b v' (l ++ news) w' ∧ w.heap.size ≤ w'.heap.size ∧ w'.os = w.os ∧ w'.tape = w.tape ∧ Oth w w' ∧ ∀ k, k < w.heap.size → (k < B ∨ k = b ∨ N5 w k) → w'.heap[k]? = w.heap[k]? := by
  by_cases hnil : l = [] ∧ news = []
  · obtain ⟨rfl, rfl⟩ := hnil
    have hv := h.nil rfl
    subst hv
    have hm0 : m = 0 := by have := hsrc.newsLen; simp at this; omega
    subst hm0
    obtain ⟨i, g1, g2, g3, z, g4, g5, g6⟩ := hT.info 5 (by omega)
    have hcl := hsrc.cells
    rw [← h5, ← g2] at hcl
    refine ⟨.slice none 0 0, w, ?_, h, Nat.le_refl _, rfl, rfl, Oth.refl _, fun _ _ _ => rfl⟩
    rcases hsrc.kind with ⟨e', hk⟩ | hk <;> simp [Builtin.append_, run_underlying hty, run_underlying hk, sizeOf, typeInfo, g1, hsrc.len, hcl]
  obtain ⟨A, c, rfl, h2, h3, h4⟩ := h.ex
  have hm : news.length = m := by have := hsrc.newsLen; omega
  obtain ⟨A', c', w', g1, g2, g3, g4, g5, g6, g7, g8⟩ := append_memE (P := P) (w := w) (T := T) (ty := ty) hT (el := 5) (by omega) (by omega) hty (A := A) (n := l.length) (c := c) h2 h3 (tx := tx) (xv := xv) (m := m) (olds := l) (news := news)
    (fun _ hc => by obtain ⟨g, cs, e1, e2, e3, e4, e5, e6⟩ := h4 hc; exact ⟨g, 0, cs, (5, false), e1, e4, by rw [h5]; omega⟩) (by rw [h5, Nat.mul_one])
    (fun hn => by
      obtain ⟨g, cs, e1, e2, e3, e4, e5, e6⟩ := h4 (by omega)
      exact ⟨g, 0, e1, fun j u hj => by simp only [World.cell?, e4]; rw [Nat.zero_add]; exact e6 j u hj⟩) (by rw [h5]; exact hsrc) (by rw [hb5]; omega)
  rw [h5] at g8
  refine ⟨_, w', g1, ⟨⟨A', c', by rw [List.length_append, hm], by rw [List.length_append, hm]; exact g2, fun hA => ?_, fun hc => ?_⟩, fun he => absurd (List.append_eq_nil_iff.1 he) hnil⟩, g3, g4, g5, g6, fun k hk hkb => g7 k hk fun _ hc off he => ?_⟩
  · rcases Nat.eq_zero_or_pos c' with h0 | h0
    · exact h0
    · obtain ⟨g, off, cs, ell, e1, _⟩ := g8 h0; rw [hA] at e1; cases e1
  · obtain ⟨g, off, cs, ell, e1, e0, e2, e3, e4, e5, e6⟩ := g8 hc
    have e3' : w'.heap[g]? = some (.cells cs 5 (0, 0)) := by
      rcases e2 with ⟨_, hc0, e2⟩ | ⟨e2, _⟩
      · obtain ⟨g', cs', f1, f2, f3, f4, _⟩ := h4 hc0
        rw [e2] at f1; simp only [Option.some.injEq, Addr.mk.injEq] at f1
        obtain ⟨cs2, k1, k2⟩ := g6.bsz g cs' 5 (0, 0) (by rw [f1.1]; exact f4)
        have hcs := cellsE_cs (el := ell) (el' := (5, false)) (e3.symm.trans k1)
        rw [hcs]; exact k1
      · rw [e3, (e0 e2).1]; rfl
    have hoff : off = 0 := by
      rcases e2 with ⟨_, hc0, e2⟩ | ⟨e2, _⟩
      · obtain ⟨g', cs', f1, _⟩ := h4 hc0
        rw [e2] at f1; simp only [Option.some.injEq, Addr.mk.injEq] at f1; exact f1.2.1
      · exact (e0 e2).2
    subst hoff
    refine ⟨g, cs, e1, ?_, ?_, e3', by omega, fun k u hk => ?_⟩
    · rcases e2 with ⟨_, hc0, e2⟩ | ⟨e2, _⟩
      · obtain ⟨g', cs', f1, f2, _⟩ := h4 hc0
        rw [e2] at f1; simp only [Option.some.injEq, Addr.mk.injEq] at f1; omega
      · omega
    · rcases e2 with ⟨_, hc0, e2⟩ | ⟨e2, _⟩
      · obtain ⟨g', cs', f1, f2, f3, _⟩ := h4 hc0
        rw [e2] at f1; simp only [Option.some.injEq, Addr.mk.injEq] at f1; omega
      · omega
    · by_cases hkl : k < l.length
      · rw [List.getElem?_append_left hkl] at hk; have := e5 k u hk; rw [Nat.zero_add] at this; exact this
      · rw [List.getElem?_append_right (by omega)] at hk
        have := e6 _ _ hk
        rw [Nat.mul_one, show 0 + l.length + (k - l.length) = k by omega] at this
        exact this
  · obtain ⟨g', cs', f1, f2, f3, f4, _⟩ := h4 hc
    rw [he] at f1; simp only [Option.some.injEq, Addr.mk.injEq] at f1
    rcases hkb with hkb | hkb | hkb
    · omega
    · omega
    · exact hkb cs' (by rw [f1.1]; exact f4)
/-- A store into the builder. -/
theorem Base.store {W w : World} {b i : Nat} {p p' v' u : Value} {l' : List Value} (h : Base W b w) (hb : ∃ v0, w.heap[b]? = some (.cells #[p, v0] 209 (0, 0)) ∧ (#[p, v0].setIfInBounds i u) = #[p', v'] ∧ BufAt W.heap.size b v' l' w) : BldAt W b p' l' (w.setCell ⟨b, i, none⟩ u) := by
  obtain ⟨v0, h1, h2, h3⟩ := hb
  refine ⟨⟨h.new, h.os, h.tape, h.oth.trans (Oth.setCell w b i u), by rw [size_setCell]; exact h.size, fun k hk => ?_⟩, v', by rw [heap_setCell_same h1, h2], h3.keep fun k _ hk _ => heap_setCell_ne hk⟩
  rw [heap_setCell_ne (by have := h.new; omega)]; exact h.old k hk
theorem check_ok {W w : World} {b : Nat} {l : List Value} (h : Bld W b l w) : Calls Try.prog 232 #[.pointer (some ⟨b, 0, none⟩)] w fun e w' => e = .returned (.tuple #[]) ∧ BldAt W b (.pointer (some ⟨b, 0, none⟩)) l w' ∧ ∀ k, k ≠ b → w'.heap[k]? = w.heap[k]? := by
  rcases h with h | h
  · obtain ⟨v, h1, h2⟩ := h.ex
    refine (Bw.check_fresh b w (by simp [World.cell?, h1]) (by simp [World.shape?, h1]) (by simp [World.frozen?, h1])).mono ?_
    rintro e w' ⟨rfl, rfl⟩
    exact ⟨rfl, h.toBase.store ⟨v, h1, rfl, h2⟩, fun k hk => heap_setCell_ne hk⟩
  · obtain ⟨v, h1, h2⟩ := h.ex
    refine (Bw.check_used b w (by simp [World.cell?, h1])).mono ?_
    rintro e w' ⟨rfl, rfl⟩
    exact ⟨rfl, h, fun _ _ => rfl⟩
end Go.Sm
end

section
set_option linter.unusedVariables false
namespace Go.Sm
open Go Go.Proofs Go.Shelf Go.RowKit
def AfterApp (W w1 : World) (b : Nat) (l : List Value) (v' : Value) (w' : World) : Prop := BufAt W.heap.size b v' l w' ∧ w1.heap.size ≤ w'.heap.size ∧ w'.os = w1.os ∧ w'.tape = w1.tape ∧ Oth w1 w' ∧ ∀ k, k < w1.heap.size → (k < W.heap.size ∨ k = b ∨ N5 w1 k) → w'.heap[k]? = w1.heap[k]?
theorem cell_alloc (w : World) (cs : Array Value) (t : Nat) (j : Nat) {u : Value} (h : cs[j]? = some u) : (w.alloc (.cells cs t)).cell? ((⟨w.heap.size, 0, none⟩ : Addr).add j) = some u := by
  rw [addr_add]
  have : (w.alloc (.cells cs t)).heap[w.heap.size]? = some (.cells cs t (0, 0)) := heap_alloc_new w _
  simp only [World.cell?, this]
  rw [Nat.zero_add]; exact h
set_option maxHeartbeats 2000000 in
set_option maxRecDepth 100000 in
theorem wbyte_ok {T : Tbl} (hT : TblOk Try.prog T) (h5 : T.size 5 = 1) (hb5 : T.bytes 5 = 1) {W w : World} {b : Nat} {l : List Value} {c : Int} (h : Bld W b l w) (hlen : l.length + 1 ≤ 140737488355328) :
    Calls Try.prog 194 #[.pointer (some ⟨b, 0, none⟩), .int .u8 c] w fun e w' => e = .returned .nilIface ∧ BldAt W b (.pointer (some ⟨b, 0, none⟩)) (l ++ [.int .u8 c]) w' := by
  have mixed : Try.prog.follows .mixedOrders = true := by kernel_rfl
  have t72 := Try.underlying209; have a72 := Try.isAgg209; have z72 := Try.sizeOf209; have v72 := Try.zeroValue209; have u72 := run_underlying t72
  have t70 := Try.underlying207; have a70 := Try.isAgg207; have z70 := Try.sizeOf207; have v70 := Try.zeroValue207; have u70 := run_underlying t70
  have t5 := Try.underlying5; have a5 := Try.isAgg5; have z5 := Try.sizeOf5; have v5 := Try.zeroValue5; have u5 := run_underlying t5
  have t37 := Try.underlying34; have a37 := Try.isAgg34; have z37 := Try.sizeOf34; have v37 := Try.zeroValue34; have u37 := run_underlying t37
  have t4 := Try.underlying4; have a4 := Try.isAgg4; have z4 := Try.sizeOf4; have v4 := Try.zeroValue4; have u4 := run_underlying t4
  have e232 : ∀ args w, (callFunc 232 args).run Try.prog w = .ok (.enter 232 args) w := enters_of Try.func232 (by kernel_rfl) rfl
  have hn : Try.f194.ntmps = 17 := by rfl
  go_enter Try.func194, hn
  go_wp2_with (go_at_fn 232; refine (check_ok h).mono ?_)
  rintro e w1 ⟨rfl, h1, hk1⟩
  obtain ⟨v, hbk, hbuf⟩ := h1.ex
  have c0 : w1.cell? ⟨b, 0, none⟩ = some (.pointer (some ⟨b, 0, none⟩)) := by simp [World.cell?, hbk]
  have c1 : w1.cell? ⟨b, 1, none⟩ = some v := by simp [World.cell?, hbk]
  have hlt : b < w1.heap.size := (Array.getElem?_eq_some_iff.1 hbk).1
  have hr : ∃ v' w', (Builtin.append_ #[34, 34] 34 #[v, .slice (some ⟨w1.heap.size, 0, none⟩) 1 1]).run Try.prog (w1.alloc (.cells #[.int .u8 c] 5)) = .ok v' w' ∧ AfterApp W w1 b (l ++ [.int .u8 c]) v' w' := by
    have hsz : (w1.alloc (.cells #[.int .u8 c] 5)).heap.size = w1.heap.size + 1 := by simp
    have hB := h1.size
    obtain ⟨v', w', g1, g2, g3, g4, g5, g6, g7⟩ := app_buf (P := Try.prog) (T := T) (t := 34) (tx := 34) (ty := 34) hT Try.underlying34 h5 hb5 (B := W.heap.size) (b := b) (v := v) (xv := .slice (some ⟨w1.heap.size, 0, none⟩) 1 1) (l := l) (news := [.int .u8 c]) (w := w1.alloc (.cells #[.int .u8 c] 5)) (by rw [hsz]; omega) (by rw [hsz]; omega)
      (hbuf.keep fun k _ _ hk => Below.heap_alloc w1 _ k hk) (m := 1)
      (Go.Src.ofSlice _ Try.underlying34 ⟨w1.heap.size, 0, none⟩ 1 1 [.int .u8 c] rfl (fun j u hj => by
        cases j with
        | succ j => cases hj
        | zero => cases hj; exact cell_alloc w1 _ _ 0 rfl) (fun u hu => by rw [List.mem_singleton.1 hu]; rfl)) hlen
    exact ⟨v', w', g1, g2, by rw [hsz] at g3; omega, g4, g5, (Oth.alloc w1 _).trans g6, fun k hk hkb => (g7 k (by rw [hsz]; omega) (hkb.imp id fun h => h.imp id fun h cs e => h cs ((Below.heap_alloc w1 _ k hk).symm.trans e))).trans (Below.heap_alloc w1 _ k hk)⟩
  go_wp2_with (at_builtin; refine wpList_append_any rfl _ _ 34 34 rfl v (.slice (some ⟨w1.heap.size, 0, none⟩) 1 1) rfl rfl (AfterApp W w1 b (l ++ [.int .u8 c])) hr ?_)
  rintro v' w2 ⟨hbuf', g3, g4, g5, g6, g7⟩
  have hb2 : w2.heap[b]? = some (.cells #[.pointer (some ⟨b, 0, none⟩), v] 209 (0, 0)) := by rw [g7 b hlt (.inr (.inl rfl))]; exact hbk
  have d0 : w2.cell? ⟨b, 0, none⟩ = some (.pointer (some ⟨b, 0, none⟩)) := by simp [World.cell?, hb2]
  have d1 : w2.cell? ⟨b, 1, none⟩ = some v := by simp [World.cell?, hb2]
  have f1 : w2.frozen? ⟨b, 1, none⟩ = false := by simp [World.frozen?, hb2]
  obtain ⟨A', c', hv', _⟩ := hbuf'.ex
  rw [show (l ++ [Value.int .u8 c]).length = l.length + 1 by simp] at hv'
  subst hv'
  go_wp2
  go_ret
  refine ⟨rfl, ?_⟩
  have h2 : Base W b w2 := ⟨h1.new, g4.trans h1.os, g5.trans h1.tape, h1.oth.trans g6, Nat.le_trans h1.size g3, fun k hk => (g7 k (by have := h1.new; omega) (.inl hk)).trans (h1.old k hk)⟩
  exact h2.store ⟨v, hb2, rfl, hbuf'⟩
set_option maxHeartbeats 2000000 in
set_option maxRecDepth 100000 in
theorem wstr_ok {T : Tbl} (hT : TblOk Try.prog T) (h5 : T.size 5 = 1) (hb5 : T.bytes 5 = 1) {W w : World} {b : Nat} {l : List Value} {s : ByteArray} (h : Bld W b l w) (hlen : l.length + s.size ≤ 140737488355328) :
    Calls Try.prog 193 #[.pointer (some ⟨b, 0, none⟩), .string s] w fun e w' => e = .returned (.tuple #[.int .i64 s.size, .nilIface]) ∧ BldAt W b (.pointer (some ⟨b, 0, none⟩)) (l ++ byteCells s) w' ∧ ∀ k, k < w.heap.size → k ≠ b → N5 w k → w'.heap[k]? = w.heap[k]? := by
  have mixed : Try.prog.follows .mixedOrders = true := by kernel_rfl
  have t72 := Try.underlying209; have a72 := Try.isAgg209; have z72 := Try.sizeOf209; have v72 := Try.zeroValue209; have u72 := run_underlying t72
  have t70 := Try.underlying207; have a70 := Try.isAgg207; have z70 := Try.sizeOf207; have v70 := Try.zeroValue207; have u70 := run_underlying t70
  have t5 := Try.underlying5; have a5 := Try.isAgg5; have z5 := Try.sizeOf5; have v5 := Try.zeroValue5; have u5 := run_underlying t5
  have t37 := Try.underlying34; have a37 := Try.isAgg34; have z37 := Try.sizeOf34; have v37 := Try.zeroValue34; have u37 := run_underlying t37
  have t3 := Try.underlying3; have a3 := Try.isAgg3; have z3 := Try.sizeOf3; have v3 := Try.zeroValue3; have u3 := run_underlying t3
  have t9 := Try.underlying9; have a9 := Try.isAgg9; have z9 := Try.sizeOf9; have v9 := Try.zeroValue9; have u9 := run_underlying t9
  have t4 := Try.underlying4; have a4 := Try.isAgg4; have z4 := Try.sizeOf4; have v4 := Try.zeroValue4; have u4 := run_underlying t4
  have e232 : ∀ args w, (callFunc 232 args).run Try.prog w = .ok (.enter 232 args) w := enters_of Try.func232 (by kernel_rfl) rfl
  have hn : Try.f193.ntmps = 19 := by rfl
  go_enter Try.func193, hn
  go_wp2_with (go_at_fn 232; refine (check_ok h).mono ?_)
  rintro e w1 ⟨rfl, h1, hk1⟩
  obtain ⟨v, hbk, hbuf⟩ := h1.ex
  have c0 : w1.cell? ⟨b, 0, none⟩ = some (.pointer (some ⟨b, 0, none⟩)) := by simp [World.cell?, hbk]
  have c1 : w1.cell? ⟨b, 1, none⟩ = some v := by simp [World.cell?, hbk]
  have hlt : b < w1.heap.size := (Array.getElem?_eq_some_iff.1 hbk).1
  have hr : ∃ v' w', (Builtin.append_ #[34, 9] 34 #[v, .string s]).run Try.prog w1 = .ok v' w' ∧ AfterApp W w1 b (l ++ byteCells s) v' w' := by
    have hB := h1.size
    obtain ⟨v', w', g1, g2, g3, g4, g5, g6, g7⟩ := app_buf (P := Try.prog) (T := T) (t := 34) (tx := 9) (ty := 34) hT Try.underlying34 h5 hb5 (B := W.heap.size) (b := b) (v := v) (xv := .string s) (l := l) (news := byteCells s) (w := w1) hB hlt hbuf (m := s.size)
      (Go.Src.ofString w1 Try.underlying9 s) (by rw [byteCells_length]; exact hlen)
    exact ⟨v', w', g1, g2, g3, g4, g5, g6, g7⟩
  go_wp2_with (at_builtin; refine wpList_append_any rfl _ _ 34 9 rfl v (.string s) rfl rfl (AfterApp W w1 b (l ++ byteCells s)) hr ?_)
  rintro v' w2 ⟨hbuf', g3, g4, g5, g6, g7⟩
  have hb2 : w2.heap[b]? = some (.cells #[.pointer (some ⟨b, 0, none⟩), v] 209 (0, 0)) := by rw [g7 b hlt (.inr (.inl rfl))]; exact hbk
  have d0 : w2.cell? ⟨b, 0, none⟩ = some (.pointer (some ⟨b, 0, none⟩)) := by simp [World.cell?, hb2]
  have d1 : w2.cell? ⟨b, 1, none⟩ = some v := by simp [World.cell?, hb2]
  have f1 : w2.frozen? ⟨b, 1, none⟩ = false := by simp [World.frozen?, hb2]
  obtain ⟨A', c', hv', _⟩ := hbuf'.ex
  rw [show (l ++ byteCells s).length = l.length + s.size by rw [List.length_append, byteCells_length]] at hv'
  subst hv'
  go_wp2
  go_ret2
  refine ⟨rfl, ?_, fun k hk hkb h5 => ?_⟩
  case refine_2 =>
    rw [heap_setCell_ne hkb]
    have e1 := hk1 k hkb
    have hk' : k < w1.heap.size := by
      have e : w.heap[k]? = some w.heap[k] := Array.getElem?_eq_getElem hk
      exact (Array.getElem?_eq_some_iff.1 (e1.trans e)).1
    exact (g7 k hk' (.inr (.inr fun cs e => h5 cs (e1.symm.trans e)))).trans e1
  have h2 : Base W b w2 := ⟨h1.new, g4.trans h1.os, g5.trans h1.tape, h1.oth.trans g6, Nat.le_trans h1.size g3, fun k hk => (g7 k (by have := h1.new; omega) (.inl hk)).trans (h1.old k hk)⟩
  exact h2.store ⟨v, hb2, rfl, hbuf'⟩
end Go.Sm
end

section
set_option linter.unusedVariables false
namespace Go.Sm
open Go Go.Proofs Go.Shelf Go.RowKit
theorem Base.below {W w w' : World} {b : Nat} (h : Base W b w) (hb : Below W.heap.size w w') (hd : w.drawn ≤ w'.drawn) : Base W b w' :=
  ⟨h.new, hb.os.trans h.os, hb.tape.trans h.tape, ⟨hb.output.trans h.oth.output, Nat.le_trans h.oth.drawn hd, fun k cs el fz hk => by
    have hlt : k < W.heap.size := (Array.getElem?_eq_some_iff.1 hk).1
    exact ⟨cs, by rw [hb.block k hlt, h.old k hlt]; exact hk, rfl⟩⟩, Nat.le_trans h.size hb.size, fun k hk => (hb.block k hk).trans (h.old k hk)⟩
set_option maxHeartbeats 2000000 in
set_option maxRecDepth 100000 in
theorem str_full {W w : World} {b : Nat} {p : Value} {L : List UInt8} (h : BldAt W b p (Lib.byteCells L) w) (h0 : L ≠ []) (hmax : L.length ≤ 140737488355328) :
    Calls Try.prog 195 #[.pointer (some ⟨b, 0, none⟩)] w fun e w' => e = .returned (.string ⟨L.toArray⟩) ∧ Base W b w' := by
  obtain ⟨v, hbk, hbuf⟩ := h.ex
  have hbase := h.toBase
  obtain ⟨A, c, rfl, h2, h3, h4⟩ := hbuf.ex
  have hl0 : L.length ≠ 0 := by simpa using h0
  rw [Lib.byteCells_length] at h2 hbk
  have hc0 : 0 < c := Nat.lt_of_lt_of_le (Nat.pos_of_ne_zero hl0) h2
  obtain ⟨g, cs, rfl, e2, e3, e4, e5, e6⟩ := h4 hc0
  clear h4 h3
  have c1 : w.drew.cell? ⟨b, 1, none⟩ = some (.slice (some ⟨g, 0, none⟩) L.length c) := by
    have : w.drew.heap[b]? = some (.cells #[p, .slice (some ⟨g, 0, none⟩) L.length c] 209 (0, 0)) := hbk
    simp [World.cell?, this]
  have hSD : (Builtin.unsafeSliceData_ #[34] 239 #[.slice (some ⟨g, 0, none⟩) L.length c]).run Try.prog w.drew = .ok (.pointer (some ⟨g, 0, none⟩)) w.drew := Lib.run_unsafeSliceData_row _ _ _ _ _ _ (by omega)
  have hUS : (Builtin.unsafeString_ #[239, 3] 9 #[.pointer (some ⟨g, 0, none⟩), .int .i64 L.length]).run Try.prog w.drew = .ok (.string ⟨L.toArray⟩) (w.drew.freeze ⟨g, 0, none⟩ L.length) := by
    refine Lib.run_unsafeString_row w.drew 239 3 9 5 Try.underlying239 (by kernel_rfl) g cs.size (by have hg' : w.drew.heap[g]? = some (.cells cs 5 (0, 0)) := e4; simp [World.shape?, hg']) L h0 (by omega) (by omega) ?_
    intro j x hx
    have h5 := e6 j (.int .u8 x.toNat) (by simp [Lib.byteCells, hx])
    have hg' : w.drew.heap[g]? = some (.cells cs 5 (0, 0)) := e4
    rw [addr_add]
    simp only [World.cell?, hg']
    rw [Nat.zero_add]; exact h5
  have hfin : Base W b (w.drew.freeze ⟨g, 0, none⟩ L.length) := hbase.below (Lib.below_freeze (Below.drew (Below.refl _ w)) (p := ⟨g, 0, none⟩) e2 _) (by
    have : (w.drew.freeze ⟨g, 0, none⟩ L.length).drawn = w.drew.drawn := by unfold World.freeze; split <;> rfl
    rw [this]; exact Nat.le_succ _)
  clear h2 e2 e3 e4 e5 e6 hbase hbk hbuf h hmax hl0 hc0
  have mixed : Try.prog.follows .mixedOrders = true := by kernel_rfl
  have t72 := Try.underlying209; have a72 := Try.isAgg209; have z72 := Try.sizeOf209; have v72 := Try.zeroValue209; have u72 := run_underlying t72
  have t70 := Try.underlying207; have a70 := Try.isAgg207; have z70 := Try.sizeOf207; have v70 := Try.zeroValue207; have u70 := run_underlying t70
  have t37 := Try.underlying34; have a37 := Try.isAgg34; have z37 := Try.sizeOf34; have v37 := Try.zeroValue34; have u37 := run_underlying t37
  have t127 := Try.underlying239; have a127 := Try.isAgg239; have z127 := Try.sizeOf239; have v127 := Try.zeroValue239; have u127 := run_underlying t127
  have t3 := Try.underlying3; have a3 := Try.isAgg3; have z3 := Try.sizeOf3; have v3 := Try.zeroValue3; have u3 := run_underlying t3
  have t9 := Try.underlying9; have a9 := Try.isAgg9; have z9 := Try.sizeOf9; have v9 := Try.zeroValue9; have u9 := run_underlying t9
  have t5 := Try.underlying5; have a5 := Try.isAgg5; have z5 := Try.sizeOf5; have v5 := Try.zeroValue5; have u5 := run_underlying t5
  have hn : Try.f195.ntmps = 14 := by rfl
  go_enter Try.func195, hn
  go_wp2
  go_region_o
  all_goals (go_wp2; go_ret; exact ⟨rfl, hfin⟩)
set_option maxHeartbeats 2000000 in
set_option maxRecDepth 100000 in
theorem str_nil {W w : World} {b : Nat} {p : Value} (h : BldAt W b p [] w) :
    Calls Try.prog 195 #[.pointer (some ⟨b, 0, none⟩)] w fun e w' => e = .returned (.string ⟨#[]⟩) ∧ Base W b w' := by
  obtain ⟨v, hbk, hbuf⟩ := h.ex
  have hbase := h.toBase
  have hv := hbuf.nil rfl
  subst hv
  have hUS : ∀ (W : World) (q : Option Addr), (Builtin.unsafeString_ #[239, 3] 9 #[.pointer q, .int .i64 0]).run Try.prog W = .ok (.string .empty) W := fun W q => Lib.run_unsafeString_none W _ _ _ q
  have c1 : w.drew.cell? ⟨b, 1, none⟩ = some (.slice none 0 0) := by
    have : w.drew.heap[b]? = some (.cells #[p, .slice none 0 0] 209 (0, 0)) := hbk
    simp [World.cell?, this]
  have hSD : (Builtin.unsafeSliceData_ #[34] 239 #[.slice none 0 0]).run Try.prog w.drew = .ok (.pointer none) w.drew := rfl
  have hfin : Base W b w.drew := hbase.below (Below.drew (Below.refl _ w)) (Nat.le_succ _)
  clear hbase hbk hbuf h
  have mixed : Try.prog.follows .mixedOrders = true := by kernel_rfl
  have t72 := Try.underlying209; have a72 := Try.isAgg209; have z72 := Try.sizeOf209; have v72 := Try.zeroValue209; have u72 := run_underlying t72
  have t70 := Try.underlying207; have a70 := Try.isAgg207; have z70 := Try.sizeOf207; have v70 := Try.zeroValue207; have u70 := run_underlying t70
  have t37 := Try.underlying34; have a37 := Try.isAgg34; have z37 := Try.sizeOf34; have v37 := Try.zeroValue34; have u37 := run_underlying t37
  have t127 := Try.underlying239; have a127 := Try.isAgg239; have z127 := Try.sizeOf239; have v127 := Try.zeroValue239; have u127 := run_underlying t127
  have t3 := Try.underlying3; have a3 := Try.isAgg3; have z3 := Try.sizeOf3; have v3 := Try.zeroValue3; have u3 := run_underlying t3
  have t9 := Try.underlying9; have a9 := Try.isAgg9; have z9 := Try.sizeOf9; have v9 := Try.zeroValue9; have u9 := run_underlying t9
  have t5 := Try.underlying5; have a5 := Try.isAgg5; have z5 := Try.sizeOf5; have v5 := Try.zeroValue5; have u5 := run_underlying t5
  have hn : Try.f195.ntmps = 14 := by rfl
  go_enter Try.func195, hn
  go_wp2
  go_region_o
  all_goals (go_wp2; go_ret; exact ⟨rfl, hfin⟩)
theorem str_ok {W w : World} {b : Nat} {L : List UInt8} (h : Bld W b (Lib.byteCells L) w) (hmax : L.length ≤ 140737488355328) :
    Calls Try.prog 195 #[.pointer (some ⟨b, 0, none⟩)] w fun e w' => e = .returned (.string ⟨L.toArray⟩) ∧ Base W b w' := by
  obtain ⟨p, h⟩ : ∃ p, BldAt W b p (Lib.byteCells L) w := by rcases h with h | h <;> exact ⟨_, h⟩
  cases L with
  | nil => exact str_nil h
  | cons x r => exact str_full h (by simp) hmax
end Go.Sm
end

section
set_option linter.unusedVariables false
namespace Go.Sm
open Go Go.Proofs Go.Shelf Go.RowKit
set_option maxHeartbeats 2000000 in
theorem marked_ok (c : Int) (w : World) : Calls Try.prog 140 #[.int .u8 c] w fun e w' => e = .returned (.bool (markC c)) ∧ w = w' := by
  have hn : Try.f140.ntmps = 17 := by rfl
  go_enter Try.func140, hn
  by_cases h1 : c = 43
  · subst h1
    go_wp2
    go_ret
    exact ⟨rfl, rfl⟩
  by_cases h2 : c = 58
  · subst h2
    go_wp2
    go_ret
    exact ⟨rfl, rfl⟩
  by_cases h3 : c = 39
  · subst h3
    go_wp2
    go_ret
    exact ⟨rfl, rfl⟩
  by_cases h4 : c = 63
  · subst h4
    go_wp2
    go_ret
    exact ⟨rfl, rfl⟩
  have e1 : (c == 43) = false := by simpa using h1
  have e2 : (c == 58) = false := by simpa using h2
  have e3 : (c == 39) = false := by simpa using h3
  have e4 : (c == 63) = false := by simpa using h4
  have hm : markC c = false := by unfold markC; simp [h1, h2, h3, h4]
  rw [hm]
  clear hm h1 h2 h3 h4
  go_wp2
  go_ret
  exact ⟨rfl, rfl⟩
end Go.Sm
end

section
set_option linter.unusedVariables false
namespace Go.Sm
open Go Go.Proofs Go.Shelf Go.RowKit
def nthLoop : Nat → Code → Option Code
  | n, .loop c => match n with
    | 0 => some c
    | n + 1 => nthLoop n c
  | n, .seq a b => match nthLoop n a with
    | some c => some c
    | none => nthLoop n b
  | n, .block _ c => nthLoop n c
  | n, .scope c => nthLoop n c
  | n, .cond _ a b => match nthLoop n a with
    | some c => some c
    | none => nthLoop n b
  | _, _ => none
noncomputable def lbody (n : Nat) : Code := ((Try.f149.body.bind (nthLoop n)).getD .skip)
abbrev pB (b : Nat) : Value := .pointer (some ⟨b, 0, none⟩)
theorem esc_snoc (t : ByteArray) (j : Nat) (h : j < t.size) : (t.data.toList.take (j + 1)).flatMap escB = (t.data.toList.take j).flatMap escB ++ escB t[j] := by
  rw [List.take_succ_eq_append_getElem (by simpa using h), List.flatMap_append]
  simp
  rfl
theorem bytes_app (L : List UInt8) (c : UInt8) : Lib.byteCells L ++ [.int .u8 (c.toNat : Int)] = Lib.byteCells (L ++ [c]) := by simp [Lib.byteCells]

def Inv6 (W : World) (b : Nat) (t : ByteArray) (pre : List UInt8) (u0 u1 u2 u4 u5 u6 u7 u8 u11 u12 u13 u14 u15 u16 u17 u18 u19 u20 u21 u22 u23 u24 u25 u26 u27 u28 u29 u30 u31 u32 u33 u34 u35 u36 u37 u53 u54 u55 u56 u57 : Value) (a : Act) (w : World) : Prop := ∃ j : Nat, ∃ u10 u41 u42 u43 u44 u45 u46 u47 u48 u49 u50 u51 u52 : Value, j ≤ t.size ∧ Bld W b (Lib.byteCells (pre ++ (t.data.toList.take j).flatMap escB)) w ∧ a = ⟨#[u0, u1, u2, pB b, u4, u5, u6, u7, u8, .string t, u10, u11, u12, u13, u14, u15, u16, u17, u18, u19, u20, u21, u22, u23, u24, u25, u26, u27, u28, u29, u30, u31, u32, u33, u34, u35, u36, u37, .string t, .int .i64 t.size, .int .i64 (j : Nat), u41, u42, u43, u44, u45, u46, u47, u48, u49, u50, u51, u52, u53, u54, u55, u56, u57], []⟩
def mu40 (n : Nat) (a : Act) (w : World) : Nat := n - (intOf (a.tmps.getD 40 undef)).toNat
set_option maxHeartbeats 4000000 in
set_option maxRecDepth 100000 in
theorem round6 {T : Tbl} (hT : TblOk Try.prog T) (h5 : T.size 5 = 1) (hb5 : T.bytes 5 = 1) {W : World} {b : Nat} {t : ByteArray} (ht : t.size ≤ 1000000000) {pre : List UInt8} (hlim : pre.length + 2 * t.size + 2 ≤ 140737488355328) {Q : Exit → Act → World → Prop} (u0 u1 u2 u4 u5 u6 u7 u8 u11 u12 u13 u14 u15 u16 u17 u18 u19 u20 u21 u22 u23 u24 u25 u26 u27 u28 u29 u30 u31 u32 u33 u34 u35 u36 u37 u53 u54 u55 u56 u57 : Value)
    (hexit : ∀ (u10 u41 u42 u43 u44 u45 u46 u47 u48 u49 u50 u51 u52 : Value) (j : Nat) (w : World), Bld W b (Lib.byteCells (pre ++ t.data.toList.flatMap escB)) w → Q (.exit 6) ⟨#[u0, u1, u2, pB b, u4, u5, u6, u7, u8, .string t, u10, u11, u12, u13, u14, u15, u16, u17, u18, u19, u20, u21, u22, u23, u24, u25, u26, u27, u28, u29, u30, u31, u32, u33, u34, u35, u36, u37, .string t, .int .i64 t.size, .int .i64 (j : Nat), u41, u42, u43, u44, u45, u46, u47, u48, u49, u50, u51, u52, u53, u54, u55, u56, u57], []⟩ w) {j : Nat} (u10 u41 u42 u43 u44 u45 u46 u47 u48 u49 u50 u51 u52 : Value) (hj : j ≤ t.size) {w : World} (hB : Bld W b (Lib.byteCells (pre ++ (t.data.toList.take j).flatMap escB)) w) :
    Code.wp Try.prog (lbody 3) (Exit.then (fun a' w' => Inv6 W b t pre u0 u1 u2 u4 u5 u6 u7 u8 u11 u12 u13 u14 u15 u16 u17 u18 u19 u20 u21 u22 u23 u24 u25 u26 u27 u28 u29 u30 u31 u32 u33 u34 u35 u36 u37 u53 u54 u55 u56 u57 a' w' ∧ mu40 t.size a' w' < mu40 t.size ⟨#[u0, u1, u2, pB b, u4, u5, u6, u7, u8, .string t, u10, u11, u12, u13, u14, u15, u16, u17, u18, u19, u20, u21, u22, u23, u24, u25, u26, u27, u28, u29, u30, u31, u32, u33, u34, u35, u36, u37, .string t, .int .i64 t.size, .int .i64 (j : Nat), u41, u42, u43, u44, u45, u46, u47, u48, u49, u50, u51, u52, u53, u54, u55, u56, u57], []⟩ w) Q) ⟨#[u0, u1, u2, pB b, u4, u5, u6, u7, u8, .string t, u10, u11, u12, u13, u14, u15, u16, u17, u18, u19, u20, u21, u22, u23, u24, u25, u26, u27, u28, u29, u30, u31, u32, u33, u34, u35, u36, u37, .string t, .int .i64 t.size, .int .i64 (j : Nat), u41, u42, u43, u44, u45, u46, u47, u48, u49, u50, u51, u52, u53, u54, u55, u56, u57], []⟩ w := by
  have e140 : ∀ args w, (callFunc 140 args).run Try.prog w = .ok (.enter 140 args) w := enters_of Try.func140 (by kernel_rfl) rfl
  have e194 : ∀ args w, (callFunc 194 args).run Try.prog w = .ok (.enter 194 args) w := enters_of Try.func194 (by kernel_rfl) rfl
  conv => arg 2; whnf
  have hlen : (pre ++ (t.data.toList.take j).flatMap escB).length ≤ pre.length + 2 * j := by
    rw [List.length_append]
    have : ∀ l : List UInt8, (l.flatMap escB).length ≤ 2 * l.length := fun l => by
      induction l with
      | nil => exact Nat.le_refl _
      | cons x r ih =>
        rw [List.flatMap_cons, List.length_append, List.length_cons]
        have : (escB x).length ≤ 2 := by rw [escB_mark]; cases markC (x.toNat : Int) <;> simp
        omega
    have h2 := this (t.data.toList.take j)
    have h3 : (t.data.toList.take j).length ≤ j := List.length_take_le _ _
    omega
  have hlen2 : (Lib.byteCells (pre ++ (t.data.toList.take j).flatMap escB)).length ≤ pre.length + 2 * j := by rw [Lib.byteCells_length]; exact hlen
  by_cases hlt : j < t.size
  · have hes := esc_snoc t j hlt
    rw [escB_mark] at hes
    have HS := Lib.hid hes
    clear hes
    have HE := Lib.hid hexit
    clear hexit
    cases hm : markC (t[j].toNat : Int) with
    | true =>
      have H1 : (Lib.byteCells (pre ++ (t.data.toList.take j).flatMap escB)).length + 1 ≤ 140737488355328 := by omega
      go_wp2_with (go_at_fn 140; refine (marked_ok _ _).mono ?_; rintro _ _ ⟨rfl, rfl⟩)
      refine (wbyte_ok hT h5 hb5 hB H1).mono ?_
      rintro _ w1 ⟨rfl, h1⟩
      have H2 : (Lib.byteCells (pre ++ (t.data.toList.take j).flatMap escB) ++ [Value.int .u8 63]).length + 1 ≤ 140737488355328 := by rw [List.length_append, List.length_singleton]; omega
      go_wp2_with fail
      refine (wbyte_ok hT h5 hb5 (.inr h1) H2).mono ?_
      rintro _ w2 ⟨rfl, h2⟩
      have hB2 : Bld W b (Lib.byteCells (pre ++ (t.data.toList.take (j + 1)).flatMap escB)) w2 := by
        rw [HS.out, hm, cond_true]
        have e := h2
        rw [show (63 : Int) = ((63 : UInt8).toNat : Int) from rfl, bytes_app, bytes_app] at e
        have e2 : pre ++ ((t.data.toList.take j).flatMap escB ++ [63, t[j]]) = pre ++ (t.data.toList.take j).flatMap escB ++ [63] ++ [t[j]] := by simp
        rw [e2]
        exact .inr e
      clear h1 h2 H1 H2 hlen hlen2
      go_wp2_with fail
      refine ⟨?_, by simp [mu40, intOf]; omega⟩
      unfold Inv6
      exact ⟨j + 1, _, _, _, _, _, _, _, _, _, _, _, _, _, by omega, hB2, rfl⟩
    | false =>
      have H1 : (Lib.byteCells (pre ++ (t.data.toList.take j).flatMap escB)).length + 1 ≤ 140737488355328 := by omega
      go_wp2_with (go_at_fn 140; refine (marked_ok _ _).mono ?_; rintro _ _ ⟨rfl, rfl⟩)
      refine (wbyte_ok hT h5 hb5 hB H1).mono ?_
      rintro _ w2 ⟨rfl, h2⟩
      have hB2 : Bld W b (Lib.byteCells (pre ++ (t.data.toList.take (j + 1)).flatMap escB)) w2 := by
        rw [HS.out, hm, cond_false]
        have e := h2
        rw [bytes_app] at e
        rw [← List.append_assoc]
        exact .inr e
      clear h2 H1 hlen hlen2
      go_wp2_with fail
      refine ⟨?_, by simp [mu40, intOf]; omega⟩
      unfold Inv6
      exact ⟨j + 1, _, _, _, _, _, _, _, _, _, _, _, _, _, by omega, hB2, rfl⟩
  · have hjt : j = t.size := by omega
    subst hjt
    have hB2 : Bld W b (Lib.byteCells (pre ++ t.data.toList.flatMap escB)) w := by
      have e : t.data.toList.take t.size = t.data.toList := List.take_of_length_le (by simp)
      rw [e] at hB; exact hB
    have HE := Lib.hid hexit
    clear hexit hlen hlen2 hB hlt hj
    go_wp2_with fail
    exact HE.out _ _ _ _ _ _ _ _ _ _ _ _ _ _ w hB2

theorem loop6 {T : Tbl} (hT : TblOk Try.prog T) (h5 : T.size 5 = 1) (hb5 : T.bytes 5 = 1) {W : World} {b : Nat} {t : ByteArray} (ht : t.size ≤ 1000000000) {pre : List UInt8} (hlim : pre.length + 2 * t.size + 2 ≤ 140737488355328) {Q : Exit → Act → World → Prop} (u0 u1 u2 u4 u5 u6 u7 u8 u11 u12 u13 u14 u15 u16 u17 u18 u19 u20 u21 u22 u23 u24 u25 u26 u27 u28 u29 u30 u31 u32 u33 u34 u35 u36 u37 u53 u54 u55 u56 u57 : Value)
    (hexit : ∀ (u10 u41 u42 u43 u44 u45 u46 u47 u48 u49 u50 u51 u52 : Value) (j : Nat) (w : World), Bld W b (Lib.byteCells (pre ++ t.data.toList.flatMap escB)) w → Q (.exit 6) ⟨#[u0, u1, u2, pB b, u4, u5, u6, u7, u8, .string t, u10, u11, u12, u13, u14, u15, u16, u17, u18, u19, u20, u21, u22, u23, u24, u25, u26, u27, u28, u29, u30, u31, u32, u33, u34, u35, u36, u37, .string t, .int .i64 t.size, .int .i64 (j : Nat), u41, u42, u43, u44, u45, u46, u47, u48, u49, u50, u51, u52, u53, u54, u55, u56, u57], []⟩ w) (u10 u41 u42 u43 u44 u45 u46 u47 u48 u49 u50 u51 u52 : Value) {w : World} (hB : Bld W b (Lib.byteCells pre) w) :
    Code.wp Try.prog (Code.loop (lbody 3)) Q ⟨#[u0, u1, u2, pB b, u4, u5, u6, u7, u8, .string t, u10, u11, u12, u13, u14, u15, u16, u17, u18, u19, u20, u21, u22, u23, u24, u25, u26, u27, u28, u29, u30, u31, u32, u33, u34, u35, u36, u37, .string t, .int .i64 t.size, .int .i64 0, u41, u42, u43, u44, u45, u46, u47, u48, u49, u50, u51, u52, u53, u54, u55, u56, u57], []⟩ w := by
  refine wp_loop (Inv6 W b t pre u0 u1 u2 u4 u5 u6 u7 u8 u11 u12 u13 u14 u15 u16 u17 u18 u19 u20 u21 u22 u23 u24 u25 u26 u27 u28 u29 u30 u31 u32 u33 u34 u35 u36 u37 u53 u54 u55 u56 u57) (mu40 t.size) ⟨0, u10, u41, u42, u43, u44, u45, u46, u47, u48, u49, u50, u51, u52, Nat.zero_le _, by rw [List.take_zero, List.flatMap_nil, List.append_nil]; exact hB, rfl⟩ (fun a w' hI => ?_)
  obtain ⟨j, u10, u41, u42, u43, u44, u45, u46, u47, u48, u49, u50, u51, u52, hj, hB', rfl⟩ := hI
  exact round6 hT h5 hb5 ht hlim u0 u1 u2 u4 u5 u6 u7 u8 u11 u12 u13 u14 u15 u16 u17 u18 u19 u20 u21 u22 u23 u24 u25 u26 u27 u28 u29 u30 u31 u32 u33 u34 u35 u36 u37 u53 u54 u55 u56 u57 hexit u10 u41 u42 u43 u44 u45 u46 u47 u48 u49 u50 u51 u52 hj hB' 
def Inv4 (W : World) (b : Nat) (A : Option Addr) (cp : Nat) (r : List ByteArray) (pre : List UInt8) (u0 u1 u2 u4 u5 u6 u7 u11 u12 u13 u14 u15 u16 u17 u18 u19 u20 u21 u22 u23 u24 u25 u26 u54 u55 u56 u57 : Value) (a : Act) (w : World) : Prop := ∃ k : Nat, ∃ u8 u9 u10 u30 u31 u32 u33 u34 u35 u36 u37 u38 u39 u40 u41 u42 u43 u44 u45 u46 u47 u48 u49 u50 u51 u52 u53 : Value, k ≤ r.length ∧ Bld W b (Lib.byteCells (pre ++ wPartK r k)) w ∧ a = ⟨#[u0, u1, u2, pB b, u4, u5, u6, u7, u8, u9, u10, u11, u12, u13, u14, u15, u16, u17, u18, u19, u20, u21, u22, u23, u24, u25, u26, .slice A r.length cp, .int .i64 r.length, .int .i64 (k : Nat), u30, u31, u32, u33, u34, u35, u36, u37, u38, u39, u40, u41, u42, u43, u44, u45, u46, u47, u48, u49, u50, u51, u52, u53, u54, u55, u56, u57], []⟩
def mu29 (n : Nat) (a : Act) (w : World) : Nat := n - (intOf (a.tmps.getD 29 undef)).toNat
theorem Bld.base {W w : World} {b : Nat} {l : List Value} (h : Bld W b l w) : Base W b w := by rcases h with h | h <;> exact h.toBase
theorem Base.cell {W w : World} {b g i : Nat} (h : Base W b w) (hg : g < W.heap.size) : w.cell? ⟨g, i, none⟩ = W.cell? ⟨g, i, none⟩ := by simp only [World.cell?, h.old g hg]
set_option maxHeartbeats 4000000 in
set_option maxRecDepth 100000 in
theorem round4 {T : Tbl} (hT : TblOk Try.prog T) (h5 : T.size 5 = 1) (hb5 : T.bytes 5 = 1) {W : World} {b : Nat} {A : Option Addr} {cp : Nat} {r : List ByteArray} (hcp : r.length ≤ cp) (hr : ∀ k, k < r.length → ∃ g off, A = some ⟨g, off, none⟩ ∧ g < W.heap.size ∧ W.cell? ⟨g, off + k, none⟩ = some (.string (r.getD k ⟨#[]⟩)) ∧ (r.getD k ⟨#[]⟩).size ≤ 1000000000) (hrl : r.length ≤ 1000000000) {pre : List UInt8} (hlim : ∀ k, k < r.length → (pre ++ wPartK r k).length + 2 * (r.getD k ⟨#[]⟩).size + 4 ≤ 140737488355328) {Q : Exit → Act → World → Prop} (u0 u1 u2 u4 u5 u6 u7 u11 u12 u13 u14 u15 u16 u17 u18 u19 u20 u21 u22 u23 u24 u25 u26 u54 u55 u56 u57 : Value)
    (hexit : ∀ (u8 u9 u10 u30 u31 u32 u33 u34 u35 u36 u37 u38 u39 u40 u41 u42 u43 u44 u45 u46 u47 u48 u49 u50 u51 u52 u53 : Value) (k : Nat) (w : World), Bld W b (Lib.byteCells (pre ++ wPartK r r.length)) w → Q (.exit 4) ⟨#[u0, u1, u2, pB b, u4, u5, u6, u7, u8, u9, u10, u11, u12, u13, u14, u15, u16, u17, u18, u19, u20, u21, u22, u23, u24, u25, u26, .slice A r.length cp, .int .i64 r.length, .int .i64 (k : Nat), u30, u31, u32, u33, u34, u35, u36, u37, u38, u39, u40, u41, u42, u43, u44, u45, u46, u47, u48, u49, u50, u51, u52, u53, u54, u55, u56, u57], []⟩ w) {k : Nat} (u8 u9 u10 u30 u31 u32 u33 u34 u35 u36 u37 u38 u39 u40 u41 u42 u43 u44 u45 u46 u47 u48 u49 u50 u51 u52 u53 : Value) (hk : k ≤ r.length) {w : World} (hB : Bld W b (Lib.byteCells (pre ++ wPartK r k)) w) :
    Code.wp Try.prog (lbody 2) (Exit.then (fun a' w' => Inv4 W b A cp r pre u0 u1 u2 u4 u5 u6 u7 u11 u12 u13 u14 u15 u16 u17 u18 u19 u20 u21 u22 u23 u24 u25 u26 u54 u55 u56 u57 a' w' ∧ mu29 r.length a' w' < mu29 r.length ⟨#[u0, u1, u2, pB b, u4, u5, u6, u7, u8, u9, u10, u11, u12, u13, u14, u15, u16, u17, u18, u19, u20, u21, u22, u23, u24, u25, u26, .slice A r.length cp, .int .i64 r.length, .int .i64 (k : Nat), u30, u31, u32, u33, u34, u35, u36, u37, u38, u39, u40, u41, u42, u43, u44, u45, u46, u47, u48, u49, u50, u51, u52, u53, u54, u55, u56, u57], []⟩ w) Q) ⟨#[u0, u1, u2, pB b, u4, u5, u6, u7, u8, u9, u10, u11, u12, u13, u14, u15, u16, u17, u18, u19, u20, u21, u22, u23, u24, u25, u26, .slice A r.length cp, .int .i64 r.length, .int .i64 (k : Nat), u30, u31, u32, u33, u34, u35, u36, u37, u38, u39, u40, u41, u42, u43, u44, u45, u46, u47, u48, u49, u50, u51, u52, u53, u54, u55, u56, u57], []⟩ w := by
  have e194 : ∀ args w, (callFunc 194 args).run Try.prog w = .ok (.enter 194 args) w := enters_of Try.func194 (by kernel_rfl) rfl
  conv => arg 2; whnf
  by_cases hlt : k < r.length
  · obtain ⟨g, off, rfl, hg, hcell, hsz⟩ := hr k hlt
    replace hcell : w.cell? ⟨g, off + k, none⟩ = some (.string (r.getD k ⟨#[]⟩)) := by rw [hB.base.cell hg]; exact hcell
    have hl := hlim k hlt
    have HR := Lib.hid hr
    have HL := Lib.hid hlim
    have HE := Lib.hid hexit
    clear hr hlim hexit
    generalize ht : r.getD k ⟨#[]⟩ = t at hcell hsz hl
    have HT := Lib.hid ht
    clear ht
    have t9 := Try.underlying9; have a9 := Try.isAgg9; have z9 := Try.sizeOf9; have v9 := Try.zeroValue9; have u9 := run_underlying t9
    have t82 := Try.underlying82; have a82 := Try.isAgg82; have z82 := Try.sizeOf82; have v82 := Try.zeroValue82; have u82 := run_underlying t82
    by_cases hk0 : k = 0
    · subst hk0
      have hcell0 : w.cell? ⟨g, off, none⟩ = some (.string t) := by simpa using hcell
      clear hcell
      have hB0 : Bld W b (Lib.byteCells pre) w := by simpa [wPartK] using hB
      have H1 : (Lib.byteCells pre).length + 1 ≤ 140737488355328 := by rw [Lib.byteCells_length]; simp [wPartK] at hl; omega
      have hl6 : (pre ++ [43]).length + 2 * t.size + 2 ≤ 140737488355328 := by rw [List.length_append, List.length_singleton]; simp [wPartK] at hl; omega
      clear hB hl
      go_wp2_with fail
      refine (wbyte_ok (c := 43) hT h5 hb5 hB0 H1).mono ?_
      rintro _ w1 ⟨rfl, h1⟩
      have hB1 : Bld W b (Lib.byteCells (pre ++ [43])) w1 := by
        rw [← bytes_app]; exact .inr h1
      clear h1 H1 hB0
      go_wp2_with (refine loop6 hT h5 hb5 hsz hl6 _ _ _ _ _ _ _ _ _ _ _ _ _ _ _ _ _ _ _ _ _ _ _ _ _ _ _ _ _ _ _ _ _ _ _ _ _ _ _ _ ?_ _ _ _ _ _ _ _ _ _ _ _ _ _ hB1)
      intro x10 x41 x42 x43 x44 x45 x46 x47 x48 x49 x50 x51 x52 j w2 hB2
      have hB3 : Bld W b (Lib.byteCells (pre ++ wPartK r (0 + 1))) w2 := by
        have e : wPartK r (0 + 1) = 43 :: t.data.toList.flatMap escB := by show [] ++ wText 43 (r.getD 0 ⟨#[]⟩) = _; rw [HT.out]; rfl
        rw [e]; simpa using hB2
      clear hB1 hB2
      go_wp2_with fail
      refine ⟨?_, by simp [mu29, intOf]; omega⟩
      unfold Inv4
      exact ⟨0 + 1, _, _, _, _, _, _, _, _, _, _, _, _, _, _, _, _, _, _, _, _, _, _, _, _, _, _, _, by omega, hB3, rfl⟩
    · have hmin : min (k : Int) 1 = 1 := by omega
      have H1 : (Lib.byteCells (pre ++ wPartK r k)).length + 1 ≤ 140737488355328 := by rw [Lib.byteCells_length]; omega
      have hl6 : (pre ++ wPartK r k ++ [58]).length + 2 * t.size + 2 ≤ 140737488355328 := by rw [List.length_append, List.length_singleton]; omega
      clear hl
      go_wp2_with fail
      refine (wbyte_ok (c := 58) hT h5 hb5 hB H1).mono ?_
      rintro _ w1 ⟨rfl, h1⟩
      have hB1 : Bld W b (Lib.byteCells (pre ++ wPartK r k ++ [58])) w1 := by
        rw [← bytes_app]; exact .inr h1
      clear h1 H1
      go_wp2_with (refine loop6 hT h5 hb5 hsz hl6 _ _ _ _ _ _ _ _ _ _ _ _ _ _ _ _ _ _ _ _ _ _ _ _ _ _ _ _ _ _ _ _ _ _ _ _ _ _ _ _ ?_ _ _ _ _ _ _ _ _ _ _ _ _ _ hB1)
      intro x10 x41 x42 x43 x44 x45 x46 x47 x48 x49 x50 x51 x52 j w2 hB2
      have hB3 : Bld W b (Lib.byteCells (pre ++ wPartK r (k + 1))) w2 := by
        have e : wPartK r (k + 1) = wPartK r k ++ 58 :: t.data.toList.flatMap escB := by show wPartK r k ++ wText (if k = 0 then 43 else 58) (r.getD k ⟨#[]⟩) = _; rw [HT.out, if_neg hk0]; rfl
        rw [e]; simpa using hB2
      clear hB1 hB2
      go_wp2_with fail
      refine ⟨?_, by simp [mu29, intOf]; omega⟩
      unfold Inv4
      exact ⟨k + 1, _, _, _, _, _, _, _, _, _, _, _, _, _, _, _, _, _, _, _, _, _, _, _, _, _, _, _, by omega, hB3, rfl⟩
  · have hkr : k = r.length := by omega
    subst hkr
    have HE := Lib.hid hexit
    clear hexit hr hlim hlt hk
    go_wp2_with fail
    exact HE.out _ _ _ _ _ _ _ _ _ _ _ _ _ _ _ _ _ _ _ _ _ _ _ _ _ _ _ _ w hB

theorem loop4 {T : Tbl} (hT : TblOk Try.prog T) (h5 : T.size 5 = 1) (hb5 : T.bytes 5 = 1) {W : World} {b : Nat} {A : Option Addr} {cp : Nat} {r : List ByteArray} (hcp : r.length ≤ cp) (hr : ∀ k, k < r.length → ∃ g off, A = some ⟨g, off, none⟩ ∧ g < W.heap.size ∧ W.cell? ⟨g, off + k, none⟩ = some (.string (r.getD k ⟨#[]⟩)) ∧ (r.getD k ⟨#[]⟩).size ≤ 1000000000) (hrl : r.length ≤ 1000000000) {pre : List UInt8} (hlim : ∀ k, k < r.length → (pre ++ wPartK r k).length + 2 * (r.getD k ⟨#[]⟩).size + 4 ≤ 140737488355328) {Q : Exit → Act → World → Prop} (u0 u1 u2 u4 u5 u6 u7 u11 u12 u13 u14 u15 u16 u17 u18 u19 u20 u21 u22 u23 u24 u25 u26 u54 u55 u56 u57 : Value)
    (hexit : ∀ (u8 u9 u10 u30 u31 u32 u33 u34 u35 u36 u37 u38 u39 u40 u41 u42 u43 u44 u45 u46 u47 u48 u49 u50 u51 u52 u53 : Value) (k : Nat) (w : World), Bld W b (Lib.byteCells (pre ++ wPartK r r.length)) w → Q (.exit 4) ⟨#[u0, u1, u2, pB b, u4, u5, u6, u7, u8, u9, u10, u11, u12, u13, u14, u15, u16, u17, u18, u19, u20, u21, u22, u23, u24, u25, u26, .slice A r.length cp, .int .i64 r.length, .int .i64 (k : Nat), u30, u31, u32, u33, u34, u35, u36, u37, u38, u39, u40, u41, u42, u43, u44, u45, u46, u47, u48, u49, u50, u51, u52, u53, u54, u55, u56, u57], []⟩ w) (u8 u9 u10 u30 u31 u32 u33 u34 u35 u36 u37 u38 u39 u40 u41 u42 u43 u44 u45 u46 u47 u48 u49 u50 u51 u52 u53 : Value) {w : World} (hB : Bld W b (Lib.byteCells pre) w) :
    Code.wp Try.prog (Code.loop (lbody 2)) Q ⟨#[u0, u1, u2, pB b, u4, u5, u6, u7, u8, u9, u10, u11, u12, u13, u14, u15, u16, u17, u18, u19, u20, u21, u22, u23, u24, u25, u26, .slice A r.length cp, .int .i64 r.length, .int .i64 0, u30, u31, u32, u33, u34, u35, u36, u37, u38, u39, u40, u41, u42, u43, u44, u45, u46, u47, u48, u49, u50, u51, u52, u53, u54, u55, u56, u57], []⟩ w := by
  refine wp_loop (Inv4 W b A cp r pre u0 u1 u2 u4 u5 u6 u7 u11 u12 u13 u14 u15 u16 u17 u18 u19 u20 u21 u22 u23 u24 u25 u26 u54 u55 u56 u57) (mu29 r.length) ⟨0, u8, u9, u10, u30, u31, u32, u33, u34, u35, u36, u37, u38, u39, u40, u41, u42, u43, u44, u45, u46, u47, u48, u49, u50, u51, u52, u53, Nat.zero_le _, by rw [wPartK, List.append_nil]; exact hB, rfl⟩ (fun a w' hI => ?_)
  obtain ⟨k, u8, u9, u10, u30, u31, u32, u33, u34, u35, u36, u37, u38, u39, u40, u41, u42, u43, u44, u45, u46, u47, u48, u49, u50, u51, u52, u53, hk, hB', rfl⟩ := hI
  exact round4 hT h5 hb5 hcp hr hrl hlim u0 u1 u2 u4 u5 u6 u7 u11 u12 u13 u14 u15 u16 u17 u18 u19 u20 u21 u22 u23 u24 u25 u26 u54 u55 u56 u57 hexit u8 u9 u10 u30 u31 u32 u33 u34 u35 u36 u37 u38 u39 u40 u41 u42 u43 u44 u45 u46 u47 u48 u49 u50 u51 u52 u53 hk hB' 
def RowStr (W : World) (A : Option Addr) (r : List ByteArray) : Prop := ∀ k, k < r.length → ∃ g off, A = some ⟨g, off, none⟩ ∧ g < W.heap.size ∧ W.cell? ⟨g, off + k, none⟩ = some (.string (r.getD k ⟨#[]⟩)) ∧ (r.getD k ⟨#[]⟩).size ≤ 1000000000
def Inv2 (W : World) (b : Nat) (A2 : Option Addr) (cp2 : Nat) (P : List (List ByteArray)) (pre : List UInt8) (u0 u1 u2 u4 u5 u6 u11 u12 u13 u14 u15 u16 u17 u18 u19 u20 u55 u56 u57 : Value) (a : Act) (w : World) : Prop := ∃ q : Nat, ∃ u7 u8 u9 u10 u24 u25 u26 u27 u28 u29 u30 u31 u32 u33 u34 u35 u36 u37 u38 u39 u40 u41 u42 u43 u44 u45 u46 u47 u48 u49 u50 u51 u52 u53 u54 : Value, q ≤ P.length ∧ Bld W b (Lib.byteCells (pre ++ wParts P q)) w ∧ a = ⟨#[u0, u1, u2, pB b, u4, u5, u6, u7, u8, u9, u10, u11, u12, u13, u14, u15, u16, u17, u18, u19, u20, .slice A2 P.length cp2, .int .i64 P.length, .int .i64 (q : Nat), u24, u25, u26, u27, u28, u29, u30, u31, u32, u33, u34, u35, u36, u37, u38, u39, u40, u41, u42, u43, u44, u45, u46, u47, u48, u49, u50, u51, u52, u53, u54, u55, u56, u57], []⟩
def mu23 (n : Nat) (a : Act) (w : World) : Nat := n - (intOf (a.tmps.getD 23 undef)).toNat
set_option maxHeartbeats 4000000 in
set_option maxRecDepth 100000 in
theorem round2 {T : Tbl} (hT : TblOk Try.prog T) (h5 : T.size 5 = 1) (hb5 : T.bytes 5 = 1) {W : World} {b : Nat} {A2 : Option Addr} {cp2 : Nat} {P : List (List ByteArray)} (hcp2 : P.length ≤ cp2) (hP : ∀ q, q < P.length → ∃ g off A cp, A2 = some ⟨g, off, none⟩ ∧ g < W.heap.size ∧ W.cell? ⟨g, off + q, none⟩ = some (.slice A (P.getD q []).length cp) ∧ (P.getD q []).length ≤ cp ∧ RowStr W A (P.getD q [])) (hPl : P.length ≤ 1000000000) {pre : List UInt8} (hlim2 : ∀ q, q < P.length → (P.getD q []).length ≤ 1000000000 ∧ ∀ k, k < (P.getD q []).length → (pre ++ wParts P q ++ wPartK (P.getD q []) k).length + 2 * ((P.getD q []).getD k ⟨#[]⟩).size + 4 ≤ 140737488355328) {Q : Exit → Act → World → Prop} (u0 u1 u2 u4 u5 u6 u11 u12 u13 u14 u15 u16 u17 u18 u19 u20 u55 u56 u57 : Value)
    (hexit : ∀ (u7 u8 u9 u10 u24 u25 u26 u27 u28 u29 u30 u31 u32 u33 u34 u35 u36 u37 u38 u39 u40 u41 u42 u43 u44 u45 u46 u47 u48 u49 u50 u51 u52 u53 u54 : Value) (q : Nat) (w : World), Bld W b (Lib.byteCells (pre ++ wParts P P.length)) w → Q (.exit 2) ⟨#[u0, u1, u2, pB b, u4, u5, u6, u7, u8, u9, u10, u11, u12, u13, u14, u15, u16, u17, u18, u19, u20, .slice A2 P.length cp2, .int .i64 P.length, .int .i64 (q : Nat), u24, u25, u26, u27, u28, u29, u30, u31, u32, u33, u34, u35, u36, u37, u38, u39, u40, u41, u42, u43, u44, u45, u46, u47, u48, u49, u50, u51, u52, u53, u54, u55, u56, u57], []⟩ w) {q : Nat} (u7 u8 u9 u10 u24 u25 u26 u27 u28 u29 u30 u31 u32 u33 u34 u35 u36 u37 u38 u39 u40 u41 u42 u43 u44 u45 u46 u47 u48 u49 u50 u51 u52 u53 u54 : Value) (hq : q ≤ P.length) {w : World} (hB : Bld W b (Lib.byteCells (pre ++ wParts P q)) w) :
    Code.wp Try.prog (lbody 1) (Exit.then (fun a' w' => Inv2 W b A2 cp2 P pre u0 u1 u2 u4 u5 u6 u11 u12 u13 u14 u15 u16 u17 u18 u19 u20 u55 u56 u57 a' w' ∧ mu23 P.length a' w' < mu23 P.length ⟨#[u0, u1, u2, pB b, u4, u5, u6, u7, u8, u9, u10, u11, u12, u13, u14, u15, u16, u17, u18, u19, u20, .slice A2 P.length cp2, .int .i64 P.length, .int .i64 (q : Nat), u24, u25, u26, u27, u28, u29, u30, u31, u32, u33, u34, u35, u36, u37, u38, u39, u40, u41, u42, u43, u44, u45, u46, u47, u48, u49, u50, u51, u52, u53, u54, u55, u56, u57], []⟩ w) Q) ⟨#[u0, u1, u2, pB b, u4, u5, u6, u7, u8, u9, u10, u11, u12, u13, u14, u15, u16, u17, u18, u19, u20, .slice A2 P.length cp2, .int .i64 P.length, .int .i64 (q : Nat), u24, u25, u26, u27, u28, u29, u30, u31, u32, u33, u34, u35, u36, u37, u38, u39, u40, u41, u42, u43, u44, u45, u46, u47, u48, u49, u50, u51, u52, u53, u54, u55, u56, u57], []⟩ w := by
  conv => arg 2; whnf
  by_cases hlt : q < P.length
  · obtain ⟨g, off, A, cp, rfl, hg, hcell, hcp, hrow⟩ := hP q hlt
    replace hcell : w.cell? ⟨g, off + q, none⟩ = some (.slice A (P.getD q []).length cp) := by rw [hB.base.cell hg]; exact hcell
    obtain ⟨hrl, hl⟩ := hlim2 q hlt
    have HP := Lib.hid hP
    have HL := Lib.hid hlim2
    have HE := Lib.hid hexit
    clear hP hlim2 hexit
    have hs : wParts P (q + 1) = wParts P q ++ wPartK (P.getD q []) (P.getD q []).length := rfl
    have HS := Lib.hid hs
    clear hs
    generalize hr : P.getD q [] = r at hcell hcp hrow hrl hl
    rw [hr] at HS
    have HR := Lib.hid hr
    clear hr
    have t9 := Try.underlying9; have a9 := Try.isAgg9; have z9 := Try.sizeOf9; have v9 := Try.zeroValue9; have u9 := run_underlying t9
    have t82 := Try.underlying82; have a82 := Try.isAgg82; have z82 := Try.sizeOf82; have v82 := Try.zeroValue82; have u82 := run_underlying t82
    have t98 := Try.underlying98; have a98 := Try.isAgg98; have z98 := Try.sizeOf98; have v98 := Try.zeroValue98; have u98 := run_underlying t98
    have HW := Lib.hid hrow
    have HL2 := Lib.hid hl
    clear hrow hl
    go_wp2_with (refine loop4 hT h5 hb5 hcp HW.out hrl HL2.out _ _ _ _ _ _ _ _ _ _ _ _ _ _ _ _ _ _ _ _ _ _ _ _ _ _ _ ?_ _ _ _ _ _ _ _ _ _ _ _ _ _ _ _ _ _ _ _ _ _ _ _ _ _ _ _ hB)
    intro x8 x9 x10 x30 x31 x32 x33 x34 x35 x36 x37 x38 x39 x40 x41 x42 x43 x44 x45 x46 x47 x48 x49 x50 x51 x52 x53 k w2 hB2
    have hB3 : Bld W b (Lib.byteCells (pre ++ wParts P (q + 1))) w2 := by rw [HS.out]; first | exact hB2 | (rw [← List.append_assoc]; exact hB2)
    clear hB hB2
    go_wp2_with fail
    refine ⟨?_, by simp [mu23, intOf]; omega⟩
    unfold Inv2
    exact ⟨q + 1, _, _, _, _, _, _, _, _, _, _, _, _, _, _, _, _, _, _, _, _, _, _, _, _, _, _, _, _, _, _, _, _, _, _, _, by omega, hB3, rfl⟩
  · have hkr : q = P.length := by omega
    subst hkr
    have HE := Lib.hid hexit
    clear hexit hP hlim2 hlt hq
    go_wp2_with fail
    exact HE.out _ _ _ _ _ _ _ _ _ _ _ _ _ _ _ _ _ _ _ _ _ _ _ _ _ _ _ _ _ _ _ _ _ _ _ _ w hB

theorem loop2 {T : Tbl} (hT : TblOk Try.prog T) (h5 : T.size 5 = 1) (hb5 : T.bytes 5 = 1) {W : World} {b : Nat} {A2 : Option Addr} {cp2 : Nat} {P : List (List ByteArray)} (hcp2 : P.length ≤ cp2) (hP : ∀ q, q < P.length → ∃ g off A cp, A2 = some ⟨g, off, none⟩ ∧ g < W.heap.size ∧ W.cell? ⟨g, off + q, none⟩ = some (.slice A (P.getD q []).length cp) ∧ (P.getD q []).length ≤ cp ∧ RowStr W A (P.getD q [])) (hPl : P.length ≤ 1000000000) {pre : List UInt8} (hlim2 : ∀ q, q < P.length → (P.getD q []).length ≤ 1000000000 ∧ ∀ k, k < (P.getD q []).length → (pre ++ wParts P q ++ wPartK (P.getD q []) k).length + 2 * ((P.getD q []).getD k ⟨#[]⟩).size + 4 ≤ 140737488355328) {Q : Exit → Act → World → Prop} (u0 u1 u2 u4 u5 u6 u11 u12 u13 u14 u15 u16 u17 u18 u19 u20 u55 u56 u57 : Value)
    (hexit : ∀ (u7 u8 u9 u10 u24 u25 u26 u27 u28 u29 u30 u31 u32 u33 u34 u35 u36 u37 u38 u39 u40 u41 u42 u43 u44 u45 u46 u47 u48 u49 u50 u51 u52 u53 u54 : Value) (q : Nat) (w : World), Bld W b (Lib.byteCells (pre ++ wParts P P.length)) w → Q (.exit 2) ⟨#[u0, u1, u2, pB b, u4, u5, u6, u7, u8, u9, u10, u11, u12, u13, u14, u15, u16, u17, u18, u19, u20, .slice A2 P.length cp2, .int .i64 P.length, .int .i64 (q : Nat), u24, u25, u26, u27, u28, u29, u30, u31, u32, u33, u34, u35, u36, u37, u38, u39, u40, u41, u42, u43, u44, u45, u46, u47, u48, u49, u50, u51, u52, u53, u54, u55, u56, u57], []⟩ w) (u7 u8 u9 u10 u24 u25 u26 u27 u28 u29 u30 u31 u32 u33 u34 u35 u36 u37 u38 u39 u40 u41 u42 u43 u44 u45 u46 u47 u48 u49 u50 u51 u52 u53 u54 : Value) {w : World} (hB : Bld W b (Lib.byteCells pre) w) :
    Code.wp Try.prog (Code.loop (lbody 1)) Q ⟨#[u0, u1, u2, pB b, u4, u5, u6, u7, u8, u9, u10, u11, u12, u13, u14, u15, u16, u17, u18, u19, u20, .slice A2 P.length cp2, .int .i64 P.length, .int .i64 0, u24, u25, u26, u27, u28, u29, u30, u31, u32, u33, u34, u35, u36, u37, u38, u39, u40, u41, u42, u43, u44, u45, u46, u47, u48, u49, u50, u51, u52, u53, u54, u55, u56, u57], []⟩ w := by
  refine wp_loop (Inv2 W b A2 cp2 P pre u0 u1 u2 u4 u5 u6 u11 u12 u13 u14 u15 u16 u17 u18 u19 u20 u55 u56 u57) (mu23 P.length) ⟨0, u7, u8, u9, u10, u24, u25, u26, u27, u28, u29, u30, u31, u32, u33, u34, u35, u36, u37, u38, u39, u40, u41, u42, u43, u44, u45, u46, u47, u48, u49, u50, u51, u52, u53, u54, Nat.zero_le _, by rw [wParts, List.append_nil]; exact hB, rfl⟩ (fun a w' hI => ?_)
  obtain ⟨q, u7, u8, u9, u10, u24, u25, u26, u27, u28, u29, u30, u31, u32, u33, u34, u35, u36, u37, u38, u39, u40, u41, u42, u43, u44, u45, u46, u47, u48, u49, u50, u51, u52, u53, u54, hq, hB', rfl⟩ := hI
  exact round2 hT h5 hb5 hcp2 hP hPl hlim2 u0 u1 u2 u4 u5 u6 u11 u12 u13 u14 u15 u16 u17 u18 u19 u20 u55 u56 u57 hexit u7 u8 u9 u10 u24 u25 u26 u27 u28 u29 u30 u31 u32 u33 u34 u35 u36 u37 u38 u39 u40 u41 u42 u43 u44 u45 u46 u47 u48 u49 u50 u51 u52 u53 u54 hq hB'
theorem Bld.alloc {W w : World} {b : Nat} {l : List Value} (h : Bld W b l w) (o : Obj) : Bld W b l (w.alloc o) := by
  have key : ∀ p, BldAt W b p l w → BldAt W b p l (w.alloc o) := fun p h => by
    obtain ⟨v, h1, h2⟩ := h.ex
    have hlt : b < w.heap.size := (Array.getElem?_eq_some_iff.1 h1).1
    exact ⟨⟨h.new, h.os, h.tape, h.oth.trans (Oth.alloc w o), Nat.le_trans h.size (by simp), fun k hk => (Below.heap_alloc w o k (Nat.lt_of_lt_of_le hk h.size)).trans (h.old k hk)⟩, v, (Below.heap_alloc w o b hlt).trans h1, h2.keep fun k _ _ hk => Below.heap_alloc w o k hk⟩
  exact h.imp (key _) (key _)
def PartStr (W : World) (A2 : Option Addr) (P : List (List ByteArray)) : Prop := ∀ q, q < P.length → ∃ g off A cp, A2 = some ⟨g, off, none⟩ ∧ g < W.heap.size ∧ W.cell? ⟨g, off + q, none⟩ = some (.slice A (P.getD q []).length cp) ∧ (P.getD q []).length ≤ cp ∧ RowStr W A (P.getD q [])
def Inv0 (W : World) (b : Nat) (A3 : Option Addr) (cp3 : Nat) (l : List (ByteArray × List (List ByteArray))) (u0 u1 u2 u4 u6 u57 : Value) (a : Act) (w : World) : Prop := ∃ i : Nat, ∃ u5 u7 u8 u9 u10 u14 u15 u16 u17 u18 u19 u20 u21 u22 u23 u24 u25 u26 u27 u28 u29 u30 u31 u32 u33 u34 u35 u36 u37 u38 u39 u40 u41 u42 u43 u44 u45 u46 u47 u48 u49 u50 u51 u52 u53 u54 u55 u56 : Value, i ≤ l.length ∧ Bld W b (Lib.byteCells (wSegs l i)) w ∧ a = ⟨#[u0, u1, u2, pB b, u4, u5, u6, u7, u8, u9, u10, .slice A3 l.length cp3, .int .i64 l.length, .int .i64 (i : Nat), u14, u15, u16, u17, u18, u19, u20, u21, u22, u23, u24, u25, u26, u27, u28, u29, u30, u31, u32, u33, u34, u35, u36, u37, u38, u39, u40, u41, u42, u43, u44, u45, u46, u47, u48, u49, u50, u51, u52, u53, u54, u55, u56, u57], []⟩
def mu13 (n : Nat) (a : Act) (w : World) : Nat := n - (intOf (a.tmps.getD 13 undef)).toNat
set_option maxHeartbeats 4000000 in
set_option maxRecDepth 100000 in
theorem round0 {T : Tbl} (hT : TblOk Try.prog T) (h5 : T.size 5 = 1) (hb5 : T.bytes 5 = 1) {W : World} {b : Nat} {A3 : Option Addr} {cp3 : Nat} {l : List (ByteArray × List (List ByteArray))} (hcp3 : l.length ≤ cp3) (hS : ∀ i, i < l.length → ∃ g off A2 cp2, A3 = some ⟨g, off, none⟩ ∧ g < W.heap.size ∧ W.cell? ⟨g, off + i * 2, none⟩ = some (.string (l.getD i (⟨#[]⟩, [])).1) ∧ W.cell? ⟨g, off + i * 2 + 1, none⟩ = some (.slice A2 (l.getD i (⟨#[]⟩, [])).2.length cp2) ∧ (l.getD i (⟨#[]⟩, [])).2.length ≤ cp2 ∧ PartStr W A2 (l.getD i (⟨#[]⟩, [])).2) (hll : l.length ≤ 1000000000) (hlim0 : ∀ i, i < l.length → (wSegs l i).length + (l.getD i (⟨#[]⟩, [])).1.size ≤ 140000000000000 ∧ (l.getD i (⟨#[]⟩, [])).2.length ≤ 1000000000 ∧ (wSegs l i ++ (l.getD i (⟨#[]⟩, [])).1.data.toList ++ wParts (l.getD i (⟨#[]⟩, [])).2 (l.getD i (⟨#[]⟩, [])).2.length).length ≤ 140000000000000 ∧ ∀ q, q < (l.getD i (⟨#[]⟩, [])).2.length → ((l.getD i (⟨#[]⟩, [])).2.getD q []).length ≤ 1000000000 ∧ ∀ k, k < ((l.getD i (⟨#[]⟩, [])).2.getD q []).length → (wSegs l i ++ (l.getD i (⟨#[]⟩, [])).1.data.toList ++ wParts (l.getD i (⟨#[]⟩, [])).2 q ++ wPartK ((l.getD i (⟨#[]⟩, [])).2.getD q []) k).length + 2 * (((l.getD i (⟨#[]⟩, [])).2.getD q []).getD k ⟨#[]⟩).size + 4 ≤ 140737488355328) {Q : Exit → Act → World → Prop} (u0 u1 u2 u4 u6 u57 : Value)
    (hexit : ∀ (u5 u7 u8 u9 u10 u14 u15 u16 u17 u18 u19 u20 u21 u22 u23 u24 u25 u26 u27 u28 u29 u30 u31 u32 u33 u34 u35 u36 u37 u38 u39 u40 u41 u42 u43 u44 u45 u46 u47 u48 u49 u50 u51 u52 u53 u54 u55 u56 : Value) (i : Nat) (w : World), Bld W b (Lib.byteCells (wSegs l l.length)) w → Q (.exit 0) ⟨#[u0, u1, u2, pB b, u4, u5, u6, u7, u8, u9, u10, .slice A3 l.length cp3, .int .i64 l.length, .int .i64 (i : Nat), u14, u15, u16, u17, u18, u19, u20, u21, u22, u23, u24, u25, u26, u27, u28, u29, u30, u31, u32, u33, u34, u35, u36, u37, u38, u39, u40, u41, u42, u43, u44, u45, u46, u47, u48, u49, u50, u51, u52, u53, u54, u55, u56, u57], []⟩ w) {i : Nat} (u5 u7 u8 u9 u10 u14 u15 u16 u17 u18 u19 u20 u21 u22 u23 u24 u25 u26 u27 u28 u29 u30 u31 u32 u33 u34 u35 u36 u37 u38 u39 u40 u41 u42 u43 u44 u45 u46 u47 u48 u49 u50 u51 u52 u53 u54 u55 u56 : Value) (hi : i ≤ l.length) {w : World} (hB : Bld W b (Lib.byteCells (wSegs l i)) w) :
    Code.wp Try.prog (lbody 0) (Exit.then (fun a' w' => Inv0 W b A3 cp3 l u0 u1 u2 u4 u6 u57 a' w' ∧ mu13 l.length a' w' < mu13 l.length ⟨#[u0, u1, u2, pB b, u4, u5, u6, u7, u8, u9, u10, .slice A3 l.length cp3, .int .i64 l.length, .int .i64 (i : Nat), u14, u15, u16, u17, u18, u19, u20, u21, u22, u23, u24, u25, u26, u27, u28, u29, u30, u31, u32, u33, u34, u35, u36, u37, u38, u39, u40, u41, u42, u43, u44, u45, u46, u47, u48, u49, u50, u51, u52, u53, u54, u55, u56, u57], []⟩ w) Q) ⟨#[u0, u1, u2, pB b, u4, u5, u6, u7, u8, u9, u10, .slice A3 l.length cp3, .int .i64 l.length, .int .i64 (i : Nat), u14, u15, u16, u17, u18, u19, u20, u21, u22, u23, u24, u25, u26, u27, u28, u29, u30, u31, u32, u33, u34, u35, u36, u37, u38, u39, u40, u41, u42, u43, u44, u45, u46, u47, u48, u49, u50, u51, u52, u53, u54, u55, u56, u57], []⟩ w := by
  have e194 : ∀ args w, (callFunc 194 args).run Try.prog w = .ok (.enter 194 args) w := enters_of Try.func194 (by kernel_rfl) rfl
  have e193 : ∀ args w, (callFunc 193 args).run Try.prog w = .ok (.enter 193 args) w := enters_of Try.func193 (by kernel_rfl) rfl
  conv => arg 2; whnf
  by_cases hlt : i < l.length
  · obtain ⟨g, off, A2, cp2, rfl, hg, hc0, hc1, hcp2, hpart⟩ := hS i hlt
    replace hc0 : w.cell? ⟨g, off + i * 2, none⟩ = some (.string (l.getD i (⟨#[]⟩, [])).1) := by rw [hB.base.cell hg]; exact hc0
    replace hc1 : w.cell? ⟨g, off + i * 2 + 1, none⟩ = some (.slice A2 (l.getD i (⟨#[]⟩, [])).2.length cp2) := by rw [hB.base.cell hg]; exact hc1
    obtain ⟨hl1, hPl, hl2, hl3⟩ := hlim0 i hlt
    have hs : wSegs l (i + 1) = wSegs l i ++ (l.getD i (⟨#[]⟩, [])).1.data.toList ++ wParts (l.getD i (⟨#[]⟩, [])).2 (l.getD i (⟨#[]⟩, [])).2.length ++ [39] := rfl
    have HSS := Lib.hid hS
    have HL := Lib.hid hlim0
    have HE := Lib.hid hexit
    clear hS hlim0 hexit
    generalize (l.getD i (⟨#[]⟩, [])).1 = tag at hc0 hs hl1 hl2 hl3
    generalize (l.getD i (⟨#[]⟩, [])).2 = P at hc1 hcp2 hpart hs hPl hl2 hl3
    have HS := Lib.hid hs
    have HP := Lib.hid hpart
    have HL3 := Lib.hid hl3
    clear hs hpart hl3
    have t9 := Try.underlying9; have a9 := Try.isAgg9; have z9 := Try.sizeOf9; have v9 := Try.zeroValue9; have u9 := run_underlying t9
    have t98 := Try.underlying98; have a98 := Try.isAgg98; have z98 := Try.sizeOf98; have v98 := Try.zeroValue98; have u98 := run_underlying t98
    have t100 := Try.underlying100; have a100 := Try.isAgg100; have z100 := Try.sizeOf100; have v100 := Try.zeroValue100; have u100 := run_underlying t100
    have t89 := Try.underlying89; have a89 := Try.isAgg89; have z89 := Try.sizeOf89; have v89 := Try.zeroValue89; have u89 := run_underlying t89
    have H1 : (Lib.byteCells (wSegs l i)).length + tag.size ≤ 140737488355328 := by rw [Lib.byteCells_length]; omega
    have hbs : ∀ p v, w.heap[b]? = some (.cells #[p, v] 209 (0, 0)) → b < w.heap.size := fun p v e => (Array.getElem?_eq_some_iff.1 e).1
    have hbw : b < w.heap.size := by
      rcases hB with h | h <;> (obtain ⟨v, e, _⟩ := h.ex; exact hbs _ _ e)
    clear hbs
    have hBa := hB.alloc (.cells #[.string tag, .slice A2 P.length cp2] 100)
    clear hB
    go_wp2_with fail
    refine (wstr_ok hT h5 hb5 hBa H1).mono ?_
    rintro _ w1 ⟨rfl, h1, hk1⟩
    have hd1 : w1.cell? ⟨w.heap.size, 1, none⟩ = some (.slice A2 P.length cp2) := by
      have e : (w.alloc (.cells #[.string tag, .slice A2 P.length cp2] 100)).heap[w.heap.size]? = some (.cells #[.string tag, .slice A2 P.length cp2] 100 (0, 0)) := heap_alloc_new w _
      have := hk1 w.heap.size (by simp) (by omega) (fun cs e2 => by rw [e] at e2; cases e2)
      rw [e] at this
      simp [World.cell?, this]
    have hB1 : Bld W b (Lib.byteCells (wSegs l i ++ tag.data.toList)) w1 := by
      have e : Lib.byteCells (wSegs l i) ++ byteCells tag = Lib.byteCells (wSegs l i ++ tag.data.toList) := by simp [Lib.byteCells, byteCells]
      rw [← e]; exact .inr h1
    clear h1 hk1 hBa H1 hc0 hc1 hbw
    go_wp2_with (refine loop2 hT h5 hb5 hcp2 HP.out hPl HL3.out _ _ _ _ _ _ _ _ _ _ _ _ _ _ _ _ _ _ _ ?_ _ _ _ _ _ _ _ _ _ _ _ _ _ _ _ _ _ _ _ _ _ _ _ _ _ _ _ _ _ _ _ _ _ _ _ hB1)
    intro x7 x8 x9 x10 x24 x25 x26 x27 x28 x29 x30 x31 x32 x33 x34 x35 x36 x37 x38 x39 x40 x41 x42 x43 x44 x45 x46 x47 x48 x49 x50 x51 x52 x53 x54 q w2 hB2'
    have hB2 : Bld W b (Lib.byteCells (wSegs l i ++ tag.data.toList ++ wParts P P.length)) w2 := by first | exact hB2' | (rw [List.append_assoc]; exact hB2')
    clear hB2'
    have H2 : (Lib.byteCells (wSegs l i ++ tag.data.toList ++ wParts P P.length)).length + 1 ≤ 140737488355328 := by rw [Lib.byteCells_length]; omega
    clear hB1
    go_wp2_with fail
    refine (wbyte_ok (c := 39) hT h5 hb5 hB2 H2).mono ?_
    rintro _ w3 ⟨rfl, h3⟩
    have hB3 : Bld W b (Lib.byteCells (wSegs l (i + 1))) w3 := by
      rw [HS.out, ← bytes_app]; exact .inr h3
    clear h3 hB2 H2
    go_wp2_with fail
    refine ⟨?_, by simp [mu13, intOf]; omega⟩
    unfold Inv0
    exact ⟨i + 1, _, _, _, _, _, _, _, _, _, _, _, _, _, _, _, _, _, _, _, _, _, _, _, _, _, _, _, _, _, _, _, _, _, _, _, _, _, _, _, _, _, _, _, _, _, _, _, _, by omega, hB3, rfl⟩
  · have hkr : i = l.length := by omega
    subst hkr
    have HE := Lib.hid hexit
    clear hexit hS hlim0 hlt hi
    go_wp2_with fail
    exact HE.out _ _ _ _ _ _ _ _ _ _ _ _ _ _ _ _ _ _ _ _ _ _ _ _ _ _ _ _ _ _ _ _ _ _ _ _ _ _ _ _ _ _ _ _ _ _ _ _ _ w hB

theorem loop0 {T : Tbl} (hT : TblOk Try.prog T) (h5 : T.size 5 = 1) (hb5 : T.bytes 5 = 1) {W : World} {b : Nat} {A3 : Option Addr} {cp3 : Nat} {l : List (ByteArray × List (List ByteArray))} (hcp3 : l.length ≤ cp3) (hS : ∀ i, i < l.length → ∃ g off A2 cp2, A3 = some ⟨g, off, none⟩ ∧ g < W.heap.size ∧ W.cell? ⟨g, off + i * 2, none⟩ = some (.string (l.getD i (⟨#[]⟩, [])).1) ∧ W.cell? ⟨g, off + i * 2 + 1, none⟩ = some (.slice A2 (l.getD i (⟨#[]⟩, [])).2.length cp2) ∧ (l.getD i (⟨#[]⟩, [])).2.length ≤ cp2 ∧ PartStr W A2 (l.getD i (⟨#[]⟩, [])).2) (hll : l.length ≤ 1000000000) (hlim0 : ∀ i, i < l.length → (wSegs l i).length + (l.getD i (⟨#[]⟩, [])).1.size ≤ 140000000000000 ∧ (l.getD i (⟨#[]⟩, [])).2.length ≤ 1000000000 ∧ (wSegs l i ++ (l.getD i (⟨#[]⟩, [])).1.data.toList ++ wParts (l.getD i (⟨#[]⟩, [])).2 (l.getD i (⟨#[]⟩, [])).2.length).length ≤ 140000000000000 ∧ ∀ q, q < (l.getD i (⟨#[]⟩, [])).2.length → ((l.getD i (⟨#[]⟩, [])).2.getD q []).length ≤ 1000000000 ∧ ∀ k, k < ((l.getD i (⟨#[]⟩, [])).2.getD q []).length → (wSegs l i ++ (l.getD i (⟨#[]⟩, [])).1.data.toList ++ wParts (l.getD i (⟨#[]⟩, [])).2 q ++ wPartK ((l.getD i (⟨#[]⟩, [])).2.getD q []) k).length + 2 * (((l.getD i (⟨#[]⟩, [])).2.getD q []).getD k ⟨#[]⟩).size + 4 ≤ 140737488355328) {Q : Exit → Act → World → Prop} (u0 u1 u2 u4 u6 u57 : Value)
    (hexit : ∀ (u5 u7 u8 u9 u10 u14 u15 u16 u17 u18 u19 u20 u21 u22 u23 u24 u25 u26 u27 u28 u29 u30 u31 u32 u33 u34 u35 u36 u37 u38 u39 u40 u41 u42 u43 u44 u45 u46 u47 u48 u49 u50 u51 u52 u53 u54 u55 u56 : Value) (i : Nat) (w : World), Bld W b (Lib.byteCells (wSegs l l.length)) w → Q (.exit 0) ⟨#[u0, u1, u2, pB b, u4, u5, u6, u7, u8, u9, u10, .slice A3 l.length cp3, .int .i64 l.length, .int .i64 (i : Nat), u14, u15, u16, u17, u18, u19, u20, u21, u22, u23, u24, u25, u26, u27, u28, u29, u30, u31, u32, u33, u34, u35, u36, u37, u38, u39, u40, u41, u42, u43, u44, u45, u46, u47, u48, u49, u50, u51, u52, u53, u54, u55, u56, u57], []⟩ w) (u5 u7 u8 u9 u10 u14 u15 u16 u17 u18 u19 u20 u21 u22 u23 u24 u25 u26 u27 u28 u29 u30 u31 u32 u33 u34 u35 u36 u37 u38 u39 u40 u41 u42 u43 u44 u45 u46 u47 u48 u49 u50 u51 u52 u53 u54 u55 u56 : Value) {w : World} (hB : Bld W b [] w) :
    Code.wp Try.prog (Code.loop (lbody 0)) Q ⟨#[u0, u1, u2, pB b, u4, u5, u6, u7, u8, u9, u10, .slice A3 l.length cp3, .int .i64 l.length, .int .i64 0, u14, u15, u16, u17, u18, u19, u20, u21, u22, u23, u24, u25, u26, u27, u28, u29, u30, u31, u32, u33, u34, u35, u36, u37, u38, u39, u40, u41, u42, u43, u44, u45, u46, u47, u48, u49, u50, u51, u52, u53, u54, u55, u56, u57], []⟩ w := by
  refine wp_loop (Inv0 W b A3 cp3 l u0 u1 u2 u4 u6 u57) (mu13 l.length) ⟨0, u5, u7, u8, u9, u10, u14, u15, u16, u17, u18, u19, u20, u21, u22, u23, u24, u25, u26, u27, u28, u29, u30, u31, u32, u33, u34, u35, u36, u37, u38, u39, u40, u41, u42, u43, u44, u45, u46, u47, u48, u49, u50, u51, u52, u53, u54, u55, u56, Nat.zero_le _, hB, rfl⟩ (fun a w' hI => ?_)
  obtain ⟨i, u5, u7, u8, u9, u10, u14, u15, u16, u17, u18, u19, u20, u21, u22, u23, u24, u25, u26, u27, u28, u29, u30, u31, u32, u33, u34, u35, u36, u37, u38, u39, u40, u41, u42, u43, u44, u45, u46, u47, u48, u49, u50, u51, u52, u53, u54, u55, u56, hi, hB', rfl⟩ := hI
  exact round0 hT h5 hb5 hcp3 hS hll hlim0 u0 u1 u2 u4 u6 u57 hexit u5 u7 u8 u9 u10 u14 u15 u16 u17 u18 u19 u20 u21 u22 u23 u24 u25 u26 u27 u28 u29 u30 u31 u32 u33 u34 u35 u36 u37 u38 u39 u40 u41 u42 u43 u44 u45 u46 u47 u48 u49 u50 u51 u52 u53 u54 u55 u56 hi hB'
def Fin (W w : World) : Prop := w.os = W.os ∧ w.tape = W.tape ∧ Oth W w ∧ W.heap.size ≤ w.heap.size ∧ ∀ k, k < W.heap.size → w.heap[k]? = W.heap[k]?
set_option maxHeartbeats 4000000 in
set_option maxRecDepth 100000 in
theorem written_walk {T : Tbl} (hT : TblOk Try.prog T) (h5 : T.size 5 = 1) (hb5 : T.bytes 5 = 1) {W : World} {A3 : Option Addr} {cp3 : Nat} {l : List (ByteArray × List (List ByteArray))} (hcp3 : l.length ≤ cp3) (hS : ∀ i, i < l.length → ∃ g off A2 cp2, A3 = some ⟨g, off, none⟩ ∧ g < W.heap.size ∧ W.cell? ⟨g, off + i * 2, none⟩ = some (.string (l.getD i (⟨#[]⟩, [])).1) ∧ W.cell? ⟨g, off + i * 2 + 1, none⟩ = some (.slice A2 (l.getD i (⟨#[]⟩, [])).2.length cp2) ∧ (l.getD i (⟨#[]⟩, [])).2.length ≤ cp2 ∧ PartStr W A2 (l.getD i (⟨#[]⟩, [])).2) (hll : l.length ≤ 1000000000) (hlim0 : ∀ i, i < l.length → (wSegs l i).length + (l.getD i (⟨#[]⟩, [])).1.size ≤ 140000000000000 ∧ (l.getD i (⟨#[]⟩, [])).2.length ≤ 1000000000 ∧ (wSegs l i ++ (l.getD i (⟨#[]⟩, [])).1.data.toList ++ wParts (l.getD i (⟨#[]⟩, [])).2 (l.getD i (⟨#[]⟩, [])).2.length).length ≤ 140000000000000 ∧ ∀ q, q < (l.getD i (⟨#[]⟩, [])).2.length → ((l.getD i (⟨#[]⟩, [])).2.getD q []).length ≤ 1000000000 ∧ ∀ k, k < ((l.getD i (⟨#[]⟩, [])).2.getD q []).length → (wSegs l i ++ (l.getD i (⟨#[]⟩, [])).1.data.toList ++ wParts (l.getD i (⟨#[]⟩, [])).2 q ++ wPartK ((l.getD i (⟨#[]⟩, [])).2.getD q []) k).length + 2 * (((l.getD i (⟨#[]⟩, [])).2.getD q []).getD k ⟨#[]⟩).size + 4 ≤ 140737488355328) (hmax : (wSegs l l.length).length ≤ 140737488355328) :
    Calls Try.prog 149 #[.slice A3 l.length cp3] W fun e w' => e = .returned (.string ⟨(wSegs l l.length).toArray⟩) ∧ Fin W w' := by
  have e195 : ∀ args w, (callFunc 195 args).run Try.prog w = .ok (.enter 195 args) w := enters_of Try.func195 (by kernel_rfl) rfl
  have t72 := Try.underlying209; have a72 := Try.isAgg209; have z72 := Try.sizeOf209; have v72 := Try.zeroValue209; have u72 := run_underlying t72
  have t89 := Try.underlying89; have a89 := Try.isAgg89; have z89 := Try.sizeOf89; have v89 := Try.zeroValue89; have u89 := run_underlying t89
  have hn : Try.f149.ntmps = 58 := by rfl
  have HS := Lib.hid hS
  have HL := Lib.hid hlim0
  clear hS hlim0
  have hB : Bld W W.heap.size [] (W.alloc (.cells #[.pointer none, .slice none 0 0] 209)) := by
    refine .inl ⟨⟨Nat.le_refl _, rfl, rfl, Oth.alloc W _, by simp, fun k hk => Below.heap_alloc W _ k hk⟩, .slice none 0 0, heap_alloc_new W _, ⟨none, 0, rfl, Nat.le_refl _, fun _ => rfl, fun h => absurd h (Nat.lt_irrefl _)⟩, fun _ => rfl⟩
  go_enter Try.func149, hn
  go_wp2_with (refine loop0 hT h5 hb5 hcp3 HS.out hll HL.out _ _ _ _ _ _ ?_ _ _ _ _ _ _ _ _ _ _ _ _ _ _ _ _ _ _ _ _ _ _ _ _ _ _ _ _ _ _ _ _ _ _ _ _ _ _ _ _ _ _ _ _ _ _ _ _ hB)
  intro x5 x7 x8 x9 x10 x14 x15 x16 x17 x18 x19 x20 x21 x22 x23 x24 x25 x26 x27 x28 x29 x30 x31 x32 x33 x34 x35 x36 x37 x38 x39 x40 x41 x42 x43 x44 x45 x46 x47 x48 x49 x50 x51 x52 x53 x54 x55 x56 i w2 hB2
  clear hB
  go_wp2_with fail
  refine (str_ok hB2 hmax).mono ?_
  rintro _ w3 ⟨rfl, h3⟩
  clear hB2
  go_wp2_with fail
  go_ret
  exact ⟨rfl, h3.os, h3.tape, h3.oth, h3.size, h3.old⟩
end Go.Sm
end

section
set_option linter.unusedVariables false
namespace Go.Sm
open Go Go.Proofs
/-- What the walk asks of the lengths. -/
theorem lims {l : List (ByteArray × List (List ByteArray))} (hN : (wSegs l l.length).length ≤ 1000000000) (hP : ∀ i, i < l.length → (l.getD i (⟨#[]⟩, [])).2.length ≤ 1000000) :
    ∀ i, i < l.length → (wSegs l i).length + (l.getD i (⟨#[]⟩, [])).1.size ≤ 140000000000000 ∧ (l.getD i (⟨#[]⟩, [])).2.length ≤ 1000000000 ∧ (wSegs l i ++ (l.getD i (⟨#[]⟩, [])).1.data.toList ++ wParts (l.getD i (⟨#[]⟩, [])).2 (l.getD i (⟨#[]⟩, [])).2.length).length ≤ 140000000000000 ∧ ∀ q, q < (l.getD i (⟨#[]⟩, [])).2.length → ((l.getD i (⟨#[]⟩, [])).2.getD q []).length ≤ 1000000000 ∧ ∀ k, k < ((l.getD i (⟨#[]⟩, [])).2.getD q []).length → (wSegs l i ++ (l.getD i (⟨#[]⟩, [])).1.data.toList ++ wParts (l.getD i (⟨#[]⟩, [])).2 q ++ wPartK ((l.getD i (⟨#[]⟩, [])).2.getD q []) k).length + 2 * (((l.getD i (⟨#[]⟩, [])).2.getD q []).getD k ⟨#[]⟩).size + 4 ≤ 140737488355328 ∧ (((l.getD i (⟨#[]⟩, [])).2.getD q []).getD k ⟨#[]⟩).size ≤ 1000000000 := by
  intro i hi
  have h1 := len_step (wSegs_step l) hi
  have h2 := hP i hi
  generalize (l.getD i (⟨#[]⟩, [])).1 = tag at *
  generalize (l.getD i (⟨#[]⟩, [])).2 = P at *
  have et : tag.data.toList.length = tag.size := by simp
  rw [List.length_append, List.length_append, et] at h1
  refine ⟨by omega, by omega, by rw [List.length_append, List.length_append, et]; omega, fun q hq => ?_⟩
  have h3 := len_step (wParts_step P) hq
  generalize P.getD q [] = r at *
  have h4 := wPartK_ge r r.length
  refine ⟨by omega, fun k hk => ?_⟩
  have h5 := len_step (wPartK_step r) hk
  have h6 := wText_len (if k = 0 then 43 else 58) (r.getD k ⟨#[]⟩)
  refine ⟨?_, by omega⟩
  rw [List.length_append, List.length_append, List.length_append, et]
  omega
end Go.Sm
end

section
set_option linter.unusedVariables false
namespace Go.Sm
open Go Go.Proofs
section
variable {T : Tbl} {w : World} {K : Nat → Prop}
theorem repStr {s : ByteArray} {v : Value} (h : RepD T w K (.str s) v) : v = .string s := by cases h; rfl
theorem rowStr_of {ts : Nat} (h1 : T.size ts = 1) {gs : T.U ts → ByteArray} (hs : ∀ t, T.dget ts t = [.str (gs t)]) (hK : ∀ b, K b → b < w.heap.size) {r : List (T.U ts)} {v : Value} (h : RepD T w K (.arr ts r) v) (hsz : ∀ k, k < r.length → ((r.map gs).getD k ⟨#[]⟩).size ≤ 1000000000) :
    ∃ A c, v = .slice A (r.map gs).length c ∧ (r.map gs).length ≤ c ∧ RowStr w A (r.map gs) := by
  obtain ⟨A, c, vals, rfl, k1, k2, k3, k4⟩ := h.arr_inv
  refine ⟨A, c, by rw [List.length_map], by rw [List.length_map]; exact k1, fun k hk => ?_⟩
  rw [List.length_map] at hk
  have hrow : (row T ts r k)[0]? = some (.str (gs r[k])) := by
    unfold row
    rw [List.getD_eq_getElem?_getD, List.getElem?_eq_getElem hk, Option.getD_some, hs]; rfl
  obtain ⟨b, off, rfl, e1, e2⟩ := k3 k 0 _ hk hrow
  have e3 := repStr (k4 k 0 _ hk hrow)
  have hg : (r.map gs).getD k ⟨#[]⟩ = gs r[k] := by rw [List.getD_eq_getElem?_getD, List.getElem?_eq_getElem (by rw [List.length_map]; exact hk)]; simp
  refine ⟨b, off, rfl, hK b e1, ?_, hsz k hk⟩
  rw [h1, Nat.mul_one, Nat.add_zero, e3] at e2
  rw [hg]; exact e2
theorem partStr_of {tp ts : Nat} (hp1 : T.size tp = 1) (h1 : T.size ts = 1) {gp : T.U tp → List (T.U ts)} {gs : T.U ts → ByteArray} (hp : ∀ r, T.dget tp r = [.arr ts (gp r)]) (hs : ∀ t, T.dget ts t = [.str (gs t)]) (hK : ∀ b, K b → b < w.heap.size) {P : List (T.U tp)} {v : Value} (h : RepD T w K (.arr tp P) v)
    (hsz : ∀ q, q < P.length → ∀ k, k < (((P.map fun r => (gp r).map gs)).getD q []).length → ((((P.map fun r => (gp r).map gs)).getD q []).getD k ⟨#[]⟩).size ≤ 1000000000) :
    ∃ A c, v = .slice A (P.map fun r => (gp r).map gs).length c ∧ (P.map fun r => (gp r).map gs).length ≤ c ∧ PartStr w A (P.map fun r => (gp r).map gs) := by
  obtain ⟨A, c, vals, rfl, k1, k2, k3, k4⟩ := h.arr_inv
  refine ⟨A, c, by rw [List.length_map], by rw [List.length_map]; exact k1, fun q hq => ?_⟩
  rw [List.length_map] at hq
  have hrow : (row T tp P q)[0]? = some (.arr ts (gp P[q])) := by
    unfold row
    rw [List.getD_eq_getElem?_getD, List.getElem?_eq_getElem hq, Option.getD_some, hp]; rfl
  obtain ⟨b, off, rfl, e1, e2⟩ := k3 q 0 _ hq hrow
  have hg : (P.map fun r => (gp r).map gs).getD q [] = (gp P[q]).map gs := by rw [List.getD_eq_getElem?_getD, List.getElem?_eq_getElem (by rw [List.length_map]; exact hq)]; simp
  have hsz' := hsz q hq
  rw [hg] at hsz'
  obtain ⟨A', c', f1, f2, f3⟩ := rowStr_of h1 hs hK (k4 q 0 _ hq hrow) (fun k hk => hsz' k (by rw [List.length_map]; exact hk))
  refine ⟨b, off, A', c', rfl, hK b e1, ?_, ?_, ?_⟩
  · rw [hp1, Nat.mul_one, Nat.add_zero, f1] at e2
    rw [hg]; exact e2
  · rw [hg]; exact f2
  · rw [hg]; exact f3
theorem wrote_call (hT : TblOk Try.prog T) {e tp ts : Nat} (tag : T.U e → ByteArray) (ps : T.U e → List (T.U tp)) (gp : T.U tp → List (T.U ts)) (gs : T.U ts → ByteArray) (hd : ∀ x, T.dget e x = [.str (tag x), .arr tp (ps x)]) (hp : ∀ r, T.dget tp r = [.arr ts (gp r)]) (hs : ∀ t, T.dget ts t = [.str (gs t)])
    (he2 : T.size e = 2) (hp1 : T.size tp = 1) (hs1 : T.size ts = 1) (h5 : T.size 5 = 1) (hb5 : T.bytes 5 = 1) (hm : (T.sg 149).modes = [.ro]) (hrk : (T.sg 149).rk = .own) {l0 : List (T.U e)} {y : ByteArray}
    (h : wroteO tag (fun x => (ps x).map fun r => (gp r).map gs) l0 = some y) : CallOk Try.prog T 149 [.val false [.arr e l0]] ⟨[.val false [.str y]], []⟩ := by
  refine ⟨fun args w => enters_of Try.func149 (by kernel_rfl) rfl args w, fun w K M vs ha _ hMK hlt => ?_⟩
  rw [hm] at ha
  cases ha with
  | rw hx _ _ => exact hx.elim
  | @ro _ _ _ _ _ v ha1 ha2 =>
    cases ha2
    have hK : ∀ b, K b → b < w.heap.size := fun b hb => hlt b (.inr hb)
    have hrep : RepD T w K (.arr e l0) v := ha1.2 0 _ _ rfl rfl
    unfold wroteO at h
    cases hc : (decide ((wroteL tag (fun x => (ps x).map fun r => (gp r).map gs) l0).length ≤ 1000000000) && l0.all (fun s => decide (((fun x => (ps x).map fun r => (gp r).map gs) s).length ≤ 1000000))) with
    | false => rw [hc] at h; cases h
    | true =>
      rw [hc, cond_true, Option.some.injEq] at h
      simp only [Bool.and_eq_true, decide_eq_true_eq, List.all_eq_true] at hc
      have hsegs := wSegs_eq tag (fun x => (ps x).map fun r => (gp r).map gs) l0
      obtain ⟨hc1, hc2⟩ := hc
      rw [← hsegs] at hc1 h
      generalize hL : (l0.map fun s => (tag s, (ps s).map fun r => (gp r).map gs)) = L at *
      have hLl : L.length = l0.length := by rw [← hL, List.length_map]
      have hget : ∀ i (hi : i < l0.length), L.getD i (⟨#[]⟩, []) = (tag l0[i], (ps l0[i]).map fun r => (gp r).map gs) := fun i hi => by
        rw [← hL, List.getD_eq_getElem?_getD, List.getElem?_eq_getElem (by rw [List.length_map]; exact hi)]; simp
      have hlims := lims hc1 (fun i hi => by rw [hget i (by omega)]; exact hc2 _ (List.getElem_mem _))
      obtain ⟨A, c, vals, rfl, k1, k2, k3, k4⟩ := hrep.arr_inv
      have hge := wSegs_ge L L.length
      have hwalk := written_walk (W := w) (A3 := A) (cp3 := c) (l := L) hT h5 hb5 (by omega) (fun i hi => by
        rw [hLl] at hi
        have r0 : (row T e l0 i)[0]? = some (.str (tag l0[i])) := by
          unfold row; rw [List.getD_eq_getElem?_getD, List.getElem?_eq_getElem hi, Option.getD_some, hd]; rfl
        have r1 : (row T e l0 i)[1]? = some (.arr tp (ps l0[i])) := by
          unfold row; rw [List.getD_eq_getElem?_getD, List.getElem?_eq_getElem hi, Option.getD_some, hd]; rfl
        obtain ⟨b, off, rfl, e1, e2⟩ := k3 i 0 _ hi r0
        obtain ⟨b', off', f0, f1, f2⟩ := k3 i 1 _ hi r1
        simp only [Option.some.injEq, Addr.mk.injEq] at f0
        obtain ⟨rfl, rfl, _⟩ := f0
        have hl := (hlims i (by omega)).2.2.2
        rw [hget i hi] at hl
        obtain ⟨A2, c2, g1, g2, g3⟩ := partStr_of hp1 hs1 hp hs hK (k4 i 1 _ hi r1) (fun q hq k hk => ((hl q (by rw [List.length_map]; exact hq)).2 k hk).2)
        have hst := repStr (k4 i 0 _ hi r0)
        refine ⟨b, off, A2, c2, rfl, hK b e1, ?_, ?_, ?_, ?_⟩
        · rw [he2, Nat.add_zero, hst] at e2; rw [hget i hi]; exact e2
        · rw [he2, g1] at f2; rw [hget i hi]; exact f2
        · rw [hget i hi]; exact g2
        · rw [hget i hi]; exact g3) (by omega) (fun i hi => by
        obtain ⟨a1, a2, a3, a4⟩ := hlims i hi
        exact ⟨a1, a2, a3, fun q hq => ⟨(a4 q hq).1, fun k hk => ((a4 q hq).2 k hk).1⟩⟩) (by omega)
      rw [hLl] at hwalk
      refine hwalk.mono ?_
      rintro e' w' ⟨rfl, q1, q2, q3, q4, q5⟩
      refine ⟨_, rfl, ⟨⟨K, fun b => (fun _ => False) b ∨ (fun _ => False) b, fun _ => False, [.string y], ?_, ?_, ?_, fun _ h => h.elim (fun x => x.elim) fun x => x.elim, fun b hb => hb.elim (fun h => h.elim (fun x => x.elim) fun x => x.elim) fun h => h.elim, fun _ h => h, fun b hb => ⟨Nat.lt_of_lt_of_le (hK b hb) q4, .inl hb⟩⟩, q4, q1, q2, q3, fun b hb _ => q5 b hb⟩⟩
      · rw [← h, hLl]; rfl
      · rw [hrk]
        refine .cons ?_ .nil (fun _ h => h.elim)
        refine ⟨rfl, fun _ _ => False, fun j d v hj hv => ?_, fun _ _ h => h.elim, fun _ _ _ h => h.elim⟩
        cases j with
        | succ j => cases hj
        | zero => cases hj; cases hv; exact .str _ _
      · rw [hm]; exact .ro .nil
end
end Go.Sm
end
