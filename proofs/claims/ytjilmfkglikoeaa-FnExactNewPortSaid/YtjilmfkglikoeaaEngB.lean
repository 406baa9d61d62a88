import Derived.Test.YtjilmfkglikoeaaEngA
import Derived.MapKept
/- An evaluator over data for the code of the program, and its law: what it computes is what the model computes. Part 2 of 4. -/
section
set_option linter.unusedSimpArgs false
set_option linter.deprecated false
set_option linter.unusedSectionVars false
set_option linter.unusedVariables false
namespace Go.Sm
variable {T : Tbl} {α : Type}
section
variable {Ok : Nat → List (A T) → Res T → Prop} {s s' : St T} {a : α} {P : Program} {e e' : Env} {w w' W0 : World} {M0 : Gh} {tm : Array Value}

theorem run_listMapM {β γ : Type} (f : β → Sem γ) (g : β → γ) (w : World) : ∀ (l : List β), (∀ x ∈ l, (f x).run P w = .ok (g x) w) → (l.mapM f).run P w = .ok (l.map g) w
  | [], _ => by simp
  | x :: l, h => by
    have ih := run_listMapM f g w l fun y hy => h y (by simp [hy])
    simp only [List.mapM_cons, Sem.run_bind, h x (by simp), Result.andThen_ok, ih, Sem.run_pure, List.map_cons]
theorem run_arrMapM {β γ : Type} (f : β → Sem γ) (g : β → γ) (w : World) (l : Array β) (h : ∀ x ∈ l.toList, (f x).run P w = .ok (g x) w) : (l.mapM f).run P w = .ok (l.map g) w := by
  rw [← Array.toArray_toList (xs := l), List.mapM_toArray]
  simp only [Sem.run_map, run_listMapM f g w _ h, Result.andThen_ok]
  congr 1
  apply Array.toList_inj.1
  simp
theorem buildM_ok (hT : TblOk P T) (hR : Rel e s tm w) {ds : List Deferred} {t : Nat} {ps : Array (Nat × Operand)} {k : V T → M T α} (h : Rn Ok (buildM t ps.toList k) s a s') :
    ∃ v val, Rn Ok (k v) s a s' ∧ RelV e s w v val ∧ (Instr.build t (ps.map fun (i, x) => (i, Act.eval ⟨tm, ds⟩ x))).run P w = .ok val w := by
  unfold buildM at h
  split at h
  · rename_i fs z hty hz
    obtain ⟨fields, g1, hfs, g2⟩ := hT.struct t _ hty
    subst hfs
    have hX := rn_cond h
    clear h
    obtain ⟨h0, h⟩ := hX
    have hX := rn_partsM (ds := ds) hR h
    clear h
    obtain ⟨vs, h, h1⟩ := hX
    have hX := fillM_ok h1 (toCs_rel hz) h
    clear h
    obtain ⟨cs', vs', h, h2, h3⟩ := hX
    obtain ⟨zv, k1, k2⟩ := run_zeroValue hT (nble h0) w
    refine ⟨_, _, h, ⟨vs', rfl, h2⟩, ?_⟩
    have hm := run_arrMapM (P := P) (fun f : Field => do pure (f.offset, ← sizeOf f.type)) (fun f => (f.offset, T.size f.type)) w fields fun f hf => by
      simp [run_size hT (g2 f hf).1]
    unfold Instr.build
    simp only [Sem.run_bind, k1, Result.andThen_ok, run_underlying g1, hm, k2]
    rw [show ((fields.map fun f => (f.offset, T.size f.type))[·]? : Nat → Option (Nat × Nat)) = (fun i => ((fields.toList.map fun f => (f.offset, f.type))[i]?).map fun f => (f.1, T.size f.2)) from by
      funext i
      simp only [Array.getElem?_map, List.getElem?_map, Option.map_map, Array.getElem?_toList]
      rfl]
    rw [show (ps.map fun (x : Nat × Operand) => (x.1, Act.eval ⟨tm, ds⟩ x.2)).toList = ps.toList.map fun x => (x.1, Act.eval ⟨tm, ds⟩ x.2) from by simp]
    rw [h3]
    rfl
  · rename_i n el z hty hz
    obtain ⟨h0, h⟩ := rn_cond h
    simp only [Bool.and_eq_true] at h0
    obtain ⟨vs, h, h1⟩ := rn_partsM (ds := ds) hR h
    obtain ⟨cs', vs', h, h2, h3⟩ := fillM_ok h1 (toCs_rel hz) h
    obtain ⟨zv, k1, k2⟩ := run_zeroValue hT (nble h0.1) w
    refine ⟨_, _, h, ⟨vs', rfl, h2⟩, ?_⟩
    unfold Instr.build
    simp only [Sem.run_bind, k1, Result.andThen_ok, run_underlying (hT.arr _ _ _ hty), run_size hT (nble h0.2), k2]
    rw [show (ps.map fun (x : Nat × Operand) => (x.1, Act.eval ⟨tm, ds⟩ x.2)).toList = ps.toList.map fun x => (x.1, Act.eval ⟨tm, ds⟩ x.2) from by simp]
    rw [h3]
    rfl
  · exact (rn_fail h).elim

/-! ### Literals of slices -/
theorem elemOf_ok (hT : TblOk P T) (hG : Good W0 M0 e s tm w) {S0 : Nat → Prop} (hS : Loose W0 M0 e w S0) {el : Nat} {v : V T} {u : Value} (hv : RelV e s w v u) {k : T.U el → Bool → M T α} (h : Rn Ok (elemOf el v k) s a s') :
    ∃ (x : T.U el) (own : Bool) (s1 : St T) (e1 : Env) (S1 : Nat → Prop) (F : Nat → Nat → Prop), Rn Ok (k x own) s1 a s' ∧ Good W0 M0 e1 s1 tm w ∧ Keeps e s w e1 s1 w ∧ Loose W0 M0 e1 w (fun b => S0 b ∨ S1 b) ∧ (∀ b, S0 b → ¬ S1 b) ∧ e1.K = e.K ∧ s1.regs = s.regs ∧
      Moved T w e.K (T.dget el x) u.cells.toList own F ∧ (∀ j b, F j b → S1 b) ∧ (∀ i j b, F i b → F j b → i = j) ∧ u.cells.size = T.size el := by
  unfold elemOf at h
  split at h
  · rename_i cs hcs
    obtain ⟨hl, h⟩ := rn_cond h
    have hc := RelV.cells hv hcs
    obtain ⟨ds, own, s1, e1, S1, F, h, g1, g2, g3, g4, g5, g6, g7, g8, g9, g10, g11, g12, g13⟩ := moveCs_ok hG hS hc h
    split at h
    · rename_i x hx
      have := hT.get _ _ _ hx
      replace g11 := g11.fix el
      rw [← this] at g11
      exact ⟨x, own, s1, e1, S1, F, h, g1, g2, g3, g4, g5, g6, g11, g12, g13, by rw [← Array.length_toList, hc.1, nbeq hl]⟩
    · exact (rn_fail h).elim
  · exact (rn_fail h).elim
theorem elemsOf_ok (hT : TblOk P T) {el : Nat} : ∀ {ps : List (Nat × V T)} {qs : List (Nat × Value)} {n : Nat} {e : Env} {s : St T} (hG : Good W0 M0 e s tm w) {S0 : Nat → Prop} (hS : Loose W0 M0 e w S0) (hp : RelP e s w ps qs) {k : List (T.U el) → Bool → M T α},
    Rn Ok (elemsOf el ps n k) s a s' →
    ∃ (xs : List (T.U el)) (own : Bool) (s1 : St T) (e1 : Env) (S1 : Nat → Prop) (F : Nat → Nat → Nat → Prop), Rn Ok (k xs own) s1 a s' ∧ Good W0 M0 e1 s1 tm w ∧ Keeps e s w e1 s1 w ∧ Loose W0 M0 e1 w (fun b => S0 b ∨ S1 b) ∧ (∀ b, S0 b → ¬ S1 b) ∧ e1.K = e.K ∧ s1.regs = s.regs ∧
      xs.length = qs.length ∧ (∀ i q, qs[i]? = some q → q.1 = n + i ∧ q.2.cells.size = T.size el) ∧ (∀ (i : Nat) (x : T.U el) (q : Nat × Value), xs[i]? = some x → qs[i]? = some q → Moved T w e.K (T.dget el x) q.2.cells.toList own (F i)) ∧
      (∀ i j b, F i j b → S1 b) ∧ (∀ i j i' j' b, F i j b → F i' j' b → i = i' ∧ j = j')
  | [], [], n, e, s, hG, S0, hS, hp, k, h => ⟨[], true, s, e, fun _ => False, fun _ _ _ => False, h, hG, .refl, ⟨fun b hb => hS.notK b (hb.resolve_right id), fun r b hb => hS.notFp r b (hb.resolve_right id), fun b hb => hS.lt b (hb.resolve_right id), fun b hb => hS.own b (hb.resolve_right id)⟩, fun _ _ h => h, rfl, rfl, rfl, fun i q h => by simp at h, fun i x q h => by simp at h, fun _ _ _ h => h.elim, fun _ _ _ _ _ h => h.elim⟩
  | [], _ :: _, _, _, _, _, _, _, hp, _, _ => hp.elim
  | _ :: _, [], _, _, _, _, _, _, hp, _, _ => hp.elim
  | (i, v) :: ps, (j, u) :: qs, n, e, s, hG, S0, hS, hp, k, h => by
    obtain ⟨rfl, hv, hp'⟩ := hp
    obtain ⟨h0, h⟩ := rn_cond h
    obtain ⟨x, own, s1, e1, S1, F, h, g1, g2, g3, g4, g5, g6, g7, g8, g9, g10⟩ := elemOf_ok hT hG hS hv h
    have hp'' : RelP e1 s1 w ps qs := by
      clear h
      have : ∀ (ps : List (Nat × V T)) (qs : List (Nat × Value)), RelP e s w ps qs → RelP e1 s1 w ps qs := by
        intro ps
        induction ps with
        | nil => intro qs h; cases qs with | nil => trivial | cons _ _ => exact h.elim
        | cons p ps ih => intro qs h; cases qs with | nil => exact h.elim | cons q qs => exact ⟨h.1, g2.v h.2.1, ih qs h.2.2⟩
      exact this _ _ hp'
    obtain ⟨xs, owns, s2, e2, S2, F2, h, r1, r2, r3, r4, r5, r6, r7, r8, r9, r10, r11⟩ := elemsOf_ok hT g1 g3 hp'' h
    refine ⟨x :: xs, own && owns, s2, e2, fun b => S1 b ∨ S2 b, fun i j b => match i with | 0 => F j b | i + 1 => F2 i j b, h, r1, g2.trans r2, ⟨fun b hb => r3.notK b (by rcases hb with h | h | h; exact .inl (.inl h); exact .inl (.inr h); exact .inr h), fun r b hb => r3.notFp r b (by rcases hb with h | h | h; exact .inl (.inl h); exact .inl (.inr h); exact .inr h), fun b hb => r3.lt b (by rcases hb with h | h | h; exact .inl (.inl h); exact .inl (.inr h); exact .inr h), fun b hb => r3.own b (by rcases hb with h | h | h; exact .inl (.inl h); exact .inl (.inr h); exact .inr h)⟩,
      fun b hb hb' => hb'.elim (g4 b hb) (r4 b (.inl hb)), r5.trans g5, r6.trans g6, by simp [r7], fun i q hq => ?_, fun i y q hy hq => ?_, fun i j b hb => ?_, fun i j i' j' b hb hb' => ?_⟩
    · cases i with
      | zero => simp at hq; subst hq; exact ⟨by have := nbeq h0; simpa using this, g10⟩
      | succ i =>
        obtain ⟨k1, k2⟩ := r8 i q (by simpa using hq)
        exact ⟨by omega, k2⟩
    · cases i with
      | zero =>
        simp at hy hq
        subst hy; subst hq
        refine ⟨g7.1, fun j d v hd hv => ?_⟩
        rcases g7.2 j d v hd hv with h | ⟨h, h'⟩
        · exact .inl h
        · exact .inr ⟨by simp [h], h'⟩
      | succ i =>
        have := r9 i y q (by simpa using hy) (by simpa using hq)
        refine ⟨this.1, fun j d v hd hv => ?_⟩
        rcases this.2 j d v hd hv with h | ⟨h, h'⟩
        · exact .inl h
        · exact .inr ⟨by simp [h], by rw [g5] at h'; exact h'⟩
    · cases i with
      | zero => exact .inl (g8 j b hb)
      | succ i => exact .inr (r10 i j b hb)
    · cases i with
      | zero =>
        cases i' with
        | zero => exact ⟨rfl, g9 _ _ _ hb hb'⟩
        | succ i' => exact absurd (r10 i' j' b hb') (r4 b (.inr (g8 j b hb)))
      | succ i =>
        cases i' with
        | zero => exact absurd (r10 i j b hb) (r4 b (.inr (g8 j' b hb')))
        | succ i' => obtain ⟨k1, k2⟩ := r11 i j i' j' b hb hb'; exact ⟨by omega, k2⟩
/-- Filling in order. -/
theorem fill_seq (size : Nat) : ∀ (qs : List (Nat × Value)) (n : Nat) (cells : Array Value), (∀ i q, qs[i]? = some q → q.1 = n + i ∧ q.2.cells.size = size) → (n + qs.length) * size ≤ cells.size →
    ∃ cs, Instr.fill (fun i => some (i * size, size)) cells qs = some cs ∧ cs.size = cells.size ∧ (∀ k, k < n * size → cs[k]? = cells[k]?) ∧ (∀ i j q, qs[i]? = some q → j < size → cs[(n + i) * size + j]? = q.2.cells[j]?)
  | [], n, cells, _, _ => ⟨cells, rfl, rfl, fun _ _ => rfl, fun i j q h => by simp at h⟩
  | (i, u) :: qs, n, cells, h, hl => by
    obtain ⟨h1, h2⟩ := h 0 (i, u) rfl
    simp only [Nat.add_zero] at h1
    subst h1
    simp only [List.length_cons] at hl
    have hfit : i * size + size ≤ cells.size := by
      have : (i + (qs.length + 1)) * size = i * size + size + qs.length * size := by rw [show i + (qs.length + 1) = i + 1 + qs.length from by omega, Nat.add_mul, Nat.add_mul]; simp
      omega
    have hf := fold_put (i * size) u.cells.toList 0 cells (by simp only at h2; simp; omega)
    simp only [Nat.add_zero] at hf
    have hpl : i * size + u.cells.toList.length ≤ cells.toList.length := by simp only at h2; simp; omega
    obtain ⟨cs, g1, g2, g3, g4⟩ := fill_seq size qs (i + 1) ((putAt cells.toList (i * size) u.cells.toList).toArray) (fun j q hq => by
      obtain ⟨k1, k2⟩ := h (j + 1) q (by simpa using hq)
      exact ⟨by omega, k2⟩) (by
      simp only [List.size_toArray]
      rw [putAt_length _ _ _ hpl]
      simp only [Array.length_toList]
      rw [show i + 1 + qs.length = i + (qs.length + 1) from by omega]
      exact hl)
    simp only [List.size_toArray] at g2
    rw [putAt_length _ _ _ hpl] at g2
    simp only at h2
    refine ⟨cs, ?_, by simpa using g2, fun k hk => ?_, fun j m q hq hm => ?_⟩
    · unfold Instr.fill
      simp only [h2]
      rw [if_neg (by simp; omega), ← g1]
      congr 1
      rw [← hf, ← Array.foldl_toList, Array.toList_zipIdx]
    · rw [g3 k (by rw [Nat.add_mul]; omega)]
      simp only [List.getElem?_toArray]
      rw [putAt_get _ _ _ hpl, if_pos hk]
      simp
    · cases j with
      | zero =>
        simp at hq
        subst hq
        simp only [Nat.add_zero]
        rw [g3 _ (by rw [Nat.add_mul]; omega)]
        simp only [List.getElem?_toArray]
        rw [putAt_get _ _ _ hpl, if_neg (by omega), if_pos (by simp; omega)]
        rw [show i * size + m - i * size = m from by omega]
        simp
      | succ j =>
        have := g4 j m q (by simpa using hq) hm
        rw [show i + (j + 1) = i + 1 + j from by omega]
        exact this
end
end Go.Sm
end

section
set_option linter.unusedSimpArgs false
set_option linter.deprecated false
set_option linter.unusedSectionVars false
set_option linter.unusedVariables false
namespace Go.Sm
variable {T : Tbl} {α : Type}
section
variable {Ok : Nat → List (A T) → Res T → Prop} {s s' : St T} {a : α} {P : Program} {e e' : Env} {w w' W0 : World} {M0 : Gh} {tm : Array Value}

/-- Loose blocks become blocks that never change. -/
def Env.more (e : Env) (S : Nat → Prop) : Env := { e with K := fun b => e.K b ∨ S b }
theorem Good.freeze (hG : Good W0 M0 e s tm w) {S : Nat → Prop} (hS : Loose W0 M0 e w S) : Good W0 M0 (e.more S) s tm w ∧ Keeps e s w (e.more S) s w := by
  obtain ⟨hR, hF, hP⟩ := hG
  have hk : Keeps e s w (e.more S) s w := ⟨fun _ h => .inl h, fun _ _ => rfl, fun q rng v h => h, fun q row col v h => h, fun r v h => h⟩
  refine ⟨⟨⟨fun t => hk.v (hR.regs t), fun r o ho => ?_, hR.dis, fun r b h1 h2 => ?_, fun b hb => ?_⟩, ⟨hF.size, hF.os, hF.tape, hF.output, hF.block, hF.own, fun b hb hlt => hb.elim (fun h => hF.know b h hlt) (fun h => .inr (hS.own b h hlt))⟩, hP.same rfl rfl⟩, hk⟩
  · exact SameO.relO (s := s) (s' := s) (w := w) (e := e) (e' := e.more S) ⟨rfl, rfl, rfl, fun _ => Iff.rfl, fun _ _ => rfl⟩ hk (hR.objs r o ho)
  · rcases h2 with h2 | h2
    · exact hR.disK _ _ h1 h2
    · exact hS.notFp _ _ h2 h1
  · rcases hb with (hb | hb) | hb
    · exact hR.lt b (.inl hb)
    · exact hS.lt b hb
    · exact hR.lt b (.inr hb)

/-- A new object out of loose blocks and new ones. -/
theorem Good.install (hG : Good W0 M0 e s tm w) {S : Nat → Prop} (hS : Loose W0 M0 e w S) {r : Nat} (hr : s.objs r = none)
    (hsz : w.heap.size ≤ w'.heap.size) (hw : ∀ b, b < w.heap.size → ¬ S b → w'.heap[b]? = w.heap[b]?) (hos : w'.os = w.os) (htape : w'.tape = w.tape) (hout : Oth w w')
    (x : Root T) (ad : Option Addr) (c : Nat) (fp : Nat → Prop) (hfp : ∀ b, fp b → (S b ∨ w.heap.size ≤ b) ∧ b < w'.heap.size) (hp : PinX M0 r x ad c := by exact ⟨fun _ _ _ _ _ h => (by cases h), fun _ _ h => (by cases h)⟩) :
    Keeps e s w (e.put r ad c fp) (s.setO r (some x)) w' ∧ (RelO (e.put r ad c fp) (s.setO r (some x)) w' r x → Good W0 M0 (e.put r ad c fp) (s.setO r (some x)) tm w') := by
  obtain ⟨hR, hF, hP⟩ := hG
  have hno : ∀ q : Ref, q.r = r → ¬ Live s q := fun q hq ⟨o, ho, _⟩ => by rw [hq, hr] at ho; cases ho
  obtain ⟨h1, h2, h3⟩ := Rel.upd (w' := w') (x := x) hR hF hS (Env.put_upd e r ad c fp) (fun _ h => h) (fun _ h => .inl h) hsz (fun b hb _ hs => hw b hb hs) hos htape hout
    (fun b hb => by
      rw [Env.put_fp] at hb
      obtain ⟨k1, k2⟩ := hfp b hb
      exact ⟨.inr k1, k2⟩)
    (fun q rng v hq h => absurd h.1 (hno q hq)) (fun q row col v hq h => absurd h.1 (hno q hq)) (fun v h => by obtain ⟨⟨o, ho⟩, _⟩ := h; rw [hr] at ho; cases ho)
  exact ⟨h1, fun hx => ⟨h3 hx, h2, hP.upd (Env.put_upd ..).adr (Env.put_upd ..).cap (by rw [Env.put_adr, Env.put_cap]; exact hp)⟩⟩

theorem Moved.own {K : Nat → Prop} {ds : List (D T.U)} {vs : List Value} {F : Nat → Nat → Prop} (h : Moved T w K ds vs true F) {j : Nat} {d : D T.U} {v : Value} (hd : ds[j]? = some d) (hv : vs[j]? = some v) : OwnD T w d v (F j) := by
  rcases h.2 j d v hd hv with h | ⟨h, _⟩
  · exact h
  · cases h
theorem Moved.rep {K : Nat → Prop} {S : Nat → Prop} {ds : List (D T.U)} {vs : List Value} {own : Bool} {F : Nat → Nat → Prop} (h : Moved T w K ds vs own F) {j : Nat} {d : D T.U} {v : Value} (hd : ds[j]? = some d) (hv : vs[j]? = some v) (hF : ∀ b, F j b → S b) :
    RepD T w (fun b => K b ∨ S b) d v := by
  rcases h.2 j d v hd hv with h | ⟨_, h⟩
  · exact h.rep.mono (fun b hb => .inr (hF b hb)) fun _ _ => rfl
  · exact h.mono (fun b hb => .inl hb) fun _ _ => rfl

theorem buildSliceM_ok (hT : TblOk P T) (hG : Good W0 M0 e s tm w) {ds : List Deferred} {dd t len : Nat} {ps : Array (Nat × Operand)} {k : C T → M T α} (h : Rn Ok (buildSliceM dd t len ps.toList k) s a s') :
    ∃ c s1 e1 w1 val, Rn Ok (k c) s1 a s' ∧ Good W0 M0 e1 s1 tm w1 ∧ Keeps e s w e1 s1 w1 ∧ s1.regs = s.regs ∧ RelC e1 s1 w1 c val ∧ (Instr.buildSlice t len (ps.map fun (i, x) => (i, Act.eval ⟨tm, ds⟩ x))).run P w = .ok val w1 := by
  unfold buildSliceM at h
  split at h
  · rename_i el hty
    have hX := rn_cond h
    clear h
    obtain ⟨h0, h⟩ := hX
    simp only [Bool.and_eq_true] at h0
    obtain ⟨⟨h01, h02⟩, h03⟩ := h0
    have h01 := nbeq h01
    have h02 := nble h02
    have h03 := nble h03
    have hX := rn_partsM (ds := ds) hG.rel h
    clear h
    obtain ⟨vs, h, h1⟩ := hX
    have hX := elemsOf_ok hT hG Loose.none h1 h
    clear h
    obtain ⟨xs, own, s1, e1, S1, F, h, g1, g2, g3, g4, g5, g6, g7, g8, g9, g10, g11⟩ := hX
    have hX := rn_newO h
    clear h
    obtain ⟨⟨h2, h2b⟩, h⟩ := hX
    obtain ⟨i, k1, k2, k3, z, k4, k5, k6⟩ := hT.info el h03
    have hql : (ps.toList.map fun x => (x.1, Act.eval ⟨tm, ds⟩ x.2)).length = len := by simp only [List.length_map]; exact h01
    have hqs : (ps.map fun (x : Nat × Operand) => (x.1, Act.eval ⟨tm, ds⟩ x.2)).toList = ps.toList.map fun x => (x.1, Act.eval ⟨tm, ds⟩ x.2) := by simp
    generalize (ps.toList.map fun x => (x.1, Act.eval ⟨tm, ds⟩ x.2)) = qs at *
    have hxl : xs.length = len := g7.trans hql
    have hzs : z.cells.size = T.size el := by rw [← Array.length_toList, k5, (hT.zero el h03).1]
    obtain ⟨cs, f1, f2, f3, f4⟩ := fill_seq (T.size el) qs 0 ((Array.range (len * T.size el)).map (fun j => z.cells[j % z.cells.size]!)) g8 (by simp only [Array.size_map, Array.size_range]; exact Nat.mul_le_mul_right _ (by omega))
    have hrun : (Instr.buildSlice t len (ps.map fun (i, x) => (i, Act.eval ⟨tm, ds⟩ x))).run P w = .ok (.slice (some ⟨w.heap.size, 0, none⟩) len len) (w.alloc (.cells cs el)) := by
      by_cases hl0 : len = 0
      · subst hl0
        have hp : qs = [] := List.length_eq_zero_iff.1 hql
        subst hp
        simp only [Instr.fill, Option.some.injEq] at f1
        have f1' : cs = #[] := by rw [← f1]; simp
        subst f1'
        unfold Instr.buildSlice
        simp only [Sem.run_bind, run_underlying (hT.slice _ _ hty), Result.andThen_ok, run_size hT h03, hqs]
        simp [Instr.fill, newRow]
        rw [Array.range_zero']; simp
      · refine run_buildSlice w t el len _ cs i z (hT.slice _ _ hty) k1 k4 (by rw [k2]; omega) (by rw [k2]; exact Nat.mul_ne_zero hl0 (by omega)) ?_
        rw [k2, hqs]
        exact f1
    have hcs : cs.size = len * T.size el := by rw [f2]; simp
    have hw := NewW.push w (.cells cs el)
    have hcell : ∀ i j d, i < xs.length → (row T el xs i)[j]? = some d → cs[i * T.size el + j]? = some ((qs.getD i (0, Value.tuple #[])).2.cells.toList.getD j (Value.tuple #[])) := by
      intro i j d hi hd
      have hj : j < T.size el := by have := (List.getElem?_eq_some_iff.1 hd).1; unfold Go.Sm.row at this; rwa [hT.len] at this
      have hqi : i < qs.length := by omega
      have e1 := List.getElem?_eq_getElem hqi
      have := f4 i j _ e1 hj
      rw [Nat.zero_add] at this
      have e4 : qs.getD i (0, Value.tuple #[]) = qs[i] := by rw [List.getD_eq_getElem?_getD, e1]; rfl
      rw [this, e4, List.getD_eq_getElem?_getD, Array.getElem?_toList]
      obtain ⟨_, hz⟩ := g8 i _ e1
      rw [Array.getElem?_eq_getElem (by omega)]
      rfl
    have hmv : ∀ i j d, i < xs.length → (row T el xs i)[j]? = some d → ∃ v, Moved T w e.K (row T el xs i) v own (F i) ∧ v[j]? = some ((qs.getD i (0, Value.tuple #[])).2.cells.toList.getD j (Value.tuple #[])) := by
      intro i j d hi hd
      have hqi : i < qs.length := by omega
      have e1 := List.getElem?_eq_getElem hqi
      have e2 := List.getElem?_eq_getElem hi
      have hm := g9 i _ _ e2 e1
      have e3 : row T el xs i = T.dget el xs[i] := by unfold Go.Sm.row; rw [List.getD_eq_getElem?_getD, e2]; rfl
      refine ⟨_, by rw [e3]; exact hm, ?_⟩
      have e4 : qs.getD i (0, Value.tuple #[]) = qs[i] := by rw [List.getD_eq_getElem?_getD, e1]; rfl
      rw [e4, List.getD_eq_getElem?_getD]
      have hl := hm.1
      rw [← e3] at hl
      have hj := (List.getElem?_eq_some_iff.1 hd).1
      rw [List.getElem?_eq_getElem (by omega)]
      rfl
    cases own with
    | true =>
      obtain ⟨e2, r1, r2, r3, r4⟩ := Good.newArr (dep := .all) hT g1 (S := S1) ⟨fun b hb => g3.notK b (.inr hb), fun r b hb => g3.notFp r b (.inr hb), fun b hb => g3.lt b (.inr hb), fun b hb => g3.own b (.inr hb)⟩ h2 hw (c := len)
        (F := F) (by omega) (by omega) hcell (fun i j d hi hd => by
          obtain ⟨v, hm, hv⟩ := hmv i j d hi hd
          exact hm.own hd hv) g10 g11
      exact ⟨_, _, e2, _, _, h, r1, g2.trans r2, g6, r3, by rw [hxl]; exact hrun⟩
    | false =>
      have hS1 : Loose W0 M0 e1 w S1 := ⟨fun b hb => g3.notK b (.inr hb), fun r b hb => g3.notFp r b (.inr hb), fun b hb => g3.lt b (.inr hb), fun b hb => g3.own b (.inr hb)⟩
      obtain ⟨q1, q2⟩ := g1.freeze hS1
      obtain ⟨e2, r1, r2, r3, r4⟩ := Good.newArr (dep := .upto 0) hT q1 (S := fun _ => False) Loose.none h2 hw (c := len)
        (F := fun _ _ _ => False) (by omega) (by omega) hcell (fun i j d hi hd => by
          obtain ⟨v, hm, hv⟩ := hmv i j d hi hd
          refine .inr ⟨Nat.zero_le _, ?_⟩
          have := hm.rep hd hv (fun b hb => g10 i j b hb)
          rw [← g5] at this
          exact this) (fun _ _ _ h => h.elim) (fun _ _ _ _ _ h => h.elim)
      exact ⟨_, _, e2, _, _, h, r1, (g2.trans q2).trans r2, g6, r3, by rw [hxl]; exact hrun⟩
  · exact (rn_fail h).elim
theorem makeSliceM_ok (hT : TblOk P T) (hG : Good W0 M0 e s tm w) {dd t : Nat} {n c : Int} {kn kc : IntKind} {k : C T → M T α} (h : Rn Ok (makeSliceM dd t n c k) s a s') :
    ∃ c' s1 e1 w1 val, Rn Ok (k c') s1 a s' ∧ Good W0 M0 e1 s1 tm w1 ∧ Keeps e s w e1 s1 w1 ∧ s1.regs = s.regs ∧ RelC e1 s1 w1 c' val ∧ (Instr.makeSlice t (.int kn n) (.int kc c)).run P w = .ok val w1 := by
  unfold makeSliceM at h
  split at h
  · rename_i el hty
    have hX := rn_cond h
    clear h
    obtain ⟨h0, h⟩ := hX
    have h0 := nble h0
    have hX := rn_must h
    clear h
    obtain ⟨h1, h⟩ := hX
    have hX := rn_must h
    clear h
    obtain ⟨h2, h⟩ := hX
    have hX := rn_must h
    clear h
    obtain ⟨⟨h3, h4⟩, h⟩ := hX
    have hX := rn_newO h
    clear h
    obtain ⟨⟨h5, h5b⟩, h⟩ := hX
    obtain ⟨i, k1, k2, k3, z, k4, k5, k6⟩ := hT.info el h0
    obtain ⟨z1, z2⟩ := hT.zero el h0
    have hzs : z.cells.size = T.size el := by rw [← Array.length_toList, k5, z1]
    have hrun := run_make (P := P) w t el i z (hT.slice _ _ hty) k1 k4 kn kc n c h1 h2 (by rw [k3]; rw [Int.mul_comm]; exact h4) h3
    have hw := NewW.push w (.cells (madeCells z.cells (c.toNat * i.size)) el)
    obtain ⟨e2, r1, r2, r3, r4⟩ := Good.newArr (dep := .all) (t := el) (l := List.replicate n.toNat (T.dflt el)) hT hG (S := fun _ => False) Loose.none h5 hw (c := c.toNat) (vals := fun _ j => (T.zero el).getD j (.tuple #[])) (F := fun _ _ _ => False)
      (by simp; omega) (by rw [k2]; simp [madeCells]) (fun i' j d hi hd => by
        simp at hi
        have hj : j < T.size el := by have := (List.getElem?_eq_some_iff.1 hd).1; unfold Go.Sm.row at this; rwa [hT.len] at this
        have hlt : i' * T.size el + j < c.toNat * T.size el := by
          have : (i' + 1) * T.size el ≤ c.toNat * T.size el := Nat.mul_le_mul_right _ (by omega)
          rw [Nat.add_mul] at this
          omega
        rw [k2]
        simp only [madeCells, Array.getElem?_map, Array.getElem?_range, hlt, if_true, Option.map_some]
        rw [hzs, Nat.add_comm, Nat.add_mul_mod_self_right, Nat.mod_eq_of_lt hj]
        rw [List.getD_eq_getElem?_getD, ← k5, Array.getElem?_toList, getElem!_def]
        rw [Array.getElem?_eq_getElem (by omega)]
        rfl) (fun i' j d hi hd => by
        simp at hi
        have hj : j < T.size el := by have := (List.getElem?_eq_some_iff.1 hd).1; unfold Go.Sm.row at this; rwa [hT.len] at this
        have hrow : row T el (List.replicate n.toNat (T.dflt el)) i' = T.dget el (T.dflt el) := by
          unfold Go.Sm.row
          rw [List.getD_eq_getElem?_getD, List.getElem?_replicate]
          split <;> rfl
        rw [hrow] at hd
        have hzj : (T.zero el)[j]? = some ((T.zero el).getD j (.tuple #[])) := by
          rw [List.getD_eq_getElem?_getD, List.getElem?_eq_getElem (by omega)]; rfl
        rcases z2 j d _ hd hzj with hp | ⟨t', rfl, hp⟩
        · cases d <;> simp only [plainD] at hp
          · rw [hp]; exact .bool _ _
          · rw [hp]; exact .int _ _ _
          · rw [hp]; exact .str _ _
        · rw [hp]
          exact .arr t' [] none 0 (fun _ _ => .tuple #[]) (fun _ _ _ => False) _ (Nat.le_refl _) (fun h => absurd rfl h) (fun h => absurd h (Nat.lt_irrefl _)) (fun _ _ _ h => absurd h (Nat.not_lt_zero _)) (fun _ _ _ h => absurd h (Nat.not_lt_zero _)) (fun _ _ _ h => h.elim) (fun _ _ _ _ _ h => h.elim))
      (fun _ _ _ h => h.elim) (fun _ _ _ _ _ h => h.elim)
    refine ⟨_, _, e2, _, _, h, r1, r2, rfl, r3, ?_⟩
    rw [List.length_replicate]
    exact hrun
  · exact (rn_fail h).elim
end
end Go.Sm
end

section
set_option linter.unusedSimpArgs false
set_option linter.deprecated false
set_option linter.unusedSectionVars false
set_option linter.unusedVariables false
namespace Go.Sm
variable {T : Tbl} {α : Type}
/-- The cells of n rows, told by row and place. -/
def newsOf (n size : Nat) (vals : Nat → Nat → Value) : List Value := (List.range (n * size)).map fun k => vals (k / size) (k % size)
theorem newsOf_length (n size : Nat) (vals : Nat → Nat → Value) : (newsOf n size vals).length = n * size := by simp [newsOf]
theorem row_lt {n size i j : Nat} (hi : i < n) (hj : j < size) : i * size + j < n * size := by
  have : (i + 1) * size ≤ n * size := Nat.mul_le_mul_right _ hi
  rw [Nat.add_mul] at this
  omega
theorem newsOf_get {n size : Nat} {vals : Nat → Nat → Value} {i j : Nat} (hi : i < n) (hj : j < size) : (newsOf n size vals)[i * size + j]? = some (vals i j) := by
  have h := row_lt hi hj
  unfold newsOf
  rw [List.getElem?_map, List.getElem?_range h]
  simp only [Option.map_some]
  rw [Nat.add_comm, Nat.add_mul_div_right _ _ (by omega), Nat.add_mul_mod_self_right, Nat.div_eq_of_lt hj, Nat.mod_eq_of_lt hj, Nat.zero_add]
theorem newsOf_inv {n size : Nat} {vals : Nat → Nat → Value} {k : Nat} {v : Value} (h : (newsOf n size vals)[k]? = some v) : ∃ i j, i < n ∧ j < size ∧ k = i * size + j ∧ v = vals i j := by
  obtain ⟨hk, hv⟩ := List.getElem?_eq_some_iff.1 h
  rw [newsOf_length] at hk
  have hs : 0 < size := by
    rcases Nat.eq_zero_or_pos size with h | h
    · subst h; simp at hk
    · exact h
  refine ⟨k / size, k % size, (Nat.div_lt_iff_lt_mul hs).2 hk, Nat.mod_lt _ hs, by rw [Nat.mul_comm]; exact (Nat.div_add_mod k size).symm, ?_⟩
  rw [← hv]
  simp [newsOf]
section
variable {Ok : Nat → List (A T) → Res T → Prop} {s s' : St T} {a : α} {P : Program} {e e' : Env} {w w' W0 : World} {M0 : Gh} {tm : Array Value}

theorem flat_row (hT : TblOk P T) {t : Nat} (hf : flat T t = true) {x : T.U t} {j : Nat} {d : D T.U} (hd : (T.dget t x)[j]? = some d) : d.isArr = false := by
  have hp := hT.pat t x
  have h1 : ((T.dget t x).map D.isArr)[j]? = some d.isArr := by rw [List.getElem?_map, hd]; rfl
  rw [hp, List.getElem?_map] at h1
  obtain ⟨d', hd', he⟩ := Option.map_eq_some_iff.1 h1
  rw [← he]
  have h2 := nbeq hf
  unfold arrCount at h2
  have h3 := List.length_eq_zero_iff.1 h2
  rw [List.filter_eq_nil_iff] at h3
  have := h3 d' (List.mem_of_getElem? hd')
  simpa using this
theorem flat_own {K S : Nat → Prop} {w' : World} {d : D T.U} {v : Value} (h : RepD T w K d v) (hf : d.isArr = false) : OwnD T w' d v S := by
  cases h with
  | bool b => exact .bool _ _
  | int k n => exact .int _ _ _
  | str s => exact .str _ _
  | nil => cases hf
  | arr => cases hf

/-- The cells of a list that memory holds. -/
theorem news_of {t : Nat} {l : List (T.U t)} {A : Option Addr} {vals : Nat → Nat → Value} (hT : TblOk P T) (hA : l ≠ [] → ∃ b off, A = some ⟨b, off, none⟩)
    (hcell : ∀ i j d, i < l.length → (row T t l i)[j]? = some d → ∃ b off, A = some ⟨b, off, none⟩ ∧ w.cell? ⟨b, off + i * T.size t + j, none⟩ = some (vals i j)) :
    l.length ≠ 0 → ∃ b off, A = some ⟨b, off, none⟩ ∧ ∀ j v, (newsOf l.length (T.size t) vals)[j]? = some v → w.cell? ⟨b, off + j, none⟩ = some v := by
  intro hl
  obtain ⟨b, off, rfl⟩ := hA (fun h => by subst h; exact hl rfl)
  refine ⟨b, off, rfl, fun j v hv => ?_⟩
  obtain ⟨i, k, h1, h2, rfl, rfl⟩ := newsOf_inv hv
  have hlen : (row T t l i).length = T.size t := by unfold Go.Sm.row; exact hT.len _ _
  obtain ⟨b', off', he, hc⟩ := hcell i k _ h1 (List.getElem?_eq_getElem (by omega))
  simp only [Option.some.injEq, Addr.mk.injEq] at he
  obtain ⟨rfl, rfl, _⟩ := he
  rw [← hc, Nat.add_assoc]

theorem elemsM_ok (hT : TblOk P T) (hG : Good W0 M0 e s tm w) {el : Nat} {c : C T} {u : Value} (hc : RelC e s w c u) {k : List (T.U el) → Bool → M T α} (h : Rn Ok (elemsM el c k) s a s') :
    ∃ (ys : List (T.U el)) (own : Bool) (s1 : St T) (e1 : Env) (S1 : Nat → Prop) (A : Option Addr) (c2 : Nat) (vals : Nat → Nat → Value) (F : Nat → Nat → Nat → Prop),
      Rn Ok (k ys own) s1 a s' ∧ Good W0 M0 e1 s1 tm w ∧ Keeps e s w e1 s1 w ∧ Loose W0 M0 e1 w S1 ∧ e1.K = e.K ∧ s1.regs = s.regs ∧ u = .slice A ys.length c2 ∧
      (ys.length ≠ 0 → ∃ b off, A = some ⟨b, off, none⟩ ∧ ∀ j v, (newsOf ys.length (T.size el) vals)[j]? = some v → w.cell? ⟨b, off + j, none⟩ = some v) ∧
      (∀ i j d, i < ys.length → (row T el ys i)[j]? = some d → (own = true → OwnD T w d (vals i j) (F i j)) ∧ (own = false → RepD T w e1.K d (vals i j))) ∧
      (∀ i j b, F i j b → S1 b) ∧ (∀ i j i' j' b, F i j b → F i' j' b → i = i' ∧ j = j') ∧ (flat T el = true → own = true) := by
  unfold elemsM at h
  cases hf : flat T el with
  | true =>
    rw [hf] at h
    simp only [cond_true] at h
    obtain ⟨l, h, h1⟩ := asArr_ok hG.rel hc h
    rcases h1 with h1 | ⟨rfl, rfl⟩
    · obtain ⟨A, c2, vals, rfl, h2, h3, h4, h5⟩ := h1.arr_inv
      refine ⟨l, true, s, e, fun _ => False, A, c2, vals, fun _ _ _ => False, h, hG, .refl, .none, rfl, rfl, rfl, news_of hT h3 (fun i j d hi hd => ?_), fun i j d hi hd => ⟨fun _ => ?_, fun hx => by cases hx⟩, fun _ _ _ h => h, fun _ _ _ _ _ h => h.elim, fun _ => rfl⟩
      · obtain ⟨b, off, e1, e2, e3⟩ := h4 i j d hi hd; exact ⟨b, off, e1, e3⟩
      · exact flat_own (h5 i j d hi hd) (flat_row hT hf hd)
    · exact ⟨[], true, s, e, fun _ => False, none, 0, fun _ _ => .tuple #[], fun _ _ _ => False, h, hG, .refl, .none, rfl, rfl, rfl, fun h => absurd rfl h, fun i j d hi => absurd hi (Nat.not_lt_zero _), fun _ _ _ h => h, fun _ _ _ _ _ h => h.elim, fun _ => rfl⟩
  | false =>
    rw [hf] at h
    simp only [cond_false] at h
    split at h
    · cases hc
      exact ⟨[], true, s, e, fun _ => False, none, 0, fun _ _ => .tuple #[], fun _ _ _ => False, h, hG, .refl, .none, rfl, rfl, rfl, fun h => absurd rfl h, fun i j d hi => absurd hi (Nat.not_lt_zero _), fun _ _ _ h => h, fun _ _ _ _ _ h => h.elim, fun _ => rfl⟩
    · have hX := rn_withL h
      clear h
      obtain ⟨rfl, h⟩ := hX
      obtain ⟨A, c2, vals, rfl, h2, h3, h4, h5⟩ := RepD.arr_inv hc
      refine ⟨_, false, s, e, fun _ => False, A, c2, vals, fun _ _ _ => False, h, hG, .refl, .none, rfl, rfl, rfl, news_of hT h3 (fun i j d hi hd => ?_), fun i j d hi hd => ⟨(fun hx => by cases hx), fun _ => h5 i j d hi hd⟩, fun _ _ _ h => h, fun _ _ _ _ _ h => h.elim, fun h => (by cases h)⟩
      obtain ⟨b, off, e1, e2, e3⟩ := h4 i j d hi hd; exact ⟨b, off, e1, e3⟩
    · rename_i q t0 rng ex
      have h := rn_getO h
      split at h
      · rename_i t l ver nver ho hp
        have hX := rn_cond h
        clear h
        obtain ⟨h1, h⟩ := hX
        have hX := rn_cut h
        clear h
        obtain ⟨l', h2, h⟩ := hX
        have hX := rn_withL h
        clear h
        obtain ⟨rfl, h⟩ := hX
        have h := rn_setO h
        obtain ⟨k1, k2, k3⟩ := hG.kill ho
        obtain ⟨vals, F, hA⟩ := hG.rel.objs _ _ ho
        have hi : refInfo s q = some ⟨t, l⟩ := by unfold refInfo; simp only [ho, hp]; rw [if_pos (nbeq h1)]
        obtain ⟨A, cc, hat, hsl⟩ := hc.2.2 _ _ hi
        unfold RefAt at hat
        simp only [hp] at hat
        obtain ⟨rfl, rfl⟩ := hat
        have hown : OwnD T w (.arr t l) (.slice (e.adr q.r) l.length (e.cap q.r)) (e.fp q.r) := (OwnD.arr_iff e.K).2 ⟨_, _, vals, F, rfl, hA⟩
        obtain ⟨A', c', vals', F', rfl, hA'⟩ := (OwnD.arr_iff e.K).1 (hown.cut h2 hsl)
        exact ⟨l', true, _, e.drop q.r, e.fp q.r, A', c', vals', F', h, k1, k2, k3, rfl, rfl, rfl, news_of hT hA'.hA hA'.hcell, fun i j d hi hd => ⟨fun _ => hA'.hsub i j d hi hd, fun hx => by cases hx⟩, fun i j b hb => (hA'.hF i j b hb).1, hA'.hdis, fun h => (by cases h)⟩
      · exact (rn_fail h).elim
    · exact (rn_fail h).elim

theorem Oth.setRow {b : Nat} {old cs : Array Value} {el : Nat} (h : w.heap[b]? = some (.cells old el (0, 0))) (hs : cs.size = old.size) : Oth w (w.setRow b cs) :=
  ⟨rfl, Nat.le_refl _, fun b' c el' fz hb' => by
    by_cases e : b' = b
    · subst e
      rw [h] at hb'
      cases hb'
      exact ⟨cs, setRow_heap w b' old _ el _ h, hs⟩
    · exact ⟨c, by simp only [World.setRow, Array.getElem?_modify]; rw [if_neg (fun h => e h.symm)]; exact hb', rfl⟩⟩
/-- What an append does to memory. -/
theorem append_mem (hT : TblOk P T) {el : Nat} (hs : 0 < T.size el) (hb : 0 < T.bytes el) {t ty : Nat} (hty : P.underlying t = some (.slice el)) {A : Option Addr} {n c : Nat} (hnc : n ≤ c) (hA0 : A = none → c = 0)
    {A2 : Option Addr} {m c2 : Nat} {olds news : List Value}
    (hblk : n + m ≤ c → 0 < c → ∃ b off cs ell, A = some ⟨b, off, none⟩ ∧ w.heap[b]? = some (.cells cs ell (0, 0)) ∧ off + c * T.size el ≤ cs.size)
    (hol : olds.length = n * T.size el) (hold : n ≠ 0 → ∃ b off, A = some ⟨b, off, none⟩ ∧ ∀ j v, olds[j]? = some v → w.cell? ⟨b, off + j, none⟩ = some v)
    (hl : news.length = m * T.size el) (hnew : m ≠ 0 → ∃ b off, A2 = some ⟨b, off, none⟩ ∧ ∀ j v, news[j]? = some v → w.cell? ⟨b, off + j, none⟩ = some v)
    (h1 : ∀ v ∈ news, v.oneCell' = true) (hroom : (n + m) * T.bytes el ≤ 140737488355328) :
    ∃ A' c' w', (Builtin.append_ #[t, t] ty #[.slice A n c, .slice A2 m c2]).run P w = .ok (.slice A' (n + m) c') w' ∧ n + m ≤ c' ∧ w.heap.size ≤ w'.heap.size ∧ w'.os = w.os ∧ w'.tape = w.tape ∧ Oth w w' ∧
      (∀ b, b < w.heap.size → (n + m ≤ c → 0 < c → ∀ off, A ≠ some ⟨b, off, none⟩) → w'.heap[b]? = w.heap[b]?) ∧
      (0 < c' → ∃ b off cs ell, A' = some ⟨b, off, none⟩ ∧ ((n + m ≤ c ∧ 0 < c ∧ A = some ⟨b, off, none⟩) ∨ (b = w.heap.size ∧ w.heap.size < w'.heap.size)) ∧ w'.heap[b]? = some (.cells cs ell (0, 0)) ∧ off + c' * T.size el ≤ cs.size ∧
        (∀ k v, olds[k]? = some v → cs[off + k]? = some v) ∧ (∀ j v, news[j]? = some v → cs[off + n * T.size el + j]? = some v)) := by
  obtain ⟨i, g1, g2, g3, z, g4, g5, g6⟩ := hT.info el hs
  have hol' := hol
  have hl' := hl
  rw [← g2] at hol' hl'
  by_cases hr : n + m ≤ c
  · rcases Nat.eq_zero_or_pos m with rfl | hm
    · refine ⟨A, c, w, ?_, hnc, Nat.le_refl _, rfl, rfl, Oth.refl _, fun _ _ _ => rfl, fun hc => ?_⟩
      · have hle : n ≤ c := hnc
        cases A2 <;> cases A <;> simp [Builtin.append_, run_underlying hty, sizeOf, typeInfo, g1, Builtin.lenOf, Builtin.firstCells, hle, loadCells, loadCellsFrom, storeCells]
      · obtain ⟨b, off, cs, ell, e1, e2, e3⟩ := hblk hr hc
        refine ⟨b, off, cs, ell, e1, .inl ⟨hr, hc, e1⟩, e2, e3, fun k v hk => ?_, fun j v hj => ?_⟩
        · have hn : n ≠ 0 := fun h => by subst h; simp at hol; subst hol; simp at hk
          obtain ⟨b', off', e4, e5⟩ := hold hn
          rw [e1] at e4
          simp only [Option.some.injEq, Addr.mk.injEq] at e4
          obtain ⟨rfl, rfl, _⟩ := e4
          have := e5 k v hk
          simpa [World.cell?, e2] using this
        · simp at hl; subst hl; simp at hj
    · have hc : 0 < c := by omega
      obtain ⟨b, off, cs, ell, rfl, e2, e3⟩ := hblk hr hc
      obtain ⟨b2, off2, rfl, e4⟩ := hnew (by omega)
      have hlt : b < w.heap.size := (Array.getElem?_eq_some_iff.1 e2).1
      have hfit : off + n * T.size el + news.length ≤ cs.size := by
        rw [hl, Nat.add_assoc, ← Nat.add_mul]
        exact Nat.le_trans (Nat.add_le_add_left (Nat.mul_le_mul_right _ hr) _) e3
      have hf := run_firstCells_some (P := P) w i.size m ⟨b2, off2, none⟩ m c2 news hl' (fun j v hj => by rw [addr_add]; exact e4 j v hj)
      have hst := run_storeCells_at P b (off + n * T.size el) ell news 0 cs w e2 (by omega) h1
      simp only [Nat.add_zero] at hst
      refine ⟨some ⟨b, off, none⟩, c, w.setRow b (cs.toList.take (off + n * T.size el) ++ news ++ cs.toList.drop (off + n * T.size el + news.length)).toArray, ?_, hr, ?_, rfl, rfl, Oth.setRow e2 (by simp only [List.size_toArray, List.length_append, List.length_take, List.length_drop, Array.length_toList]; omega), fun b' hb' hne => ?_, fun _ => ⟨b, off, _, ell, rfl, .inl ⟨hr, hc, rfl⟩, setRow_heap w b cs _ ell _ e2, ?_, fun k v hk => ?_, fun j v hj => ?_⟩⟩
      · rw [g2] at hf
        simp only [Builtin.append_]
        simp [run_underlying hty, sizeOf, typeInfo, g1, Builtin.lenOf, hr, hf, addr_add, g2, hst]
      · show w.heap.size ≤ (w.heap.modify _ _).size
        simp
      · have hbb : b' ≠ b := fun h => hne hr hc off (by rw [h])
        simp only [World.setRow, Array.getElem?_modify]
        rw [if_neg (fun h => hbb h.symm)]
      · simp only [List.size_toArray, List.length_append, List.length_take, List.length_drop, Array.length_toList]
        omega
      · have hk' := (List.getElem?_eq_some_iff.1 hk).1
        have hn : n ≠ 0 := fun h => by subst h; simp at hol; subst hol; simp at hk'
        obtain ⟨b', off', e5, e6⟩ := hold hn
        simp only [Option.some.injEq, Addr.mk.injEq] at e5
        obtain ⟨rfl, rfl, _⟩ := e5
        have := e6 k v hk
        simp only [World.cell?, e2] at this
        simp only [List.getElem?_toArray]
        rw [List.getElem?_append_left (by simp; omega), List.getElem?_append_left (by simp; omega), List.getElem?_take, if_pos (by omega)]
        simpa using this
      · have hj' := (List.getElem?_eq_some_iff.1 hj).1
        simp only [List.getElem?_toArray]
        rw [List.getElem?_append_left (by simp; omega), List.getElem?_append_right (by simp; omega)]
        simp only [List.length_take, Array.length_toList]
        rw [show min (off + n * T.size el) cs.size = off + n * T.size el from by omega]
        rw [← hj]
        congr 1
        omega
  · have hlt : c < n + m := by omega
    have hm : m ≠ 0 := by omega
    obtain ⟨b2, off2, rfl, e4⟩ := hnew hm
    have hsmall : n + m ≤ 140737488355328 := by
      have : (n + m) * 1 ≤ (n + m) * T.bytes el := Nat.mul_le_mul_left _ hb
      omega
    have hnews : ∀ j v, news[j]? = some v → w.cell? ((⟨b2, off2, none⟩ : Addr).add j) = some v := fun j v hj => by rw [addr_add]; exact e4 j v hj
    have hzs : z.cells.size = T.size el := by rw [← Array.length_toList, g5, (hT.zero el hs).1]
    have hge := grownCap_ge w (n + m) c el
    have key : ∃ cs, (Builtin.append_ #[t, t] ty #[.slice A n c, .slice (some ⟨b2, off2, none⟩) m c2]).run P w = .ok (.slice (some ⟨w.heap.size, 0, none⟩) (n + m) (grownCap w (n + m) c el)) (w.drew.alloc (.cells (olds.toArray ++ news.toArray ++ cs) el)) ∧ cs.size = (grownCap w (n + m) c el - (n + m)) * T.size el := by
      cases A with
      | none =>
        have hc0 := hA0 rfl
        subst hc0
        have hn0 : n = 0 := by omega
        subst hn0
        have := run_append_nil (P := P) (w := w) t ty el i z hty g1 g4 ⟨b2, off2, none⟩ m c2 news hl' hnews (by omega) (by omega) (by rw [g3]; simp at hroom; omega)
        simp at hol
        subst hol
        refine ⟨Builtin.zeroCells z.cells (grownCap w m 0 el - m), ?_, ?_⟩
        · rw [Nat.zero_add, this]
          simp
        · rw [size_zeroCells, hzs]; simp
      | some b0 =>
        have := run_append_grow (P := P) (w := w) t ty el i z hty g1 g4 b0 n c olds hol' (fun j v hj => by
          have hn : n ≠ 0 := fun h => by subst h; simp at hol; subst hol; simp at hj
          obtain ⟨b', off', e5, e6⟩ := hold hn
          simp only [Option.some.injEq] at e5
          subst e5
          rw [addr_add]; exact e6 j v hj) ⟨b2, off2, none⟩ m c2 news hl' hnews hlt (by omega) (by rw [g3]; exact growslice_fits hlt hroom)
        exact ⟨_, this, by rw [size_zeroCells, hzs]⟩
    obtain ⟨cs, k1, k2⟩ := key
    have hw := NewW.drew w (.cells (olds.toArray ++ news.toArray ++ cs) el (0, 0))
    refine ⟨_, _, _, k1, hge, by have := hw.size; omega, hw.os, hw.tape, hw.output, fun b hb _ => hw.old b hb, fun _ => ⟨_, 0, _, el, rfl, .inr ⟨rfl, by have := hw.size; omega⟩, hw.new, ?_, fun k v hk => ?_, fun j v hj => ?_⟩⟩
    · simp only [Array.size_append, List.size_toArray]
      rw [hol, hl, k2, ← Nat.add_mul, ← Nat.add_mul]
      rw [show n + m + (grownCap w (n + m) c el - (n + m)) = grownCap w (n + m) c el from by omega]
      omega
    · have hk' := (List.getElem?_eq_some_iff.1 hk).1
      rw [Nat.zero_add, Array.getElem?_append_left (by simp; omega), Array.getElem?_append_left (by simp; omega)]
      simpa using hk
    · have hj' := (List.getElem?_eq_some_iff.1 hj).1
      rw [Nat.zero_add, ← hol, Array.getElem?_append_left (by simp; omega), Array.getElem?_append_right (by simp)]
      simpa using hj
end
end Go.Sm
end

section
set_option linter.unusedSimpArgs false
set_option linter.deprecated false
set_option linter.unusedSectionVars false
set_option linter.unusedVariables false
namespace Go.Sm
variable {T : Tbl} {α : Type}
section
variable {Ok : Nat → List (A T) → Res T → Prop} {s s' : St T} {a : α} {P : Program} {e e' : Env} {w w' W0 : World} {M0 : Gh} {tm : Array Value}

theorem row_append_left {t : Nat} {l ys : List (T.U t)} {i : Nat} (hi : i < l.length) : row T t (l ++ ys) i = row T t l i := by
  unfold Go.Sm.row
  rw [List.getD_eq_getElem?_getD, List.getElem?_append_left hi, ← List.getD_eq_getElem?_getD]
theorem row_append_right {t : Nat} {l ys : List (T.U t)} {i : Nat} (hi : ¬ i < l.length) : row T t (l ++ ys) i = row T t ys (i - l.length) := by
  unfold Go.Sm.row
  rw [List.getD_eq_getElem?_getD, List.getElem?_append_right (by omega), ← List.getD_eq_getElem?_getD]
theorem row_len (hT : TblOk P T) {t : Nat} {l : List (T.U t)} {i j : Nat} {d : D T.U} (h : (row T t l i)[j]? = some d) : j < T.size t := by
  have := (List.getElem?_eq_some_iff.1 h).1
  unfold Go.Sm.row at this
  rwa [hT.len] at this
/-- An array with rows behind. -/
theorem app_arr (hT : TblOk P T) {K : Nat → Prop} {t : Nat} {l ys : List (T.U t)} {dep : Dep} {olds news : Nat → Nat → Value} {A' : Option Addr} {c' : Nat} {S : Nat → Prop} {F1 F2 : Nat → Nat → Nat → Prop}
    (hc : l.length + ys.length ≤ c')
    (hblk : 0 < c' → ∃ b off cs el, A' = some ⟨b, off, none⟩ ∧ S b ∧ w'.heap[b]? = some (.cells cs el (0, 0)) ∧ off + c' * T.size t ≤ cs.size ∧
      (∀ k v, (newsOf l.length (T.size t) olds)[k]? = some v → cs[off + k]? = some v) ∧ (∀ j v, (newsOf ys.length (T.size t) news)[j]? = some v → cs[off + l.length * T.size t + j]? = some v))
    (hold : ∀ i j d, i < l.length → (row T t l i)[j]? = some d → RowOk T w' K dep i d (olds i j) (F1 i j))
    (hnew : ∀ i j d, i < ys.length → (row T t ys i)[j]? = some d → RowOk T w' K dep (l.length + i) d (news i j) (F2 i j))
    (hF1 : ∀ i j b, F1 i j b → S b ∧ ∀ b' off, A' = some ⟨b', off, none⟩ → b ≠ b') (hF2 : ∀ i j b, F2 i j b → S b ∧ ∀ b' off, A' = some ⟨b', off, none⟩ → b ≠ b')
    (hd1 : ∀ i j i' j' b, F1 i j b → F1 i' j' b → i = i' ∧ j = j') (hd2 : ∀ i j i' j' b, F2 i j b → F2 i' j' b → i = i' ∧ j = j') (hd : ∀ i j i' j' b, F1 i j b → ¬ F2 i' j' b) :
    ∃ vals F, ArrOk T w' K t (l ++ ys) dep A' c' S vals F := by
  refine ⟨fun i j => if i < l.length then olds i j else news (i - l.length) j, fun i j b => if i < l.length then F1 i j b else F2 (i - l.length) j b, ?_⟩
  refine ⟨by simp; omega, fun hne => ?_, fun hp => ?_, fun i j d hi hd' => ?_, fun i j d hi hd' => ?_, fun i j b hb => ?_, fun i j i' j' b hb hb' => ?_⟩
  · have hp : 0 < c' := by
      have : (l ++ ys).length ≠ 0 := fun h => hne (List.length_eq_zero_iff.1 h)
      simp at this
      have h2 : ¬ (l.length = 0 ∧ ys.length = 0) := fun ⟨h1, h2⟩ => this (List.length_eq_zero_iff.1 h1) (List.length_eq_zero_iff.1 h2)
      omega
    obtain ⟨b, off, cs, el, e1, _⟩ := hblk hp
    exact ⟨b, off, e1⟩
  · obtain ⟨b, off, cs, el, e1, e2, e3, e4, _⟩ := hblk hp
    exact ⟨b, off, cs, el, e1, e2, e3, e4⟩
  · simp only [List.length_append] at hi
    obtain ⟨b, off, cs, el, e1, e2, e3, e4, e5, e6⟩ := hblk (by omega)
    refine ⟨b, off, e1, ?_⟩
    simp only [World.cell?, e3]
    by_cases h : i < l.length
    · rw [row_append_left h] at hd'
      rw [if_pos h, Nat.add_assoc]
      simpa using e5 _ _ (newsOf_get h (row_len hT hd'))
    · rw [row_append_right h] at hd'
      rw [if_neg h]
      have := e6 _ _ (newsOf_get (vals := news) (show i - l.length < ys.length by omega) (row_len hT hd'))
      rw [show off + l.length * T.size t + ((i - l.length) * T.size t + j) = off + i * T.size t + j from by
        rw [← Nat.add_assoc, Nat.add_assoc off, ← Nat.add_mul]
        rw [show l.length + (i - l.length) = i from by omega]] at this
      simpa using this
  · simp only [List.length_append] at hi
    by_cases h : i < l.length
    · rw [row_append_left h] at hd'
      simp only [h, if_true]
      exact hold i j d h hd'
    · rw [row_append_right h] at hd'
      simp only [h, if_false]
      have := hnew (i - l.length) j d (by omega) hd'
      rw [show l.length + (i - l.length) = i from by omega] at this
      exact this
  · by_cases h : i < l.length
    · rw [if_pos h] at hb; exact hF1 i j b hb
    · rw [if_neg h] at hb; exact hF2 _ j b hb
  · by_cases h : i < l.length <;> by_cases h' : i' < l.length
    · rw [if_pos h] at hb; rw [if_pos h'] at hb'; exact hd1 _ _ _ _ _ hb hb'
    · rw [if_pos h] at hb; rw [if_neg h'] at hb'; exact absurd hb' (hd _ _ _ _ _ hb)
    · rw [if_neg h] at hb; rw [if_pos h'] at hb'; exact absurd hb (hd _ _ _ _ _ hb')
    · rw [if_neg h] at hb
      rw [if_neg h'] at hb'
      obtain ⟨k1, k2⟩ := hd2 _ _ _ _ _ hb hb'
      exact ⟨by omega, k2⟩

/-- References to an array of which the turn is counted on: they are void now. -/
theorem RelRef.stale {q : Ref} {t t' : Nat} {l : List (T.U t)} {l' : List (T.U t')} {ver nver : Nat} {dep dep' : Dep} {pin pin' : Bool} (ho : s.objs q.r = some (.arr t l ver nver dep pin)) {rng : Option (Nat × Nat)} {v : Value}
    (h : RelRef e s w q rng v) : RelRef e' (s.setO q.r (some (.arr t' l' (ver + 1) (nver + 1) dep' pin'))) w' q rng v := by
  obtain ⟨o, h1, h2⟩ := h.1
  have h2 := h2 _ _ _ _ _ _ (Option.some.inj (h1.symm.trans ho))
  refine ⟨⟨_, setO_objs _ _ _, fun _ _ _ _ _ _ hx => by cases hx; revert h2; cases q.p <;> (simp only; omega)⟩, h.2.1, fun t2 l2 hi => ?_⟩
  unfold refInfo at hi
  rw [setO_objs] at hi
  revert h2 hi
  cases hp : q.p with
  | none =>
    simp only
    intro h2 hi
    rw [if_neg (by omega)] at hi
    cases hi
  | some x =>
    simp only
    intro h2 hi
    rw [if_neg (by omega)] at hi
    cases hi
theorem RelPtr.stale {q : Ref} {t t' : Nat} {l : List (T.U t)} {l' : List (T.U t')} {ver nver : Nat} {dep dep' : Dep} {pin pin' : Bool} (ho : s.objs q.r = some (.arr t l ver nver dep pin)) {row col : Nat} {v : Value}
    (h : RelPtr e s w q row col v) : RelPtr e' (s.setO q.r (some (.arr t' l' (ver + 1) (nver + 1) dep' pin'))) w' q row col v := by
  obtain ⟨o, h1, h2⟩ := h.1
  have h2 := h2 _ _ _ _ _ _ (Option.some.inj (h1.symm.trans ho))
  refine ⟨⟨_, setO_objs _ _ _, fun _ _ _ _ _ _ hx => by cases hx; revert h2; cases q.p <;> (simp only; omega)⟩, h.2.1, (fun cs hc => by rw [setO_objs] at hc; cases hc), fun t2 l2 hi => ?_⟩
  unfold refInfo at hi
  rw [setO_objs] at hi
  revert h2 hi
  cases hp : q.p with
  | none =>
    simp only
    intro h2 hi
    rw [if_neg (by omega)] at hi
    cases hi
  | some x =>
    simp only
    intro h2 hi
    rw [if_neg (by omega)] at hi
    cases hi
theorem relMap_arr {r : Nat} {t t' : Nat} {l : List (T.U t)} {l' : List (T.U t')} {ver nver ver' nver' : Nat} {dep dep' : Dep} {pin pin' : Bool} {v : Value} (h : RelC0 e s w (.map r : C T) v) :
    RelC0 e' (s.setO r (some (.arr t' l' ver' nver' dep' pin'))) w' (.map r : C T) v :=
  ⟨⟨_, setO_objs _ _ _⟩, h.2.1, fun kt et l hm => by rw [setO_objs] at hm; cases hm⟩

theorem roomM_inv {el n : Nat} {k : M T α} (h : Rn Ok (roomM el n k) s a s') : 0 < T.bytes el ∧ 0 < T.size el ∧ n * T.bytes el ≤ 140737488355328 ∧ Rn Ok k s a s' := by
  obtain ⟨h1, h⟩ := rn_cond h
  obtain ⟨h2, h⟩ := rn_must h
  simp only [Bool.and_eq_true] at h1
  exact ⟨nble h1.1, nble h1.2, h2, h⟩

/-- Cells of values that have one cell each. -/
theorem news_one {t : Nat} {ys : List (T.U t)} {vals : Nat → Nat → Value} (hT : TblOk P T) (h : ∀ i j d, i < ys.length → (row T t ys i)[j]? = some d → ∃ K, RepD T w K d (vals i j)) : ∀ v ∈ newsOf ys.length (T.size t) vals, v.oneCell' = true := by
  intro v hv
  obtain ⟨k, hk⟩ := List.getElem?_of_mem hv
  obtain ⟨i, j, h1, h2, rfl, rfl⟩ := newsOf_inv hk
  have hlen : (row T t ys i).length = T.size t := by unfold Go.Sm.row; exact hT.len _ _
  obtain ⟨K, hr⟩ := h i j _ h1 (List.getElem?_eq_getElem (by omega))
  exact hr.one

/-- An append whose outcome is a new object. -/
theorem Good.appNew (hT : TblOk P T) (hG : Good W0 M0 e s tm w) {S : Nat → Prop} (hS : Loose W0 M0 e w S) {r : Nat} (hr : s.objs r = none) {t ty el : Nat} (hty : P.underlying t = some (.slice el)) (hs : 0 < T.size el) (hb : 0 < T.bytes el)
    {l ys : List (T.U el)} {dep : Dep} {A A2 : Option Addr} {c c2 : Nat} {olds news : Nat → Nat → Value} {F1 F2 : Nat → Nat → Nat → Prop} (hnc : l.length ≤ c) (hA0 : A = none → c = 0)
    (hblk : l.length + ys.length ≤ c → 0 < c → ∃ b off cs ell, A = some ⟨b, off, none⟩ ∧ S b ∧ w.heap[b]? = some (.cells cs ell (0, 0)) ∧ off + c * T.size el ≤ cs.size)
    (hold : l.length ≠ 0 → ∃ b off, A = some ⟨b, off, none⟩ ∧ ∀ j v, (newsOf l.length (T.size el) olds)[j]? = some v → w.cell? ⟨b, off + j, none⟩ = some v)
    (hnew : ys.length ≠ 0 → ∃ b off, A2 = some ⟨b, off, none⟩ ∧ ∀ j v, (newsOf ys.length (T.size el) news)[j]? = some v → w.cell? ⟨b, off + j, none⟩ = some v)
    (hro : ∀ i j d, i < l.length → (row T el l i)[j]? = some d → RowOk T w e.K dep i d (olds i j) (F1 i j))
    (hrn : ∀ i j d, i < ys.length → (row T el ys i)[j]? = some d → RowOk T w e.K dep (l.length + i) d (news i j) (F2 i j) ∧ ∃ K, RepD T w K d (news i j))
    (hF1 : ∀ i j b, F1 i j b → S b ∧ ∀ b' off, A = some ⟨b', off, none⟩ → b ≠ b') (hF2 : ∀ i j b, F2 i j b → S b ∧ ∀ b' off, A = some ⟨b', off, none⟩ → b ≠ b')
    (hd1 : ∀ i j i' j' b, F1 i j b → F1 i' j' b → i = i' ∧ j = j') (hd2 : ∀ i j i' j' b, F2 i j b → F2 i' j' b → i = i' ∧ j = j') (hd : ∀ i j i' j' b, F1 i j b → ¬ F2 i' j' b)
    (hroom : (l.length + ys.length) * T.bytes el ≤ 140737488355328) :
    ∃ e' w' val, Good W0 M0 e' (s.setO r (some (.arr el (l ++ ys) 0 0 dep false))) tm w' ∧ Keeps e s w e' (s.setO r (some (.arr el (l ++ ys) 0 0 dep false))) w' ∧
      RelC e' (s.setO r (some (.arr el (l ++ ys) 0 0 dep false))) w' (.own ⟨r, 0, none⟩ el none false) val ∧
      (Builtin.append_ #[t, t] ty #[.slice A l.length c, .slice A2 ys.length c2]).run P w = .ok val w' := by
  obtain ⟨A', c', w', g1, g2, g3, g4, g5, g6, g7, g8⟩ := append_mem (P := P) (w := w) (ty := ty) hT hs hb hty hnc hA0 (m := ys.length) (c2 := c2) (olds := newsOf l.length (T.size el) olds) (news := newsOf ys.length (T.size el) news)
    (fun h1 h2 => by obtain ⟨b, off, cs, ell, e1, e2, e3, e4⟩ := hblk h1 h2; exact ⟨b, off, cs, ell, e1, e3, e4⟩) (newsOf_length ..) hold (newsOf_length ..) hnew (news_one hT fun i j d hi hd => (hrn i j d hi hd).2) hroom
  have hlt : ∀ b, S b → b < w'.heap.size := fun b hb => Nat.lt_of_lt_of_le (hS.lt b hb) g3
  have hAS : ∀ b off, l.length + ys.length ≤ c → 0 < c → A = some ⟨b, off, none⟩ → S b := fun b off h1 h2 h3 => by
    obtain ⟨b', off', cs, ell, e1, e2, _⟩ := hblk h1 h2
    rw [h3] at e1
    simp only [Option.some.injEq, Addr.mk.injEq] at e1
    exact e1.1 ▸ e2
  have hsame : ∀ b, b < w.heap.size → ¬ S b → w'.heap[b]? = w.heap[b]? := fun b hb hn => g7 b hb fun h1 h2 off he => hn (hAS b off h1 h2 he)
  -- blocks of what lies deeper
  have hdeep : ∀ b, S b → (∀ b' off, A = some ⟨b', off, none⟩ → b ≠ b') → w'.heap[b]? = w.heap[b]? := fun b hb hne => g7 b (hS.lt b hb) fun h1 h2 off he => hne b off he rfl
  obtain ⟨k1, k2⟩ := hG.install hS hr g3 hsame g4 g5 g6 (.arr el (l ++ ys) 0 0 dep false) A' c' (fun b => S b ∨ (b = w.heap.size ∧ w.heap.size < w'.heap.size)) (fun b hb => by
    rcases hb with hb | ⟨rfl, hb⟩
    · exact ⟨.inl hb, hlt b hb⟩
    · exact ⟨.inr (Nat.le_refl _), hb⟩)
  have hA'ne : ∀ b, S b → (∀ b' off, A = some ⟨b', off, none⟩ → b ≠ b') → 0 < c' → ∀ b' off, A' = some ⟨b', off, none⟩ → b ≠ b' := by
    intro b hb hne hc' b' off he
    obtain ⟨b2, off2, cs, ell, e1, e2, _⟩ := g8 hc'
    rw [he] at e1
    simp only [Option.some.injEq, Addr.mk.injEq] at e1
    obtain ⟨rfl, rfl, _⟩ := e1
    rcases e2 with ⟨_, _, e2⟩ | ⟨e2, _⟩
    · exact hne _ _ e2
    · have := hS.lt b hb; omega
  have hro' : ∀ i j d, i < l.length → (row T el l i)[j]? = some d → RowOk T w' e.K dep i d (olds i j) (fun b => F1 i j b ∧ i < l.length) := fun i j d hi hd => by
    have h1 := (hro i j d hi hd).mono (w' := w') (fun _ h => h) (fun b hb => hsame b (hG.rel.lt b (.inl hb)) (fun h => hS.notK b h hb)) (fun b hb => hdeep b (hF1 i j b hb).1 (hF1 i j b hb).2)
    cases dep with
    | all => exact OwnD.wider h1 fun b hb => ⟨hb, hi⟩
    | upto m => exact h1.imp (fun x => ⟨x.1, x.2.wider fun b hb => ⟨hb, hi⟩⟩) id
    | hole m => exact h1.imp id fun x => OwnD.wider x fun b hb => ⟨hb, hi⟩
  have hrn' : ∀ i j d, i < ys.length → (row T el ys i)[j]? = some d → RowOk T w' e.K dep (l.length + i) d (news i j) (fun b => F2 i j b ∧ i < ys.length) := fun i j d hi hd => by
    have h1 := (hrn i j d hi hd).1.mono (w' := w') (fun _ h => h) (fun b hb => hsame b (hG.rel.lt b (.inl hb)) (fun h => hS.notK b h hb)) (fun b hb => hdeep b (hF2 i j b hb).1 (hF2 i j b hb).2)
    cases dep with
    | all => exact OwnD.wider h1 fun b hb => ⟨hb, hi⟩
    | upto m => exact h1.imp (fun x => ⟨x.1, x.2.wider fun b hb => ⟨hb, hi⟩⟩) id
    | hole m => exact h1.imp id fun x => OwnD.wider x fun b hb => ⟨hb, hi⟩
  obtain ⟨vals, F, hA⟩ := app_arr (w' := w') (K := e.K) (dep := dep) (S := fun b => S b ∨ (b = w.heap.size ∧ w.heap.size < w'.heap.size)) hT g2 (fun hc' => by
      obtain ⟨b, off, cs, ell, e1, e2, e3, e4, e5, e6⟩ := g8 hc'
      refine ⟨b, off, cs, ell, e1, ?_, e3, e4, e5, e6⟩
      rcases e2 with ⟨h1, h2, h3⟩ | ⟨rfl, h2⟩
      · exact .inl (hAS b off h1 h2 h3)
      · exact .inr ⟨rfl, h2⟩) hro' hrn' (fun i j b hb => ⟨.inl (hF1 i j b hb.1).1, hA'ne b (hF1 i j b hb.1).1 (hF1 i j b hb.1).2 (by have := hb.2; omega)⟩) (fun i j b hb => ⟨.inl (hF2 i j b hb.1).1, hA'ne b (hF2 i j b hb.1).1 (hF2 i j b hb.1).2 (by have := hb.2; omega)⟩)
      (fun i j i' j' b h h' => hd1 _ _ _ _ _ h.1 h'.1) (fun i j i' j' b h h' => hd2 _ _ _ _ _ h.1 h'.1) (fun i j i' j' b h h' => hd _ _ _ _ _ h.1 h'.1)
  refine ⟨_, w', _, k2 ⟨vals, F, ?_⟩, k1, own_rel (setO_objs _ _ _) el (Env.put_adr ..) (Env.put_cap ..), ?_⟩
  · rw [Env.put_adr, Env.put_cap]
    have : (e.put r A' c' fun b => S b ∨ (b = w.heap.size ∧ w.heap.size < w'.heap.size)).fp r = fun b => S b ∨ (b = w.heap.size ∧ w.heap.size < w'.heap.size) := by funext b; simp [Env.put]
    rw [this]
    exact hA
  · rw [g1, List.length_append]
end
end Go.Sm
end

section
set_option linter.unusedSimpArgs false
set_option linter.deprecated false
set_option linter.unusedSectionVars false
set_option linter.unusedVariables false
namespace Go.Sm
variable {T : Tbl} {α : Type}
section
variable {Ok : Nat → List (A T) → Res T → Prop} {s s' : St T} {a : α} {P : Program} {e e' : Env} {w w' W0 : World} {M0 : Gh} {tm : Array Value}

/-- An append that turns an object on. -/
theorem Good.appOld (hT : TblOk P T) (hG : Good W0 M0 e s tm w) {S : Nat → Prop} (hS : Loose W0 M0 e w S) {r : Nat} {t ty el : Nat} {l0 : List (T.U el)} {ver nver : Nat} {dep0 : Dep} {pin : Bool} (ho : s.objs r = some (.arr el l0 ver nver dep0 pin)) (hty : P.underlying t = some (.slice el)) (hs : 0 < T.size el) (hb : 0 < T.bytes el)
    {l ys : List (T.U el)} {dep : Dep} {A A2 : Option Addr} {c c2 : Nat} {news : Nat → Nat → Value} {olds : Nat → Nat → Value} {F1 F2 : Nat → Nat → Nat → Prop}
    (hA : ArrOk T w e.K el l .all A c (e.fp r) olds F1) (hdep : l = [] ∨ dep = .all)
    (hnew : ys.length ≠ 0 → ∃ b off, A2 = some ⟨b, off, none⟩ ∧ ∀ j v, (newsOf ys.length (T.size el) news)[j]? = some v → w.cell? ⟨b, off + j, none⟩ = some v)
    (hrn : ∀ i j d, i < ys.length → (row T el ys i)[j]? = some d → RowOk T w e.K dep (l.length + i) d (news i j) (F2 i j) ∧ ∃ K, RepD T w K d (news i j))
    (hF2 : ∀ i j b, F2 i j b → S b) (hd2 : ∀ i j i' j' b, F2 i j b → F2 i' j' b → i = i' ∧ j = j')
    (hroom : (l.length + ys.length) * T.bytes el ≤ 140737488355328) :
    ∃ e' w' val, Good W0 M0 e' (s.setO r (some (.arr el (l ++ ys) (ver + 1) (nver + 1) dep false))) tm w' ∧ Keeps e s w e' (s.setO r (some (.arr el (l ++ ys) (ver + 1) (nver + 1) dep false))) w' ∧
      RelC e' (s.setO r (some (.arr el (l ++ ys) (ver + 1) (nver + 1) dep false))) w' (.own ⟨r, ver + 1, none⟩ el none false) val ∧
      (Builtin.append_ #[t, t] ty #[.slice A l.length c, .slice A2 ys.length c2]).run P w = .ok val w' := by
  have hA0 : A = none → c = 0 := fun h => by
    rcases Nat.eq_zero_or_pos c with h0 | h0
    · exact h0
    · obtain ⟨b, off, cs, ell, e1, _⟩ := hA.hblk h0
      rw [h] at e1; cases e1
  have hold : l.length ≠ 0 → ∃ b off, A = some ⟨b, off, none⟩ ∧ ∀ j v, (newsOf l.length (T.size el) olds)[j]? = some v → w.cell? ⟨b, off + j, none⟩ = some v := news_of hT hA.hA hA.hcell
  obtain ⟨A', c', w', g1, g2, g3, g4, g5, g6, g7, g8⟩ := append_mem (P := P) (w := w) (ty := ty) hT hs hb hty hA.hc hA0 (m := ys.length) (c2 := c2) (olds := newsOf l.length (T.size el) olds) (news := newsOf ys.length (T.size el) news)
    (fun h1 h2 => by obtain ⟨b, off, cs, ell, e1, e2, e3, e4⟩ := hA.hblk h2; exact ⟨b, off, cs, ell, e1, e3, e4⟩) (newsOf_length ..) hold (newsOf_length ..) hnew (news_one hT fun i j d hi hd => (hrn i j d hi hd).2) hroom
  have hAS : ∀ b off, 0 < c → A = some ⟨b, off, none⟩ → e.fp r b := fun b off h2 h3 => by
    obtain ⟨b', off', cs, ell, e1, e2, _⟩ := hA.hblk h2
    rw [h3] at e1
    simp only [Option.some.injEq, Addr.mk.injEq] at e1
    exact e1.1 ▸ e2
  have hsame : ∀ b, b < w.heap.size → ¬ e.fp r b → w'.heap[b]? = w.heap[b]? := fun b hb hn => g7 b hb fun h1 h2 off he => hn (hAS b off h2 he)
  have hlt : ∀ b, e.fp r b → b < w.heap.size := fun b hb => hG.rel.lt b (.inr ⟨r, hb⟩)
  let fp : Nat → Prop := fun b => e.fp r b ∨ S b ∨ (b = w.heap.size ∧ w.heap.size < w'.heap.size)
  obtain ⟨k1, k2, k3⟩ := Rel.upd (w' := w') (x := .arr el (l ++ ys) (ver + 1) (nver + 1) dep false) hG.rel hG.fr hS (Env.put_upd e r A' c' fp) (fun _ h => h) (fun _ h => .inl h) g3 (fun b hb hn _ => hsame b hb hn) g4 g5 g6
    (fun b hb => by
      rw [Env.put_fp] at hb
      rcases hb with hb | hb | ⟨rfl, hb⟩
      · exact ⟨.inl hb, Nat.lt_of_lt_of_le (hlt b hb) g3⟩
      · exact ⟨.inr (.inl hb), Nat.lt_of_lt_of_le (hS.lt b hb) g3⟩
      · exact ⟨.inr (.inr (Nat.le_refl _)), hb⟩)
    (fun q rng v hq h => by subst hq; exact RelRef.stale ho h) (fun q row col v hq h => by subst hq; exact RelPtr.stale ho h) (fun v h => relMap_arr (l := l0) (ver := ver) (nver := nver) (dep := dep0) (pin := pin) h)
  have hnotA : ∀ b, (∀ b' off, 0 < c → A = some ⟨b', off, none⟩ → b ≠ b') → b < w.heap.size → 0 < c' → ∀ b' off, A' = some ⟨b', off, none⟩ → b ≠ b' := by
    intro b hne hb hc' b' off he
    obtain ⟨b2, off2, cs, ell, e1, e2, _⟩ := g8 hc'
    rw [he] at e1
    simp only [Option.some.injEq, Addr.mk.injEq] at e1
    obtain ⟨rfl, rfl, _⟩ := e1
    rcases e2 with ⟨_, h0, e2⟩ | ⟨e2, _⟩
    · exact hne _ _ h0 e2
    · omega
  have hro' : ∀ i j d, i < l.length → (row T el l i)[j]? = some d → RowOk T w' e.K dep i d (olds i j) (fun b => F1 i j b ∧ i < l.length) := fun i j d hi hd => by
    rcases hdep with rfl | rfl
    · exact absurd hi (Nat.not_lt_zero _)
    · have h1 : RowOk T w' e.K .all i d (olds i j) (F1 i j) := (hA.hsub i j d hi hd).mono (w' := w') (fun _ h => h) (fun b hb => hsame b (hG.rel.lt b (.inl hb)) (fun h => hG.rel.disK _ _ h hb)) (fun b hb => g7 b (hlt b (hA.hF i j b hb).1) fun _ _ off he => (hA.hF i j b hb).2 _ _ he rfl)
      exact OwnD.wider h1 fun b hb => ⟨hb, hi⟩
  have hrn' : ∀ i j d, i < ys.length → (row T el ys i)[j]? = some d → RowOk T w' e.K dep (l.length + i) d (news i j) (fun b => F2 i j b ∧ i < ys.length) := fun i j d hi hd => by
    have h1 := (hrn i j d hi hd).1.mono (w' := w') (fun _ h => h) (fun b hb => hsame b (hG.rel.lt b (.inl hb)) (fun h => hG.rel.disK _ _ h hb)) (fun b hb => hsame b (hS.lt b (hF2 i j b hb)) (hS.notFp _ _ (hF2 i j b hb)))
    cases dep with
    | all => exact OwnD.wider h1 fun b hb => ⟨hb, hi⟩
    | upto m => exact h1.imp (fun x => ⟨x.1, x.2.wider fun b hb => ⟨hb, hi⟩⟩) id
    | hole m => exact h1.imp id fun x => OwnD.wider x fun b hb => ⟨hb, hi⟩
  obtain ⟨vals, F, hA'⟩ := app_arr (w' := w') (K := e.K) (dep := dep) (S := fp) hT g2 (fun hc' => by
      obtain ⟨b, off, cs, ell, e1, e2, e3, e4, e5, e6⟩ := g8 hc'
      refine ⟨b, off, cs, ell, e1, ?_, e3, e4, e5, e6⟩
      rcases e2 with ⟨h1, h2, h3⟩ | ⟨rfl, h2⟩
      · exact .inl (hAS b off h2 h3)
      · exact .inr (.inr ⟨rfl, h2⟩)) hro' hrn' (fun i j b hb => ⟨.inl (hA.hF i j b hb.1).1, hnotA b (fun b' off _ he => (hA.hF i j b hb.1).2 b' off he) (hlt b (hA.hF i j b hb.1).1) (by have := hb.2; omega)⟩)
      (fun i j b hb => ⟨.inr (.inl (hF2 i j b hb.1)), hnotA b (fun b' off h0 he hbb => by subst hbb; exact hS.notFp r b (hF2 i j b hb.1) (hAS b off h0 he)) (hS.lt b (hF2 i j b hb.1)) (by have := hb.2; omega)⟩)
      (fun i j i' j' b h h' => hA.hdis _ _ _ _ _ h.1 h'.1) (fun i j i' j' b h h' => hd2 _ _ _ _ _ h.1 h'.1) (fun i j i' j' b h h' => hS.notFp r b (hF2 _ _ _ h'.1) (hA.hF _ _ _ h.1).1)
  refine ⟨_, w', _, ⟨k3 ⟨vals, F, ?_⟩, k2, hG.pin.upd (Env.put_upd ..).adr (Env.put_upd ..).cap ⟨fun _ _ _ _ _ h => (by cases h), fun _ _ h => (by cases h)⟩⟩, k1, own_rel (setO_objs _ _ _) el (Env.put_adr ..) (Env.put_cap ..), ?_⟩
  · rw [Env.put_adr, Env.put_cap]
    have : (e.put r A' c' fp).fp r = fp := by funext b; simp [Env.put]
    rw [this]
    exact hA'
  · rw [g1, List.length_append]

/-- What a row of an object leads to is taken out of the object. -/
theorem OwnD.header {d : D T.U} {v : Value} {S : Nat → Prop} (h : OwnD T w d v S) (hd : d.isArr = true) : ∃ A n c, v = .slice A n c ∧ ∀ t l, d = .arr t l → n = l.length := by
  cases d with
  | arr t l => obtain ⟨A, c, _, _, he, _⟩ := (OwnD.arr_iff (fun _ => False)).1 h; exact ⟨A, _, c, he, fun t2 l2 e => by cases e; rfl⟩
  | nil => cases h; exact ⟨none, 0, 0, rfl, fun t l e => by cases e⟩
  | _ => cases hd
theorem Good.release (hG : Good W0 M0 e s tm w) {r t i col : Nat} {l : List (T.U t)} {ver nver : Nat} {pin : Bool} (ho : s.objs r = some (.arr t l ver nver .all pin)) (hi : i < l.length) {d : D T.U} (hd : (row T t l i)[col]? = some d)
    {ad : Addr} (had : e.adr r = some ad) (hsp : ad.spot = none) {v : Value} (hv : w.cell? ⟨ad.block, ad.off + i * T.size t + col, none⟩ = some v) :
    ∃ e1 S, Good W0 M0 e1 (s.setO r (some (.arr t l ver (nver + 1) (.hole i) pin))) tm w ∧ Keeps e s w e1 (s.setO r (some (.arr t l ver (nver + 1) (.hole i) pin))) w ∧ e1.K = e.K ∧ Loose W0 M0 e1 w S ∧ OwnD T w d v S := by
  obtain ⟨vals, F, hA⟩ := hG.rel.objs _ _ ho
  obtain ⟨b0, off0, sp0⟩ := ad
  simp only at hsp hv
  subst hsp
  have hvv : v = vals i col := by
    have := hA.vals_at had hi hd
    rw [hv] at this
    exact Option.some.inj this
  have hown : OwnD T w d v (F i col) := by rw [hvv]; exact hA.hsub i col d hi hd
  let e1 : Env := { e with fp := fun r' b => e.fp r' b ∧ ¬ (r' = r ∧ F i col b) }
  have hrefI : ∀ q : Ref, q.r = r → q.p = none → refInfo (s.setO r (some (.arr t l ver (nver + 1) (.hole i) pin))) q = refInfo s q := fun q hq hp => by
    subst hq
    unfold refInfo
    rw [setO_objs, ho]
    simp only [hp]
  have hrefS : ∀ q : Ref, q.r = r → Live s q → ∀ x, q.p = some x → refInfo (s.setO r (some (.arr t l ver (nver + 1) (.hole i) pin))) q = none := fun q hq hl x hp => by
    subst hq
    obtain ⟨o, h1, h2⟩ := hl
    have h2 := h2 _ _ _ _ _ _ (Option.some.inj (h1.symm.trans ho))
    unfold refInfo
    rw [setO_objs]
    simp only [hp] at h2 ⊢
    rw [if_neg (by omega)]
  have hlive : ∀ q : Ref, q.r = r → Live s q → Live (s.setO r (some (.arr t l ver (nver + 1) (.hole i) pin))) q := fun q hq hl => by
    subst hq
    obtain ⟨o, h1, h2⟩ := hl
    have h2 := h2 _ _ _ _ _ _ (Option.some.inj (h1.symm.trans ho))
    refine ⟨_, setO_objs _ _ _, fun _ _ _ _ _ _ hx => by cases hx; revert h2; cases q.p <;> (simp only; omega)⟩
  obtain ⟨k1, k2, k3⟩ := Rel.upd (e' := e1) (w' := w) (x := .arr t l ver (nver + 1) (.hole i) pin) hG.rel hG.fr Loose.none (r := r) ⟨fun _ _ => rfl, fun _ _ => rfl, fun r' b h => ⟨fun x => x.1, fun x => ⟨x, fun y => h y.1⟩⟩⟩ (fun _ h => h) (fun _ h => .inl h) (Nat.le_refl _) (fun _ _ _ _ => rfl) rfl rfl (Oth.refl _)
    (fun b hb => ⟨.inl hb.1, hG.rel.lt b (.inr ⟨_, hb.1⟩)⟩)
    (fun q rng v hq h => by
      refine ⟨hlive q hq h.1, h.2.1, fun t' l' hi' => ?_⟩
      cases hp : q.p with
      | none =>
        rw [hrefI q hq hp] at hi'
        obtain ⟨A, c, h1, h2⟩ := h.2.2 t' l' hi'
        refine ⟨A, c, ?_, h2⟩
        unfold RefAt at *
        simp only [hp] at *
        exact h1
      | some x => rw [hrefS q hq h.1 x hp] at hi'; cases hi')
    (fun q row col v hq h => by
      refine ⟨hlive q hq h.1, h.2.1, (fun cs hc => by rw [hq, setO_objs] at hc; cases hc), fun t' l' hi' => ?_⟩
      cases hp : q.p with
      | none =>
        rw [hrefI q hq hp] at hi'
        obtain ⟨A, c, c2, h1, h2⟩ := h.2.2.2 t' l' hi'
        refine ⟨A, c, c2, ?_, h2⟩
        unfold RefAt at *
        simp only [hp] at *
        exact h1
      | some x => rw [hrefS q hq h.1 x hp] at hi'; cases hi')
    (fun v h => relMap_arr (t := t) (l := l) (ver := ver) (nver := nver) (dep := .all) (pin := pin) h)
  refine ⟨e1, F i col, ⟨k3 ⟨vals, fun i' j' b => i' ≠ i ∧ F i' j' b, ?_⟩, k2, hG.pin.upd (fun _ _ => rfl) (fun _ _ => rfl) ⟨fun _ _ _ _ _ h => (by cases h; exact hG.pin.arr _ _ _ _ _ _ ho), fun _ _ h => (by cases h)⟩⟩, k1, rfl, ⟨fun b hb => hG.rel.disK _ _ (hA.hF _ _ _ hb).1, fun r' b hb h => ?_, fun b hb => hG.rel.lt b (.inr ⟨_, (hA.hF _ _ _ hb).1⟩), fun b hb => hG.fr.own _ _ (hA.hF _ _ _ hb).1⟩, hown⟩
  · refine ⟨hA.hc, hA.hA, fun hp => ?_, hA.hcell, fun i' j' d' hi' hd' => ?_, fun i' j' b hb => ?_, fun i' j' i2 j2 b h1 h2 => hA.hdis _ _ _ _ _ h1.2 h2.2⟩
    · obtain ⟨b, off, cs, el, e1, e2, e3, e4⟩ := hA.hblk hp
      exact ⟨b, off, cs, el, e1, ⟨e2, fun ⟨_, hF⟩ => (hA.hF _ _ _ hF).2 _ _ e1 rfl⟩, e3, e4⟩
    · by_cases h : i' = i
      · cases hd' : d'.isArr with
        | true =>
          refine .inl ⟨h, hd', ?_⟩
          have h1 : OwnD T w d' (vals i' j') (F i' j') := hA.hsub i' j' d' hi' (by assumption)
          exact h1.header hd'
        | false =>
          refine .inr ?_
          have h1 : OwnD T w d' (vals i' j') (F i' j') := hA.hsub i' j' d' hi' (by assumption)
          exact flat_own h1.rep hd'
      · exact .inr (OwnD.wider (hA.hsub i' j' d' hi' hd') fun b hb => ⟨h, hb⟩)
    · exact ⟨⟨(hA.hF _ _ _ hb.2).1, fun ⟨_, hF⟩ => hb.1 (hA.hdis _ _ _ _ _ hb.2 hF).1⟩, (hA.hF _ _ _ hb.2).2⟩
  · have hr' := hG.rel.dis _ _ _ h.1 (hA.hF _ _ _ hb).1
    exact h.2 ⟨hr', hb⟩
end
end Go.Sm
end

section
set_option linter.unusedSimpArgs false
set_option linter.deprecated false
set_option linter.unusedSectionVars false
set_option linter.unusedVariables false
namespace Go.Sm
variable {T : Tbl} {α : Type}
section
variable {Ok : Nat → List (A T) → Res T → Prop} {s s' : St T} {a : α} {P : Program} {e e' : Env} {w w' W0 : World} {M0 : Gh} {tm : Array Value}

/-- What an operation leaves: a state of the same registers, and a cell to be put. -/
def Made (Ok : Nat → List (A T) → Res T → Prop) (P : Program) (W0 : World) (M0 : Gh) (e : Env) (s : St T) (tm : Array Value) (w : World) (k : C T → M T α) (a : α) (s' : St T) (m : Sem Value) : Prop :=
  ∃ c s1 e1 w1 val, Rn Ok (k c) s1 a s' ∧ Good W0 M0 e1 s1 tm w1 ∧ Keeps e s w e1 s1 w1 ∧ s1.regs = s.regs ∧ RelC e1 s1 w1 c val ∧ m.run P w = .ok val w1

theorem rn_appRows {own : Bool} {K : Nat → Prop} {el n : Nat} {ys : List (T.U el)} {vals : Nat → Nat → Value} {F : Nat → Nat → Nat → Prop}
    (h : ∀ i j d, i < ys.length → (row T el ys i)[j]? = some d → (own = true → OwnD T w d (vals i j) (F i j)) ∧ (own = false → RepD T w K d (vals i j))) :
    ∀ i j d, i < ys.length → (row T el ys i)[j]? = some d → RowOk T w K (depOf own) (n + i) d (vals i j) (F i j) ∧ ∃ K, RepD T w K d (vals i j) := by
  intro i j d hi hd
  obtain ⟨h1, h2⟩ := h i j d hi hd
  cases own with
  | true => exact ⟨h1 rfl, _, (h1 rfl).rep⟩
  | false => exact ⟨.inr ⟨Nat.zero_le _, h2 rfl⟩, _, h2 rfl⟩

theorem appendM_ok (hT : TblOk P T) (hG : Good W0 M0 e s tm w) {dd t ty el : Nat} (hty : T.ty t = .slice el) {x y : C T} {u v : Value} (hx : RelC e s w x u) (hy : RelC e s w y v) {k : C T → M T α} (h : Rn Ok (appendM dd el x y k) s a s') :
    Made Ok P W0 M0 e s tm w k a s' (Builtin.append_ #[t, t] ty #[u, v]) := by
  unfold appendM at h
  have hX := elemsM_ok hT hG hy h
  clear h
  obtain ⟨ys, own, s1, e1, S1, A2, c2, news, F2, h, g1, g2, g3, g4, g5, g6, g7, g8, g9, g10, g11⟩ := hX
  subst g6
  replace hx := g2.c hx
  have hund := hT.slice _ _ hty
  split at h
  · -- nil
    obtain ⟨r1, r2, r3, h⟩ := roomM_inv h
    have hX := rn_newO h
    clear h
    obtain ⟨⟨h0, h0b⟩, h⟩ := hX
    cases hx
    obtain ⟨e', w', val, q1, q2, q3, q4⟩ := Good.appNew (l := ([] : List (T.U el))) (A := none) (c := 0) (olds := fun _ _ => .tuple #[]) (F1 := fun _ _ _ => False) (t := t) (ty := ty) hT g1 g3 h0 hund r2 r1 (Nat.le_refl _) (fun _ => rfl)
      (fun _ h => absurd h (Nat.lt_irrefl _)) (fun h => absurd rfl h) g7 (fun i j d hi => absurd hi (Nat.not_lt_zero _)) (rn_appRows (n := 0) g8) (fun _ _ _ h => h.elim) (fun i j b hb => ⟨g9 i j b hb, fun _ _ h => by cases h⟩) (fun _ _ _ _ _ h => h.elim) g10 (fun _ _ _ _ _ h => h.elim)
      (by simpa using r3)
    exact ⟨_, _, e', w', val, h, q1, g2.trans q2, g5, q3, q4⟩
  · -- full
    rename_i t' l
    have hX := rn_cond h
    clear h
    obtain ⟨hf, h⟩ := hX
    have hX := rn_withL h
    clear h
    obtain ⟨rfl, h⟩ := hX
    rcases rn_br h with ⟨h1, h⟩ | ⟨_, h⟩
    · obtain ⟨r1, r2, r3, h⟩ := roomM_inv h
      have hX := rn_newO h
      clear h
      obtain ⟨⟨h0, h0b⟩, h⟩ := hX
      obtain ⟨Ax, rfl, hr⟩ := hx
      obtain ⟨A, c, vals, he, k2, k3, k4, k5⟩ := hr.arr_inv
      simp only [Value.slice.injEq, true_and] at he
      obtain ⟨rfl, rfl⟩ := he
      have hne : ys.length ≠ 0 := fun h => by rw [List.length_eq_zero_iff] at h; subst h; simp at h1
      have hown := g11 hf
      subst hown
      obtain ⟨e', w', val, q1, q2, q3, q4⟩ := Good.appNew (l := l) (A := Ax) (c := l.length) (olds := vals) (F1 := fun _ _ _ => False) (dep := .all) (F2 := fun _ _ _ => False) (t := t) (ty := ty) hT g1 g3 h0 hund r2 r1 (Nat.le_refl _)
        (fun h => by
          rcases Nat.eq_zero_or_pos l.length with h0 | h0
          · exact h0
          · obtain ⟨b, off, he⟩ := k3 (fun h => by subst h; exact absurd h0 (Nat.lt_irrefl _))
            rw [h] at he; cases he)
        (fun h _ => absurd h (by omega)) (news_of hT k3 fun i j d hi hd => by obtain ⟨b, off, e1, _, e3⟩ := k4 i j d hi hd; exact ⟨b, off, e1, e3⟩) g7
        (fun i j d hi hd => flat_own (k5 i j d hi hd) (flat_row hT hf hd)) (fun i j d hi hd => ⟨flat_own ((g8 i j d hi hd).1 rfl).rep (flat_row hT hf hd), _, ((g8 i j d hi hd).1 rfl).rep⟩)
        (fun _ _ _ h => h.elim) (fun _ _ _ h => h.elim) (fun _ _ _ _ _ h => h.elim) (fun _ _ _ _ _ h => h.elim) (fun _ _ _ _ _ h => h.elim)
        (by rw [← List.length_append]; exact r3)
      exact ⟨_, _, e', w', val, h, q1, g2.trans q2, g5, q3, q4⟩
    · exact (rn_fail h).elim
  · -- one's own
    rename_i q t0 rng
    replace h := rn_getO h
    split at h
    · rename_i t' l0 ver nver dep pin ho
      split at h
      · rename_i hp
        have hX := rn_cond h
        clear h
        obtain ⟨h0, h⟩ := hX
        simp only [Bool.and_eq_true, Bool.not_eq_true'] at h0
        have hX := rn_withL h
        clear h
        obtain ⟨rfl, h⟩ := hX
        have hX := rn_cut h
        clear h
        obtain ⟨l, hcut, h⟩ := hX
        have hver := nbeq h0.1
        have hi : refInfo s1 q = some ⟨t', l0⟩ := by unfold refInfo; simp only [ho, hp]; rw [if_pos hver]
        obtain ⟨A, c, hat, hsl⟩ := hx.2.2 _ _ hi
        unfold RefAt at hat
        simp only [hp] at hat
        obtain ⟨rfl, rfl⟩ := hat
        obtain ⟨vals0, F0, hA0⟩ := g1.rel.objs _ _ ho
        have hq : q = ⟨q.r, ver, none⟩ := by cases q; simp at hp hver; subst hp; subst hver; rfl
        have key : ∀ (own' : Bool), own' = own → (l = [] ∨ depOf own' = .all) → dep = .all → Rn Ok (roomM t' (l ++ ys).length (.setO q.r (some (.arr t' (l ++ ys) (ver + 1) (nver + 1) (depOf own') false)) (k (.own ⟨q.r, ver + 1, none⟩ t' none false)))) s1 a s' →
            Made Ok P W0 M0 e s tm w k a s' (Builtin.append_ #[t, t] ty #[u, .slice A2 ys.length c2]) := by
          intro own' hown hl hdep hk
          subst hown
          subst hdep
          obtain ⟨r1, r2, r3, hk⟩ := roomM_inv hk
          replace hk := rn_setO hk
          have hown : OwnD T w (.arr t' l0) (.slice (e1.adr q.r) l0.length (e1.cap q.r)) (e1.fp q.r) := (OwnD.arr_iff e1.K).2 ⟨_, _, vals0, F0, rfl, hA0⟩
          obtain ⟨A', c', vals', F', rfl, hA'⟩ := (OwnD.arr_iff e1.K).1 (hown.cut hcut hsl)
          obtain ⟨e', w', val, q1, q2, q3, q4⟩ := Good.appOld (t := t) (ty := ty) (dep := depOf own') hT g1 g3 ho hund r2 r1 hA' hl g7 (rn_appRows g8) g9 g10 (by rw [← List.length_append]; exact r3)
          exact ⟨_, _, e', w', val, hk, q1, g2.trans q2, g5, q3, q4⟩
        split at h
        · exact key true rfl (.inr rfl) rfl h
        · exact key false rfl (.inl rfl) rfl h
        · exact (rn_fail h).elim
      · rename_i i col hp
        have hX := rn_cond h
        clear h
        obtain ⟨h0, h⟩ := hX
        simp only [Bool.and_eq_true] at h0
        obtain ⟨⟨h01, hf⟩, h03⟩ := h0
        have hver := nbeq h01
        have hX := rn_must h
        clear h
        obtain ⟨hi, h⟩ := hX
        split at h
        · rename_i t2 l2 hd
          have hX := rn_withL h
          clear h
          obtain ⟨rfl, h⟩ := hX
          have hX := rn_cut h
          clear h
          obtain ⟨l, hcut, h⟩ := hX
          obtain ⟨r1, r2, r3, h⟩ := roomM_inv h
          have h := rn_setO h
          have hX := rn_newO h
          clear h
          obtain ⟨⟨h0, h0b⟩, h⟩ := hX
          have hd : (row T t' l0 i)[col]? = some (.arr t2 l2) := hd
          have hinf : refInfo s1 q = some ⟨t2, l2⟩ := by
            unfold refInfo; simp only [ho, hp]; rw [if_pos hver, if_pos hi]
            rw [hd]
          obtain ⟨A, c, hat, hsl⟩ := hx.2.2 _ _ hinf
          unfold RefAt at hat
          simp only [hp] at hat
          obtain ⟨t3, l3, ver3, nver3, dep3, pin3, b, off, n, k1, k2, k3, k4⟩ := hat
          rw [ho] at k1
          cases k1
          obtain ⟨e2, S, q1, q2, q3, q4, q5⟩ := g1.release ho hi hd k3 rfl k4
          have hn : n = l2.length := by
            obtain ⟨_, _, _, _, he, _⟩ := (OwnD.arr_iff e1.K).1 q5
            simp only [Value.slice.injEq] at he
            exact he.2.1
          subst hn
          obtain ⟨A', c', vals', F', rfl, hA'⟩ := (OwnD.arr_iff e2.K).1 (q5.cut hcut hsl)
          have hown := g11 hf
          subst hown
          obtain ⟨e', w', val, p1, p2, p3, p4⟩ := Good.appNew (l := l) (A := A') (c := c') (olds := vals') (F1 := fun _ _ _ => False) (dep := .all) (F2 := fun _ _ _ => False) (t := t) (ty := ty) hT q1 q4 h0 hund r2 r1 hA'.hc
            (fun h => by
              rcases Nat.eq_zero_or_pos c' with h0 | h0
              · exact h0
              · obtain ⟨b, off, cs, ell, e1, _⟩ := hA'.hblk h0
                rw [h] at e1; cases e1)
            (fun _ h => by obtain ⟨b, off, cs, ell, e1, e2, e3, e4⟩ := hA'.hblk h; exact ⟨b, off, cs, ell, e1, e2, e3, e4⟩) (news_of hT hA'.hA hA'.hcell) g7
            (fun i j d hi hd => flat_own (K := e2.K) (w := w) (OwnD.rep (hA'.hsub i j d hi hd) |>.mono (K' := fun _ => True) (fun _ _ => trivial) (fun _ _ => rfl) |> fun x => flat_rep x (flat_row hT hf hd)) (flat_row hT hf hd))
            (fun i j d hi hd => ⟨flat_own ((g8 i j d hi hd).1 rfl).rep (flat_row hT hf hd), _, ((g8 i j d hi hd).1 rfl).rep⟩)
            (fun _ _ _ h => h.elim) (fun _ _ _ h => h.elim) (fun _ _ _ _ _ h => h.elim) (fun _ _ _ _ _ h => h.elim) (fun _ _ _ _ _ h => h.elim)
            (by rw [← List.length_append]; exact r3)
          exact ⟨_, _, e', w', val, h, p1, (g2.trans q2).trans p2, g5, p3, p4⟩
        · exact (rn_fail h).elim
    · exact (rn_fail h).elim
  · exact (rn_fail h).elim
end
end Go.Sm
end

section
set_option linter.unusedSimpArgs false
set_option linter.deprecated false
set_option linter.unusedSectionVars false
set_option linter.unusedVariables false
namespace Go.Sm
variable {T : Tbl} {α : Type}
section
variable {Ok : Nat → List (A T) → Res T → Prop} {s s' : St T} {a : α} {P : Program} {e e' : Env} {w w' W0 : World} {M0 : Gh} {tm : Array Value}

/-- A world in which one row has been rewritten. -/
structure RowW (w w' : World) (b : Nat) (cs : Array Value) (el : Nat) : Prop where
  size : w'.heap.size = w.heap.size
  blk : w'.heap[b]? = some (.cells cs el (0, 0))
  oth : ∀ b', b' ≠ b → w'.heap[b']? = w.heap[b']?
  os : w'.os = w.os
  tape : w'.tape = w.tape
  output : Oth w w'
theorem RowW.set {b : Nat} {old cs : Array Value} {el : Nat} (h : w.heap[b]? = some (.cells old el (0, 0))) (hs : cs.size = old.size) : RowW w (w.setRow b cs) b cs el :=
  ⟨by show (w.heap.modify _ _).size = _; simp, setRow_heap w b old _ el _ h, fun b' hb => by simp only [World.setRow, Array.getElem?_modify]; rw [if_neg (fun h => hb h.symm)], rfl, rfl, Oth.setRow h hs⟩

theorem run_storeAt (hT : TblOk P T) {t b off el : Nat} {cs : Array Value} {v : Value} (hb : w.heap[b]? = some (.cells cs el (0, 0))) (hs : 0 < T.size t) (hl : v.cells.size = T.size t) (hfit : off + v.cells.size ≤ cs.size) (h1 : ∀ u ∈ v.cells.toList, u.oneCell' = true) :
    ∃ w', (Instr.storeAt t (.pointer (some ⟨b, off, none⟩)) v).run P w = .ok () w' ∧ RowW w w' b (putAt cs.toList off v.cells.toList).toArray el := by
  refine ⟨_, ?_, RowW.set hb (by simp only [List.size_toArray]; rw [putAt_length _ _ _ (by simpa using hfit)]; simp)⟩
  have hst := run_storeCells_at P b off el v.cells.toList 0 cs w hb (by simpa using hfit) h1
  simp only [Instr.storeAt, Instr.sureAddr, storeVar, Sem.run_bind, Sem.run_pure, Result.andThen_ok, run_size hT hs, hl]
  simp only [ne_eq, not_true_eq_false, if_false, Sem.run_bind, Sem.run_pure, Result.andThen_ok]
  rw [hst]
  simp [putAt]

theorem ArrOk.store (hT : TblOk P T) {K K' : Nat → Prop} {t : Nat} {l : List (T.U t)} {dep dep' : Dep} {A : Option Addr} {c : Nat} {S S' : Nat → Prop} {vals : Nat → Nat → Value} {F : Nat → Nat → Nat → Prop} (h : ArrOk T w K t l dep A c S vals F)
    {rw col b off el : Nat} {cs : Array Value} (hrw : rw < l.length) (hA : A = some ⟨b, off, none⟩) (hcs : w.heap[b]? = some (.cells cs el (0, 0))) {x : T.U t} {ds : List (D T.U)} {us : List Value} (hx : T.dget t x = putAt (row T t l rw) col ds)
    (hfit : col + ds.length ≤ T.size t) (hul : us.length = ds.length) {G : Nat → Nat → Prop}
    (hb : w'.heap[b]? = some (.cells (putAt cs.toList (off + rw * T.size t + col) us).toArray el (0, 0)))
    (hrow : ∀ j d, (T.dget t x)[j]? = some d → RowOk T w' K' dep' rw d (if col ≤ j ∧ j < col + us.length then us.getD (j - col) (.tuple #[]) else vals rw j) (G j))
    (hoth : ∀ i j d, i < l.length → i ≠ rw → (row T t l i)[j]? = some d → RowOk T w' K' dep' i d (vals i j) (F i j))
    (hS : ∀ b, S b → S' b) (hG : ∀ j b', G j b' → S' b' ∧ b' ≠ b) (hdr : ∀ j j' b', G j b' → G j' b' → j = j') (hd : ∀ i j j' b', i ≠ rw → F i j b' → ¬ G j' b') :
    ∃ vals' F', ArrOk T w' K' t (l.set rw x) dep' A c S' vals' F' := by
  have hpos : 0 < c := Nat.lt_of_lt_of_le (Nat.lt_of_le_of_lt (Nat.zero_le _) hrw) h.hc
  have hsz : off + c * T.size t ≤ cs.size ∧ S b := by
    obtain ⟨b', off', cs', el', e1, e2, e3, e4⟩ := h.hblk hpos
    rw [hA] at e1
    simp only [Option.some.injEq, Addr.mk.injEq] at e1
    obtain ⟨rfl, rfl, _⟩ := e1
    rw [hcs] at e3
    cases e3
    exact ⟨e4, e2⟩
  have hrl : rw * T.size t + T.size t ≤ c * T.size t := by
    have : (rw + 1) * T.size t ≤ c * T.size t := Nat.mul_le_mul_right _ (Nat.lt_of_lt_of_le hrw h.hc)
    rw [Nat.add_mul] at this
    omega
  have hpl : off + rw * T.size t + col + us.length ≤ cs.toList.length := by simp only [Array.length_toList]; omega
  have hrowx : row T t (l.set rw x) rw = T.dget t x := by
    unfold Go.Sm.row
    rw [List.getD_eq_getElem?_getD, List.getElem?_set_self hrw]
    rfl
  have hrowo : ∀ i, i ≠ rw → row T t (l.set rw x) i = row T t l i := fun i hi => by
    unfold Go.Sm.row
    rw [List.getD_eq_getElem?_getD, List.getElem?_set_ne (fun h => hi h.symm), ← List.getD_eq_getElem?_getD]
  refine ⟨fun i j => if i = rw then (if col ≤ j ∧ j < col + us.length then us.getD (j - col) (.tuple #[]) else vals rw j) else vals i j, fun i j b' => if i = rw then G j b' else F i j b', by simpa using h.hc, fun _ => ⟨b, off, hA⟩, fun _ => ⟨b, off, _, el, hA, hS b hsz.2, hb, ?_⟩, fun i j d hi hd' => ?_, fun i j d hi hd' => ?_, fun i j b' hb' => ?_, fun i j i' j' b' h1 h2 => ?_⟩
  · simp only [List.size_toArray]
    rw [putAt_length _ _ _ hpl]
    simpa using hsz.1
  · simp only [List.length_set] at hi
    have hj := row_len hT hd'
    have hold : ∃ d0, (row T t l i)[j]? = some d0 := by
      have : (row T t l i).length = T.size t := by unfold Go.Sm.row; exact hT.len _ _
      exact ⟨_, List.getElem?_eq_getElem (by omega)⟩
    obtain ⟨d0, hd0⟩ := hold
    obtain ⟨b', off', e1, e2⟩ := h.hcell i j d0 hi hd0
    rw [hA] at e1
    simp only [Option.some.injEq, Addr.mk.injEq] at e1
    obtain ⟨rfl, rfl, _⟩ := e1
    refine ⟨b, off, hA, ?_⟩
    simp only [World.cell?, hb, hcs, Option.isSome_none, Bool.false_eq_true, if_false] at e2 ⊢
    simp only [List.getElem?_toArray]
    rw [putAt_get _ _ _ hpl]
    by_cases hir : i = rw
    · subst hir
      rw [if_pos (rfl : i = i)]
      by_cases hjc : col ≤ j ∧ j < col + us.length
      · rw [if_neg (by omega), if_pos (by omega), if_pos hjc]
        rw [show off + i * T.size t + j - (off + i * T.size t + col) = j - col from by omega]
        rw [List.getD_eq_getElem?_getD, List.getElem?_eq_getElem (by omega)]
        rfl
      · rw [if_neg hjc]
        by_cases h1 : j < col
        · rw [if_pos (by omega)]; simpa using e2
        · rw [if_neg (by omega), if_neg (by omega)]; simpa using e2
    · rw [if_neg hir]
      have hne : ¬ (off + rw * T.size t + col ≤ off + i * T.size t + j ∧ off + i * T.size t + j < off + rw * T.size t + col + us.length) := by
        rcases Nat.lt_or_gt_of_ne hir with hlt | hlt
        · have : (i + 1) * T.size t ≤ rw * T.size t := Nat.mul_le_mul_right _ hlt
          rw [Nat.add_mul] at this
          omega
        · have : (rw + 1) * T.size t ≤ i * T.size t := Nat.mul_le_mul_right _ hlt
          rw [Nat.add_mul] at this
          omega
      by_cases h1 : off + i * T.size t + j < off + rw * T.size t + col
      · rw [if_pos h1]; simpa using e2
      · rw [if_neg h1, if_neg (by omega)]; simpa using e2
  · simp only [List.length_set] at hi
    by_cases hir : i = rw
    · subst hir
      rw [hrowx] at hd'
      simp only [if_true]
      exact hrow j d hd'
    · rw [hrowo i hir] at hd'
      simp only [hir, if_false]
      exact hoth i j d hi hir hd'
  · by_cases hir : i = rw
    · rw [if_pos hir] at hb'
      obtain ⟨k1, k2⟩ := hG j b' hb'
      exact ⟨k1, fun b2 off2 he => by rw [hA] at he; simp only [Option.some.injEq, Addr.mk.injEq] at he; rw [← he.1]; exact k2⟩
    · rw [if_neg hir] at hb'
      obtain ⟨k1, k2⟩ := h.hF i j b' hb'
      exact ⟨hS _ k1, k2⟩
  · by_cases h3 : i = rw <;> by_cases h4 : i' = rw
    · rw [if_pos h3] at h1; rw [if_pos h4] at h2; exact ⟨h3.trans h4.symm, hdr _ _ _ h1 h2⟩
    · rw [if_pos h3] at h1; rw [if_neg h4] at h2; exact absurd h1 (hd _ _ _ _ h4 h2)
    · rw [if_neg h3] at h1; rw [if_pos h4] at h2; exact absurd h2 (hd _ _ _ _ h3 h1)
    · rw [if_neg h3] at h1; rw [if_neg h4] at h2; exact h.hdis _ _ _ _ _ h1 h2
end
end Go.Sm
end

section
set_option linter.unusedSimpArgs false
set_option linter.deprecated false
set_option linter.unusedSectionVars false
set_option linter.unusedVariables false
namespace Go.Sm
variable {T : Tbl} {α : Type}
section
variable {Ok : Nat → List (A T) → Res T → Prop} {s s' : St T} {a : α} {P : Program} {e e' : Env} {w w' W0 : World} {M0 : Gh} {tm : Array Value}

theorem Env.put_fp_eq (e : Env) (r : Nat) (ad : Option Addr) (c : Nat) (S : Nat → Prop) : (e.put r ad c S).fp r = S := by funext b; simp [Env.put]
/-- A row of an array has been rewritten: what is left to show. -/
theorem Good.setArr (hG : Good W0 M0 e s tm w) {S : Nat → Prop} (hS : Loose W0 M0 e w S) {r t : Nat} {l l' : List (T.U t)} {ver nver nver' : Nat} {dep dep' : Dep} {pin : Bool} (ho : s.objs r = some (.arr t l ver nver dep pin)) (hn : nver ≤ nver')
    (hll : l'.length = l.length) {b el : Nat} {cs : Array Value} (hb : e.fp r b) (hw : RowW w w' b cs el)
    (hinf : ∀ q t2 l2, q.r = r → Live s q → refInfo (s.setO r (some (.arr t l' ver nver' dep' pin))) q = some ⟨t2, l2⟩ → ∃ l3 : List (T.U t2), refInfo s q = some ⟨t2, l3⟩ ∧ l3.length = l2.length ∧
      ∀ A c, RefAt e s w q A c → RefAt (e.put r (e.adr r) (e.cap r) fun b => e.fp r b ∨ S b) (s.setO r (some (.arr t l' ver nver' dep' pin))) w' q A c)
    (hx : Keeps e s w (e.put r (e.adr r) (e.cap r) fun b => e.fp r b ∨ S b) (s.setO r (some (.arr t l' ver nver' dep' pin))) w' → ∃ vals F, ArrOk T w' e.K t l' dep' (e.adr r) (e.cap r) (fun b => e.fp r b ∨ S b) vals F) :
    Good W0 M0 (e.put r (e.adr r) (e.cap r) fun b => e.fp r b ∨ S b) (s.setO r (some (.arr t l' ver nver' dep' pin))) tm w' ∧ Keeps e s w (e.put r (e.adr r) (e.cap r) fun b => e.fp r b ∨ S b) (s.setO r (some (.arr t l' ver nver' dep' pin))) w' := by
  have hlive : ∀ q : Ref, q.r = r → Live s q → Live (s.setO r (some (.arr t l' ver nver' dep' pin))) q := fun q hq hl => by
    subst hq
    obtain ⟨o, h1, h2⟩ := hl
    have h2 := h2 _ _ _ _ _ _ (Option.some.inj (h1.symm.trans ho))
    refine ⟨_, setO_objs _ _ _, fun _ _ _ _ _ _ hx => by cases hx; revert h2; cases q.p <;> (simp only; omega)⟩
  obtain ⟨k1, k2, k3⟩ := Rel.upd (w' := w') (x := .arr t l' ver nver' dep' pin) hG.rel hG.fr hS (Env.put_upd e r (e.adr r) (e.cap r) fun b => e.fp r b ∨ S b) (fun _ h => h) (fun _ h => .inl h) (Nat.le_of_eq hw.size.symm)
    (fun b' _ hn _ => hw.oth b' fun h => hn (h ▸ hb)) hw.os hw.tape hw.output
    (fun b' hb' => by
      rw [Env.put_fp] at hb'
      rw [hw.size]
      rcases hb' with hb' | hb'
      · exact ⟨.inl hb', hG.rel.lt b' (.inr ⟨_, hb'⟩)⟩
      · exact ⟨.inr (.inl hb'), hS.lt b' hb'⟩)
    (fun q rng v hq h => ⟨hlive q hq h.1, h.2.1, fun t2 l2 hi => by
      obtain ⟨l3, h1, h2, h3⟩ := hinf q t2 l2 hq h.1 hi
      obtain ⟨A, c, h4, h5⟩ := h.2.2 _ _ h1
      exact ⟨A, c, h3 A c h4, h2 ▸ h5⟩⟩)
    (fun q row col v hq h => ⟨hlive q hq h.1, h.2.1, (fun cs hc => by rw [hq, setO_objs] at hc; cases hc), fun t2 l2 hi => by
      obtain ⟨l3, h1, h2, h3⟩ := hinf q t2 l2 hq h.1 hi
      obtain ⟨A, c, c2, h4, h5⟩ := h.2.2.2 _ _ h1
      exact ⟨A, c, c2, h3 _ _ h4, h5⟩⟩)
    (fun v h => relMap_arr (t := t) (l := l) (ver := ver) (nver := nver) (dep := dep) (pin := pin) h)
  obtain ⟨vals, F, hA⟩ := hx k1
  exact ⟨⟨k3 ⟨vals, F, by rw [Env.put_adr, Env.put_cap, Env.put_fp_eq]; exact hA⟩, k2, hG.pin.upd (Env.put_upd ..).adr (Env.put_upd ..).cap ⟨fun _ _ _ _ _ h => (by
    cases h
    rw [Env.put_adr, Env.put_cap, hll]
    exact hG.pin.arr _ _ _ _ _ _ ho), fun _ _ h => (by cases h)⟩⟩, k1⟩

theorem Rel.blk (hR : Rel e s tm w) {r t : Nat} {l : List (T.U t)} {ver nver : Nat} {dep : Dep} {pin : Bool} (ho : s.objs r = some (.arr t l ver nver dep pin)) {i : Nat} (hi : i < l.length) {b off : Nat} (hA : e.adr r = some ⟨b, off, none⟩) :
    ∃ cs el, w.heap[b]? = some (.cells cs el (0, 0)) ∧ off + e.cap r * T.size t ≤ cs.size ∧ e.fp r b ∧ l.length ≤ e.cap r := by
  obtain ⟨vals, F, h⟩ := hR.objs _ _ ho
  obtain ⟨b', off', cs, el, e1, e2, e3, e4⟩ := h.hblk (Nat.lt_of_lt_of_le (Nat.lt_of_le_of_lt (Nat.zero_le _) hi) h.hc)
  rw [hA] at e1
  simp only [Option.some.injEq, Addr.mk.injEq] at e1
  obtain ⟨rfl, rfl, _⟩ := e1
  exact ⟨cs, el, e3, e4, e2, h.hc⟩

theorem rn_depStore {dep : Dep} {row : Nat} {own : Bool} {k : Dep → M T α} (h : Rn Ok (depStore dep row own k) s a s') :
    ∃ dep', Rn Ok (k dep') s a s' ∧ ((dep = .all ∧ own = true ∧ dep' = .all) ∨ (∃ n, dep = .upto n ∧ own = true ∧ ((row = n ∧ dep' = .upto (n + 1)) ∨ (row ≠ n ∧ dep' = .upto n))) ∨
      (∃ i, dep = .hole i ∧ own = true ∧ ((row = i ∧ dep' = .all) ∨ (row ≠ i ∧ dep' = .hole i))) ∨ (dep = .upto 0 ∧ own = false ∧ dep' = .upto 0)) := by
  unfold depStore at h
  split at h
  · exact ⟨_, h, .inl ⟨rfl, rfl, rfl⟩⟩
  · rename_i n
    rcases rn_br h with ⟨h1, h⟩ | ⟨h1, h⟩
    · exact ⟨_, h, .inr (.inl ⟨n, rfl, rfl, .inl ⟨of_decide_eq_true h1, rfl⟩⟩)⟩
    · exact ⟨_, h, .inr (.inl ⟨n, rfl, rfl, .inr ⟨of_decide_eq_false h1, rfl⟩⟩)⟩
  · rename_i i
    rcases rn_br h with ⟨h1, h⟩ | ⟨h1, h⟩
    · exact ⟨_, h, .inr (.inr (.inl ⟨i, rfl, rfl, .inl ⟨of_decide_eq_true h1, rfl⟩⟩))⟩
    · exact ⟨_, h, .inr (.inr (.inl ⟨i, rfl, rfl, .inr ⟨of_decide_eq_false h1, rfl⟩⟩))⟩
  · exact ⟨_, h, .inr (.inr (.inr ⟨rfl, rfl, rfl⟩))⟩
  · exact (rn_fail h).elim

theorem RowOk.rep {K : Nat → Prop} {dep : Dep} {i : Nat} {d : D T.U} {v : Value} {S : Nat → Prop} (h : RowOk T w K dep i d v S) (hf : d.isArr = false) (S' : Nat → Prop) (w' : World) : OwnD T w' d v S' := by
  have := RowOk.flat (K' := fun _ => False) (w' := w) h hf
  exact flat_own this hf

/-- The pattern of a row that was rewritten in part. -/
theorem pat_put (hT : TblOk P T) {t : Nat} {y x : T.U t} {col : Nat} {ds : List (D T.U)} (hx : T.dget t x = putAt (T.dget t y) col ds) {j : Nat} {d d' : D T.U} (h : (T.dget t y)[j]? = some d) (h' : (T.dget t x)[j]? = some d') : d.isArr = d'.isArr := by
  have e1 : ((T.dget t y).map D.isArr)[j]? = some d.isArr := by rw [List.getElem?_map, h]; rfl
  have e2 : ((T.dget t x).map D.isArr)[j]? = some d'.isArr := by rw [List.getElem?_map, h']; rfl
  rw [hT.pat, ← hT.pat t x, e2] at e1
  exact (Option.some.inj e1).symm
theorem filter_one {β : Type} {p : β → Bool} : ∀ {l : List β} {i j : Nat} {x y : β}, (l.filter p).length = 1 → l[i]? = some x → l[j]? = some y → p x = true → p y = true → i = j
  | [], i, j, x, y, h, hx, hy, _, _ => by simp at hx
  | z :: l, i, j, x, y, h, hx, hy, hpx, hpy => by
    have none_of : (l.filter p).length = 0 → ∀ {k : Nat} {u : β}, l[k]? = some u → p u = true → False := fun h0 k u hu hpu => by
      have := List.filter_eq_nil_iff.1 (List.length_eq_zero_iff.1 h0) u (List.mem_of_getElem? hu)
      exact this hpu
    cases i with
    | zero =>
      simp at hx
      subst hx
      have h0 : (l.filter p).length = 0 := by simpa [List.filter_cons, hpx] using h
      cases j with
      | zero => rfl
      | succ j => exact (none_of h0 (by simpa using hy) hpy).elim
    | succ i =>
      cases j with
      | zero =>
        simp at hy
        subst hy
        have h0 : (l.filter p).length = 0 := by simpa [List.filter_cons, hpy] using h
        exact (none_of h0 (by simpa using hx) hpx).elim
      | succ j =>
        have h1 : (l.filter p).length = 1 := by
          cases hz : p z with
          | false => simpa [List.filter_cons, hz] using h
          | true =>
            have h0 : (l.filter p).length = 0 := by simpa [List.filter_cons, hz] using h
            exact (none_of h0 (by simpa using hx) hpx).elim
        have := filter_one (i := i) (j := j) h1 (by simpa using hx) (by simpa using hy) hpx hpy
        rw [this]
theorem count_one (hT : TblOk P T) {t : Nat} (hc : arrCount T t = 1) (x : T.U t) {i j : Nat} {d d' : D T.U} (h : (T.dget t x)[i]? = some d) (h' : (T.dget t x)[j]? = some d') (hd : d.isArr = true) (hd' : d'.isArr = true) : i = j := by
  have h1 : ((T.dget t x).filter D.isArr).length = 1 := by
    have : ∀ l : List (D T.U), (l.filter D.isArr).length = ((l.map D.isArr).filter id).length := fun l => by
      rw [List.filter_map, List.length_map]; rfl
    rw [this, hT.pat, ← this]
    exact hc
  exact filter_one h1 h h' hd hd'
end
end Go.Sm
end

section
set_option linter.unusedSimpArgs false
set_option linter.deprecated false
set_option linter.unusedSectionVars false
set_option linter.unusedVariables false
namespace Go.Sm
variable {T : Tbl} {α : Type}
section
variable {Ok : Nat → List (A T) → Res T → Prop} {s s' : St T} {a : α} {P : Program} {e e' : Env} {w w' W0 : World} {M0 : Gh} {tm : Array Value}

theorem Good.storeRow (hT : TblOk P T) (hG : Good W0 M0 e s tm w) {S : Nat → Prop} (hS : Loose W0 M0 e w S) {r t : Nat} {l : List (T.U t)} {ver nver nver' : Nat} {dep dep' : Dep} {pin : Bool} (ho : s.objs r = some (.arr t l ver nver dep pin))
    {row col b off el : Nat} (hrw : row < l.length) (had : e.adr r = some ⟨b, off, none⟩) {x : T.U t} {ds : List (D T.U)} {us : List Value} (hx : T.dget t x = putAt (Go.Sm.row T t l row) col ds) (hfit : col + ds.length ≤ T.size t) (hul : us.length = ds.length)
    {cs : Array Value} (hcs : w.heap[b]? = some (.cells cs el (0, 0))) (hw : RowW w w' b (putAt cs.toList (off + row * T.size t + col) us).toArray el)
    {vals : Nat → Nat → Value} {F : Nat → Nat → Nat → Prop} (hA : ArrOk T w e.K t l dep (e.adr r) (e.cap r) (e.fp r) vals F) {G : Nat → Nat → Prop}
    (hin : ∀ j d, col ≤ j → j < col + us.length → (T.dget t x)[j]? = some d → RowOk T w e.K dep' row d (us.getD (j - col) (.tuple #[])) (G j))
    (hout : ∀ j d, ¬ (col ≤ j ∧ j < col + us.length) → (T.dget t x)[j]? = some d → RowOk T w e.K dep row d (vals row j) (F row j) → RowOk T w e.K dep' row d (vals row j) (G j))
    (hoth : ∀ i j d, i < l.length → i ≠ row → (Go.Sm.row T t l i)[j]? = some d → RowOk T w e.K dep i d (vals i j) (F i j) → RowOk T w e.K dep' i d (vals i j) (F i j))
    (hG' : ∀ j b', G j b' → (F row j b') ∨ S b') (hdr : ∀ j j' b', G j b' → G j' b' → j = j')
    (hver : (nver' = nver ∧ nestedAt ds = false ∧ dep' = dep) ∨ nver' = nver + 1) :
    ∃ e', Good W0 M0 e' (s.setO r (some (.arr t (l.set row x) ver nver' dep' pin))) tm w' ∧ Keeps e s w e' (s.setO r (some (.arr t (l.set row x) ver nver' dep' pin))) w' := by
  obtain ⟨cs0, el0, h1, h2, hbf, _⟩ := hG.rel.blk ho hrw had
  have hbK : ∀ b', e.K b' → b' ≠ b := fun b' hk h => hG.rel.disK _ _ hbf (h ▸ hk)
  have hSb : ∀ b', S b' → b' ≠ b := fun b' hs h => hS.notFp _ _ (h ▸ hs) hbf
  have hFb : ∀ i j b', F i j b' → b' ≠ b := fun i j b' hf => (hA.hF i j b' hf).2 _ _ had
  have hGb : ∀ j b', G j b' → b' ≠ b := fun j b' hg => (hG' j b' hg).elim (hFb _ _ _) (hSb _)
  have hmono : ∀ {dp : Dep} {i : Nat} {d : D T.U} {v : Value} {X : Nat → Prop}, (∀ b', X b' → b' ≠ b) → RowOk T w e.K dp i d v X → RowOk T w' e.K dp i d v X := fun hX h => h.mono (fun _ h => h) (fun b' hb => hw.oth b' (hbK b' hb)) (fun b' hb => hw.oth b' (hX b' hb))
  have hdx : ∀ j d, ¬ (col ≤ j ∧ j < col + us.length) → (T.dget t x)[j]? = some d → (Go.Sm.row T t l row)[j]? = some d := fun j d hj hd => by
    rw [hx, putAt_get _ _ _ (by unfold Go.Sm.row; rw [hT.len]; exact hfit)] at hd
    by_cases h1 : j < col
    · rwa [if_pos h1] at hd
    · rwa [if_neg h1, if_neg (by omega)] at hd
  have hres := hG.setArr (l' := l.set row x) (nver' := nver') (dep' := dep') hS ho (by omega) (by simp) hbf hw (fun q t2 l2 hq hl hi => by
      subst hq
      cases hp : q.p with
      | none =>
        unfold refInfo at hi
        rw [setO_objs] at hi
        simp only [hp] at hi
        split at hi
        · rename_i hv
          simp only [Option.some.injEq, Sigma.mk.injEq] at hi
          obtain ⟨rfl, hi⟩ := hi
          cases hi
          refine ⟨l, ?_, by simp, fun A c h => ?_⟩
          · unfold refInfo
            simp only [ho, hp]
            rw [if_pos hv]
          · unfold RefAt at *
            simp only [hp] at *
            rw [Env.put_adr, Env.put_cap]
            exact h
        · cases hi
      | some ic =>
        obtain ⟨i, c⟩ := ic
        obtain ⟨hnv, hil, hic⟩ := info_nonempty hp (setO_objs _ _ _) hi
        rcases hver with ⟨hv, hfl, hdp⟩ | hv
        · subst hv
          subst hdp
          have hic' : (Go.Sm.row T t l i)[c]? = some (.arr t2 l2) := by
            by_cases hir : i = row
            · subst hir
              have e1 : Go.Sm.row T t (l.set i x) i = T.dget t x := by
                unfold Go.Sm.row
                rw [List.getD_eq_getElem?_getD, List.getElem?_set_self hrw]
                rfl
              rw [e1] at hic
              refine hdx c _ (fun hr => ?_) hic
              rw [hx, putAt_get _ _ _ (by unfold Go.Sm.row; rw [hT.len]; exact hfit), if_neg (by omega), if_pos (by omega)] at hic
              have := nested_false hfl hic
              cases this
            · have e1 : Go.Sm.row T t (l.set row x) i = Go.Sm.row T t l i := by
                unfold Go.Sm.row
                rw [List.getD_eq_getElem?_getD, List.getElem?_set_ne (fun h => hir h.symm), ← List.getD_eq_getElem?_getD]
              rw [e1] at hic
              exact hic
          simp only [List.length_set] at hil
          refine ⟨l2, ?_, rfl, fun A cc h => ?_⟩
          · unfold refInfo
            simp only [ho, hp]
            rw [if_pos hnv, if_pos hil, hic']
          · unfold RefAt at *
            simp only [hp] at *
            obtain ⟨t3, l3, ver3, nver3, dep3, pin3, b3, off3, n3, k1, k2, k3, k4⟩ := h
            rw [ho] at k1
            cases k1
            rw [had] at k3
            simp only [Option.some.injEq, Addr.mk.injEq] at k3
            obtain ⟨rfl, rfl, _⟩ := k3
            refine ⟨t, _, _, _, _, _, b, off, n3, setO_objs _ _ _, ?_, by rw [Env.put_adr]; exact had, ?_⟩
            · exact k2
            · have hout' : ¬ (off + row * T.size t + col ≤ off + i * T.size t + c ∧ off + i * T.size t + c < off + row * T.size t + col + us.length) := by
                have hcl := row_len hT hic'
                by_cases hir : i = row
                · subst hir
                  intro hr
                  have e1 : Go.Sm.row T t (l.set i x) i = T.dget t x := by
                    unfold Go.Sm.row
                    rw [List.getD_eq_getElem?_getD, List.getElem?_set_self hrw]
                    rfl
                  rw [e1, hx, putAt_get _ _ _ (by unfold Go.Sm.row; rw [hT.len]; exact hfit), if_neg (by omega), if_pos (by omega)] at hic
                  have := nested_false hfl hic
                  cases this
                · rcases Nat.lt_or_gt_of_ne hir with hlt | hlt
                  · have : (i + 1) * T.size t ≤ row * T.size t := Nat.mul_le_mul_right _ hlt
                    rw [Nat.add_mul] at this
                    omega
                  · have : (row + 1) * T.size t ≤ i * T.size t := Nat.mul_le_mul_right _ hlt
                    rw [Nat.add_mul] at this
                    omega
              have hpl : off + row * T.size t + col + us.length ≤ cs.toList.length := by
                have : (row + 1) * T.size t ≤ e.cap q.r * T.size t := Nat.mul_le_mul_right _ (Nat.lt_of_lt_of_le hrw hA.hc)
                rw [Nat.add_mul] at this
                rw [hcs] at h1
                cases h1
                simp only [Array.length_toList]
                omega
              simp only [World.cell?, hcs, hw.blk, Option.isSome_none, Bool.false_eq_true, if_false, List.getElem?_toArray] at k4 ⊢
              rw [putAt_get _ _ _ hpl]
              by_cases h1 : off + i * T.size t + c < off + row * T.size t + col
              · rw [if_pos h1]; simpa using k4
              · rw [if_neg h1, if_neg (by omega)]; simpa using k4
        · exfalso
          obtain ⟨o, h1, h2⟩ := hl
          have h2 := h2 _ _ _ _ _ _ (Option.some.inj (h1.symm.trans ho))
          simp only [hp] at h2
          omega)
    (fun _ => ArrOk.store (w' := w') (K' := e.K) (dep' := dep') (S' := fun b => e.fp r b ∨ S b) (G := G) hT hA hrw had hcs hx hfit hul hw.blk (fun j d hd => by
        by_cases hj : col ≤ j ∧ j < col + us.length
        · rw [if_pos hj]; exact hmono (hGb j) (hin j d hj.1 hj.2 hd)
        · rw [if_neg hj]; exact hmono (hGb j) (hout j d hj hd (hA.hsub row j d hrw (hdx j d hj hd))))
      (fun i j d hi hir hd => hmono (hFb i j) (hoth i j d hi hir hd (hA.hsub i j d hi hd))) (fun _ h => .inl h)
      (fun j b' hg => ⟨(hG' j b' hg).imp (fun h => (hA.hF _ _ _ h).1) id, hGb j b' hg⟩) hdr (fun i j j' b' hir hf hg => by
        rcases hG' j' b' hg with h | h
        · exact hir (hA.hdis _ _ _ _ _ hf h).1
        · exact hS.notFp _ _ h (hA.hF _ _ _ hf).1))
  exact ⟨_, hres⟩
end
end Go.Sm
end

section
set_option linter.unusedSimpArgs false
set_option linter.deprecated false
set_option linter.unusedSectionVars false
set_option linter.unusedVariables false
namespace Go.Sm
variable {T : Tbl} {α : Type}
section
variable {Ok : Nat → List (A T) → Res T → Prop} {s s' : St T} {a : α} {P : Program} {e e' : Env} {w w' W0 : World} {M0 : Gh} {tm : Array Value}

theorem row_set (t : Nat) (l : List (T.U t)) (i : Nat) (x : T.U t) (hi : i < l.length) : row T t (l.set i x) i = T.dget t x := by
  unfold Go.Sm.row
  rw [List.getD_eq_getElem?_getD, List.getElem?_set_self hi]
  rfl
theorem row_set_ne (t : Nat) (l : List (T.U t)) (i j : Nat) (x : T.U t) (hi : j ≠ i) : row T t (l.set i x) j = row T t l j := by
  unfold Go.Sm.row
  rw [List.getD_eq_getElem?_getD, List.getElem?_set_ne (fun h => hi h.symm), ← List.getD_eq_getElem?_getD]
theorem rowOk_plain {K0 K S : Nat → Prop} {d : D T.U} {v : Value} {w0 : World} (h : RepD T w0 K0 d v) (hf : d.isArr = false) (dep : Dep) (i : Nat) : RowOk T w' K dep i d v S := by
  cases dep with
  | all => exact flat_own h hf
  | upto k =>
    by_cases hk : i < k
    · exact .inl ⟨hk, flat_own h hf⟩
    · exact .inr ⟨by omega, flat_rep h hf⟩
  | hole k => exact .inr (flat_own h hf)
theorem Moved.any {K : Nat → Prop} {ds : List (D T.U)} {vs : List Value} {own : Bool} {F : Nat → Nat → Prop} (h : Moved T w K ds vs own F) {j : Nat} {d : D T.U} (hd : ds[j]? = some d) : ∃ K', RepD T w K' d (vs.getD j (.tuple #[])) := by
  have hj := (List.getElem?_eq_some_iff.1 hd).1
  have hl := h.1
  have hv : vs[j]? = some (vs.getD j (.tuple #[])) := by rw [List.getD_eq_getElem?_getD, List.getElem?_eq_getElem (by omega)]; rfl
  rcases h.2 j d _ hd hv with h | ⟨_, h⟩
  · exact ⟨_, h.rep⟩
  · exact ⟨_, h⟩
/-- A row of an array that an array's row leads to is rewritten. -/
theorem Good.storeDeep (hT : TblOk P T) (hG : Good W0 M0 e s tm w) {q : Ref} {t i c : Nat} {l : List (T.U t)} {ver nver : Nat} {dep : Dep} {pin : Bool} (ho : s.objs q.r = some (.arr t l ver nver dep pin)) (hp : q.p = some (i, c)) (hnv : nver = q.ver) (hnh : ∀ m, dep = .hole m → i ≠ m) (hi : i < l.length)
    {t2 : Nat} {l2 : List (T.U t2)} (hd : (row T t l i)[c]? = some (.arr t2 l2)) {b off cc : Nat} (hat : RefAt e s w q (some ⟨b, off, none⟩) cc) {rw col : Nat} (hrw : rw < l2.length) {x2 : T.U t2} {ds : List (D T.U)} {us : List Value}
    (hx2 : T.dget t2 x2 = putAt (row T t2 l2 rw) col ds) (hfit : col + ds.length ≤ T.size t2) (hul : us.length = ds.length) (hfl : nestedAt ds = false) (hus : ∀ j d, ds[j]? = some d → ∃ K', RepD T w K' d (us.getD j (.tuple #[])))
    {x : T.U t} (hx : T.dget t x = putAt (row T t l i) c [.arr t2 (l2.set rw x2)]) :
    ∃ cs el, w.heap[b]? = some (.cells cs el (0, 0)) ∧ off + rw * T.size t2 + T.size t2 ≤ cs.size ∧ ∀ w', RowW w w' b (putAt cs.toList (off + rw * T.size t2 + col) us).toArray el →
      ∃ e', Good W0 M0 e' (s.setO q.r (some (.arr t (l.set i x) ver nver dep pin))) tm w' ∧ Keeps e s w e' (s.setO q.r (some (.arr t (l.set i x) ver nver dep pin))) w' := by
  unfold RefAt at hat
  simp only [hp] at hat
  obtain ⟨t3, l3, ver3, nver3, dep3, pin3, b3, off3, n3, k1, k2, k3, k4⟩ := hat
  rw [ho] at k1
  cases k1
  obtain ⟨vals, F, hA⟩ := hG.rel.objs _ _ ho
  have hvv : Value.slice (some ⟨b, off, none⟩) n3 cc = vals i c := by
    have := hA.vals_at k3 hi hd
    rw [k4] at this
    exact Option.some.inj this
  have hown : OwnD T w (.arr t2 l2) (.slice (some ⟨b, off, none⟩) n3 cc) (F i c) := by
    rw [hvv]
    have := hA.hsub i c _ hi hd
    cases dep with
    | all => exact this
    | upto k => exact this.elim (fun x => x.2) fun x => absurd k2 (by simp only [ownedAt]; omega)
    | hole k => exact this.elim (fun x => absurd x.1 (hnh k rfl)) id
  obtain ⟨A2, c2, vals2, F2, he, hA2⟩ := (OwnD.arr_iff e.K).1 hown
  simp only [Value.slice.injEq] at he
  obtain ⟨rfl, rfl, rfl⟩ := he
  have hpos : 0 < cc := Nat.lt_of_lt_of_le (Nat.lt_of_le_of_lt (Nat.zero_le _) hrw) hA2.hc
  obtain ⟨b', off', cs, el, e1, e2, e3, e4⟩ := hA2.hblk hpos
  simp only [Option.some.injEq, Addr.mk.injEq] at e1
  obtain ⟨rfl, rfl, _⟩ := e1
  have hbf : e.fp q.r b := (hA.hF _ _ _ e2).1
  have hb3 : b ≠ b3 := (hA.hF _ _ _ e2).2 _ _ k3
  have hrl : rw * T.size t2 + T.size t2 ≤ cc * T.size t2 := by
    have : (rw + 1) * T.size t2 ≤ cc * T.size t2 := Nat.mul_le_mul_right _ (Nat.lt_of_lt_of_le hrw hA2.hc)
    rw [Nat.add_mul] at this
    omega
  refine ⟨cs, el, e3, by omega, fun w' hw => ?_⟩
  have hbK : ∀ b', e.K b' → w'.heap[b']? = w.heap[b']? := fun b' hk => hw.oth b' fun h => hG.rel.disK _ _ hbf (h ▸ hk)
  -- the inner array
  obtain ⟨vals2', F2', hA2'⟩ := ArrOk.store (w' := w') (K' := e.K) (dep' := .all) (S' := F i c) (G := F2 rw) hT hA2 hrw rfl e3 hx2 hfit hul hw.blk (fun j d hdj => by
      by_cases hj : col ≤ j ∧ j < col + us.length
      · rw [if_pos hj]
        rw [hx2, putAt_get _ _ _ (by unfold Go.Sm.row; rw [hT.len]; exact hfit), if_neg (by omega), if_pos (by omega)] at hdj
        obtain ⟨K', hr⟩ := hus _ _ hdj
        exact flat_own hr (nested_false hfl hdj)
      · rw [if_neg hj]
        have hdj' : (row T t2 l2 rw)[j]? = some d := by
          rw [hx2, putAt_get _ _ _ (by unfold Go.Sm.row; rw [hT.len]; exact hfit)] at hdj
          by_cases h1 : j < col
          · rwa [if_pos h1] at hdj
          · rwa [if_neg h1, if_neg (by omega)] at hdj
        exact (hA2.hsub rw j d hrw hdj').mono (fun _ h => h) hbK fun b' hb' => hw.oth b' fun h => (hA2.hF _ _ _ hb').2 _ _ rfl h)
    (fun i' j d hi' hir hd' => (hA2.hsub i' j d hi' hd').mono (fun _ h => h) hbK fun b' hb' => hw.oth b' fun h => (hA2.hF _ _ _ hb').2 _ _ rfl h) (fun _ h => h)
    (fun j b' hb' => ⟨(hA2.hF _ _ _ hb').1, (hA2.hF _ _ _ hb').2 _ _ rfl⟩) (fun j j' b' h h' => (hA2.hdis _ _ _ _ _ h h').2) (fun i' j j' b' hir h h' => hir (hA2.hdis _ _ _ _ _ h h').1)
  have hown' : OwnD T w' (.arr t2 (l2.set rw x2)) (vals i c) (F i c) := by
    rw [← hvv]
    have := (OwnD.arr_iff e.K).2 ⟨_, _, vals2', F2', rfl, hA2'⟩
    rwa [List.length_set] at this
  have hcl := row_len hT hd
  have hdx : ∀ j, (T.dget t x)[j]? = if j = c then some (.arr t2 (l2.set rw x2)) else (row T t l i)[j]? := fun j => by
    rw [hx, putAt_get _ _ _ (by unfold Go.Sm.row; rw [hT.len]; simp; omega)]
    by_cases h1 : j < c
    · rw [if_pos h1, if_neg (by omega)]
    · by_cases h2 : j = c
      · subst h2; simp
      · rw [if_neg h1, if_neg (by simp; omega), if_neg h2]
  obtain ⟨g1, g2⟩ := hG.setArr (l' := l.set i x) (nver' := nver) (dep' := dep) (S := fun _ => False) Loose.none ho (Nat.le_refl _) (by simp) hbf hw (fun q2 t4 l4 hq hl hi4 => by
      cases hp2 : q2.p with
      | none =>
        unfold refInfo at hi4
        rw [hq, setO_objs] at hi4
        simp only [hp2] at hi4
        split at hi4
        · rename_i hv
          simp only [Option.some.injEq, Sigma.mk.injEq] at hi4
          obtain ⟨rfl, hi4⟩ := hi4
          cases hi4
          refine ⟨l, ?_, by simp, fun A c h => ?_⟩
          · unfold refInfo
            rw [hq]
            simp only [ho, hp2]
            rw [if_pos hv]
          · unfold RefAt at *
            rw [hq] at *
            simp only [hp2] at *
            rw [Env.put_adr, Env.put_cap]
            exact h
        · cases hi4
      | some ic =>
        obtain ⟨i2, c2⟩ := ic
        obtain ⟨hnv2, hil, hic⟩ := info_nonempty hp2 (by rw [hq]; exact setO_objs _ _ _) hi4
        simp only [List.length_set] at hil
        have hcell : ∀ A cc', RefAt e s w q2 A cc' → RefAt (e.put q.r (e.adr q.r) (e.cap q.r) fun b => e.fp q.r b ∨ False) (s.setO q.r (some (.arr t (l.set i x) ver nver dep pin))) w' q2 A cc' := fun A cc' h => by
          unfold RefAt at *
          rw [hq] at *
          simp only [hp2] at *
          obtain ⟨t5, l5, ver5, nver5, dep5, pin5, b5, off5, n5, m1, m2, m3, m4⟩ := h
          rw [ho] at m1
          cases m1
          rw [k3] at m3
          simp only [Option.some.injEq, Addr.mk.injEq] at m3
          obtain ⟨rfl, rfl, _⟩ := m3
          refine ⟨t, _, _, _, _, _, b3, off3, n5, setO_objs _ _ _, m2, by rw [Env.put_adr]; exact k3, ?_⟩
          rw [cell_same (hw.oth b3 fun h => hb3 h.symm)]
          exact m4
        by_cases hii : i2 = i
        · subst hii
          rw [row_set _ _ _ _ hi, hdx] at hic
          by_cases hcc : c2 = c
          · subst hcc
            simp only [if_true, Option.some.injEq, D.arr.injEq] at hic
            obtain ⟨rfl, hic⟩ := hic
            cases hic
            refine ⟨l2, ?_, by simp, hcell⟩
            unfold refInfo
            rw [hq]
            simp only [ho, hp2]
            rw [if_pos hnv2, if_pos hil, hd]
          · rw [if_neg hcc] at hic
            refine ⟨l4, ?_, rfl, hcell⟩
            unfold refInfo
            rw [hq]
            simp only [ho, hp2]
            rw [if_pos hnv2, if_pos hil, hic]
        · rw [row_set_ne _ _ _ _ _ hii] at hic
          refine ⟨l4, ?_, rfl, hcell⟩
          unfold refInfo
          rw [hq]
          simp only [ho, hp2]
          rw [if_pos hnv2, if_pos hil, hic])
    (fun _ => by
      have hmono : ∀ {i' j : Nat} {d : D T.U}, i' < l.length → ¬ (i' = i ∧ j = c) → (row T t l i')[j]? = some d → RowOk T w' e.K dep i' d (vals i' j) (F i' j) := fun hi' hne hd' =>
        (hA.hsub _ _ _ hi' hd').mono (fun _ h => h) hbK fun b' hb' => hw.oth b' fun h => hne (hA.hdis _ _ _ _ _ (h ▸ hb') e2)
      refine ⟨vals, F, by simpa using hA.hc, fun _ => ⟨b3, off3, k3⟩, fun hp' => ?_, fun i' j d hi' hd' => ?_, fun i' j d hi' hd' => ?_, fun i' j b' hb' => ⟨.inl (hA.hF _ _ _ hb').1, (hA.hF _ _ _ hb').2⟩, hA.hdis⟩
      · obtain ⟨b5, off5, cs5, el5, m1, m2, m3, m4⟩ := hA.hblk hp'
        rw [k3] at m1
        simp only [Option.some.injEq, Addr.mk.injEq] at m1
        obtain ⟨rfl, rfl, _⟩ := m1
        exact ⟨b3, off3, cs5, el5, k3, .inl m2, by rw [hw.oth b3 fun h => hb3 h.symm]; exact m3, m4⟩
      · simp only [List.length_set] at hi'
        have hj : j < T.size t := row_len hT hd'
        have hex : ∃ d0, (row T t l i')[j]? = some d0 := by
          have : (row T t l i').length = T.size t := by unfold Go.Sm.row; exact hT.len _ _
          exact ⟨_, List.getElem?_eq_getElem (by omega)⟩
        obtain ⟨d0, hd0⟩ := hex
        obtain ⟨b5, off5, m1, m2⟩ := hA.hcell i' j d0 hi' hd0
        rw [k3] at m1
        simp only [Option.some.injEq, Addr.mk.injEq] at m1
        obtain ⟨rfl, rfl, _⟩ := m1
        exact ⟨b3, off3, k3, by rw [cell_same (hw.oth b3 fun h => hb3 h.symm)]; exact m2⟩
      · simp only [List.length_set] at hi'
        by_cases hii : i' = i
        · subst hii
          rw [row_set _ _ _ _ hi, hdx] at hd'
          by_cases hjc : j = c
          · subst hjc
            simp only [if_true, Option.some.injEq] at hd'
            subst hd'
            cases dep with
            | all => exact hown'
            | upto k => exact .inl ⟨k2, hown'⟩
            | hole k => exact .inr hown'
          · rw [if_neg hjc] at hd'
            exact hmono hi' (fun h => hjc h.2) hd'
        · rw [row_set_ne _ _ _ _ _ hii] at hd'
          exact hmono hi' (fun h => hii h.1) hd')
  exact ⟨_, g1, g2⟩
end
end Go.Sm
end

section
set_option linter.unusedSimpArgs false
set_option linter.deprecated false
set_option linter.unusedSectionVars false
set_option linter.unusedVariables false
namespace Go.Sm
variable {T : Tbl} {α : Type}
section
variable {Ok : Nat → List (A T) → Res T → Prop} {s s' : St T} {a : α} {P : Program} {e e' : Env} {w w' W0 : World} {M0 : Gh} {tm : Array Value}

/-- What an operation leaves that puts nothing. -/
def Did (Ok : Nat → List (A T) → Res T → Prop) (P : Program) (W0 : World) (M0 : Gh) (e : Env) (s : St T) (tm : Array Value) (w : World) (k : M T α) (a : α) (s' : St T) (m : Sem Unit) : Prop :=
  ∃ s1 e1 w1, Rn Ok k s1 a s' ∧ Good W0 M0 e1 s1 tm w1 ∧ Keeps e s w e1 s1 w1 ∧ s1.regs = s.regs ∧ m.run P w = .ok () w1

theorem storeArr_ok (hT : TblOk P T) (hG : Good W0 M0 e s tm w) {S1 : Nat → Prop} (hS : Loose W0 M0 e w S1) {q : Ref} {rw col : Nat} {pv : Value} (hp : RelPtr e s w q rw col pv) {ds : List (D T.U)} {own : Bool} {us : List Value} {F2 : Nat → Nat → Prop}
    (hm : Moved T w e.K ds us own F2) (hF : ∀ j b, F2 j b → S1 b) (hdis : ∀ i j b, F2 i b → F2 j b → i = j) (h1 : ∀ u ∈ us, u.oneCell' = true) {t : Nat} {v : Value} (hv : v.cells.toList = us) (hst : 0 < T.size t) (hsz : v.cells.size = T.size t) {k : M T α}
    (h : Rn Ok (storeArr q rw col ds own k) s a s') : Did Ok P W0 M0 e s tm w k a s' (Instr.storeAt t pv v) := by
  have hul : us.length = ds.length := hm.1
  have hus : v.cells.size = us.length := by rw [← hv]; simp
  unfold storeArr at h
  replace h := rn_getO h
  split at h
  · rename_i t' l ver nver dep pin ho
    split at h
    · rename_i hqp
      have hX := rn_cond h
      clear h
      obtain ⟨h0, h⟩ := hX
      have hver := nbeq h0
      have hX := rn_must h
      clear h
      obtain ⟨hrw, h⟩ := hX
      have hX := rn_cond h
      clear h
      obtain ⟨hfit, h⟩ := hX
      have hfit := nble hfit
      rw [hT.len] at hfit
      have hi : refInfo s q = some ⟨t', l⟩ := by unfold refInfo; simp only [ho, hqp]; rw [if_pos hver]
      obtain ⟨b, off, c, hat, rfl⟩ := hp.2.2.2 _ _ hi
      unfold RefAt at hat
      simp only [hqp] at hat
      obtain ⟨had, rfl⟩ := hat
      have had := had.symm
      obtain ⟨vals, F, hA⟩ := hG.rel.objs _ _ ho
      obtain ⟨cs, el, g1, g2, g3, g4⟩ := hG.rel.blk ho hrw had
      have hrl : rw * T.size t' + T.size t' ≤ e.cap q.r * T.size t' := by
        have : (rw + 1) * T.size t' ≤ e.cap q.r * T.size t' := Nat.mul_le_mul_right _ (Nat.lt_of_lt_of_le hrw g4)
        rw [Nat.add_mul] at this
        omega
      obtain ⟨w', hrun, hw⟩ := run_storeAt (v := v) (off := off + rw * T.size t' + col) hT g1 hst hsz (by omega) (by rw [hv]; exact h1)
      rw [hv] at hw
      split at h
      · rename_i x hx
        have hx := hT.get _ _ _ hx
        replace hx : T.dget t' x = putAt (Go.Sm.row T t' l rw) col ds := hx
        have hget : ∀ j, (T.dget t' x)[j]? = if j < col then (Go.Sm.row T t' l rw)[j]? else if j < col + ds.length then ds[j - col]? else (Go.Sm.row T t' l rw)[j]? := fun j => by
          rw [hx, putAt_get _ _ _ (by unfold Go.Sm.row; rw [hT.len]; exact hfit)]
        cases hn : nestedAt ds with
        | true =>
          rw [hn] at h
          simp only [cond_true] at h
          have hX := rn_cond h
          clear h
          obtain ⟨hc1, h⟩ := hX
          have hc1 := nbeq hc1
          have hX := rn_depStore h
          clear h
          obtain ⟨dep', h, hdep⟩ := hX
          replace h := rn_setO h
          -- the one leading cell lies in what is written
          have hlead : ∃ (j0 : Nat) (d0 : D T.U), ds[j0]? = some d0 ∧ d0.isArr = true := by
            unfold nestedAt at hn
            obtain ⟨d0, h1, h2⟩ := List.any_eq_true.1 hn
            obtain ⟨j0, h3⟩ := List.getElem?_of_mem h1
            exact ⟨j0, d0, h3, h2⟩
          obtain ⟨j0, d0, hj0, hd0⟩ := hlead
          have hj0l := (List.getElem?_eq_some_iff.1 hj0).1
          have hflat : ∀ j d, ¬ (col ≤ j ∧ j < col + us.length) → (T.dget t' x)[j]? = some d → d.isArr = false := fun j d hj hd => by
            cases hda : d.isArr with
            | false => rfl
            | true =>
              have e0 : (T.dget t' x)[col + j0]? = some d0 := by rw [hget, if_neg (by omega), if_pos (by omega)]; rw [show col + j0 - col = j0 from by omega]; exact hj0
              have := count_one hT hc1 x e0 hd hd0 hda
              omega
          have hin0 : ∀ j d, col ≤ j → j < col + us.length → (T.dget t' x)[j]? = some d → ds[j - col]? = some d ∧ us[j - col]? = some (us.getD (j - col) (.tuple #[])) := fun j d h1 h2 hd => by
            rw [hget, if_neg (by omega), if_pos (by omega)] at hd
            refine ⟨hd, ?_⟩
            rw [List.getD_eq_getElem?_getD, List.getElem?_eq_getElem (by omega)]; rfl
          -- what is written is kept by the object, or becomes a thing that never changes
          have keep : own = true → (∀ (d : D T.U) (v : Value) (X : Nat → Prop), OwnD T w d v X → RowOk T w e.K dep' rw d v X) → (∀ i d v X, i ≠ rw → RowOk T w e.K dep i d v X → RowOk T w e.K dep' i d v X) → Did Ok P W0 M0 e s tm w k a s' (Instr.storeAt t (.pointer (some ⟨b, off + rw * T.size t' + col, none⟩)) v) := by
            intro ho1 hk1 hk2
            subst ho1
            obtain ⟨e', q1, q2⟩ := hG.storeRow (w' := w') (G := fun j b' => col ≤ j ∧ j < col + us.length ∧ F2 (j - col) b') (nver' := nver + 1) (dep' := dep') hT hS ho hrw had hx hfit hul g1 hw hA
              (fun j d h1 h2 hd => by
                obtain ⟨k1, k2⟩ := hin0 j d h1 h2 hd
                refine hk1 _ _ _ (OwnD.wider (hm.own k1 k2) fun b hb => ⟨h1, h2, hb⟩))
              (fun j d hj hd hro => rowOk_plain (RowOk.flat (K' := fun _ => False) (w' := w) hro (hflat j d hj hd)) (hflat j d hj hd) _ _)
              (fun i j d hi hir hd hro => hk2 _ _ _ _ hir hro) (fun j b' hb => .inr (hF _ _ hb.2.2)) (fun j j' b' h1 h2 => by have := hdis _ _ _ h1.2.2 h2.2.2; omega) (.inr rfl)
            exact ⟨_, e', w', h, q1, q2, rfl, hrun⟩
          have frz : (∀ (d : D T.U) (v : Value) (X : Nat → Prop), RepD T w (e.more S1).K d v → RowOk T w (e.more S1).K dep' rw d v X) → (∀ i d v X, i ≠ rw → RowOk T w (e.more S1).K dep i d v X → RowOk T w (e.more S1).K dep' i d v X) → Did Ok P W0 M0 e s tm w k a s' (Instr.storeAt t (.pointer (some ⟨b, off + rw * T.size t' + col, none⟩)) v) := by
            intro hk1 hk2
            obtain ⟨f1, f2⟩ := hG.freeze hS
            have hA' : ArrOk T w (e.more S1).K t' l dep ((e.more S1).adr q.r) ((e.more S1).cap q.r) ((e.more S1).fp q.r) vals F := hA.mono (fun _ h => .inl h) (fun _ _ => rfl) (fun _ _ => rfl)
            obtain ⟨e', q1, q2⟩ := f1.storeRow (w' := w') (S := fun _ => False) (G := fun _ _ => False) (nver' := nver + 1) (dep' := dep') hT Loose.none ho hrw had hx hfit hul g1 hw hA'
              (fun j d h1 h2 hd => by
                obtain ⟨k1, k2⟩ := hin0 j d h1 h2 hd
                exact hk1 _ _ _ (hm.rep k1 k2 fun b hb => hF _ _ hb))
              (fun j d hj hd hro => rowOk_plain (RowOk.flat (K' := fun _ => False) (w' := w) hro (hflat j d hj hd)) (hflat j d hj hd) _ _)
              (fun i j d hi hir hd hro => hk2 _ _ _ _ hir hro) (fun _ _ h => h.elim) (fun _ _ _ h => h.elim) (.inr rfl)
            exact ⟨_, e', w', h, q1, f2.trans q2, rfl, hrun⟩
          rcases hdep with ⟨rfl, ho1, rfl⟩ | ⟨n, rfl, ho1, hd1⟩ | ⟨i, rfl, ho1, hd1⟩ | ⟨rfl, ho1, rfl⟩
          · exact keep ho1 (fun d v X h => h) (fun i d v X hi h => h)
          · rcases hd1 with ⟨rfl, rfl⟩ | ⟨hne, rfl⟩
            · exact keep ho1 (fun d v X h => .inl ⟨by omega, h⟩) (fun i d v X hi h => h.elim (fun x => .inl ⟨by omega, x.2⟩) (fun x => .inr ⟨by omega, x.2⟩))
            · by_cases hlt : rw < n
              · exact keep ho1 (fun d v X h => .inl ⟨hlt, h⟩) (fun i d v X hi h => h)
              · exact frz (fun d v X h => .inr ⟨by omega, h⟩) (fun i d v X hi h => h)
          · rcases hd1 with ⟨rfl, rfl⟩ | ⟨hne, rfl⟩
            · exact keep ho1 (fun d v X h => h) (fun i d v X hi h => h.elim (fun x => absurd x.1 hi) id)
            · exact keep ho1 (fun d v X h => .inr h) (fun i d v X hi h => h)
          · exact frz (fun d v X h => .inr ⟨Nat.zero_le _, h⟩) (fun i d v X hi h => h)
        | false =>
          rw [hn] at h
          simp only [cond_false] at h
          replace h := rn_setO h
          obtain ⟨e', q1, q2⟩ := hG.storeRow (w' := w') (S := fun _ => False) (G := F rw) (nver' := nver) (dep' := dep) hT Loose.none ho hrw had hx hfit hul g1 hw hA
            (fun j d h1 h2 hd => by
              rw [hget, if_neg (by omega), if_pos (by omega)] at hd
              obtain ⟨K', hr⟩ := hm.any hd
              exact rowOk_plain hr (nested_false hn hd) _ _) (fun _ _ _ _ h => h) (fun _ _ _ _ _ _ h => h) (fun _ _ h => .inl h) (fun j j' b' h h' => (hA.hdis _ _ _ _ _ h h').2) (.inl ⟨rfl, hn, rfl⟩)
          exact ⟨_, e', w', h, q1, q2, rfl, hrun⟩
      · exact (rn_fail h).elim
    · rename_i i c hqp
      have hX := rn_cond h
      clear h
      obtain ⟨h0, h⟩ := hX
      have hver := nbeq h0
      have hX := rn_notHole h
      clear h
      obtain ⟨hnh, h⟩ := hX
      have hX := rn_must h
      clear h
      obtain ⟨hi, h⟩ := hX
      split at h
      · rename_i t2 l2 hd
        have hX := rn_must h
        clear h
        obtain ⟨hrw, h⟩ := hX
        cases hn : nestedAt ds with
        | true => rw [hn] at h; exact (rn_fail h).elim
        | false =>
          rw [hn] at h
          simp only [cond_false] at h
          have hX := rn_cond h
          clear h
          obtain ⟨hfit, h⟩ := hX
          have hfit := nble hfit
          rw [hT.len] at hfit
          split at h
          · rename_i x2 hx2
            split at h
            · rename_i x hx
              replace h := rn_setO h
              have hinf : refInfo s q = some ⟨t2, l2⟩ := by
                unfold refInfo
                simp only [ho, hqp]
                rw [if_pos hver, if_pos hi]
                rw [show (Go.Sm.row T t' l i)[c]? = some (.arr t2 l2) from hd]
              obtain ⟨b, off, cc, hat, rfl⟩ := hp.2.2.2 _ _ hinf
              obtain ⟨cs, el, g1, g2, g3⟩ := hG.storeDeep (us := us) hT ho hqp hver hnh hi hd hat hrw (hT.get _ _ _ hx2) hfit hul hn (fun j d hd => hm.any hd) (hT.get _ _ _ hx)
              obtain ⟨w', hrun, hw⟩ := run_storeAt (v := v) (off := off + rw * T.size t2 + col) hT g1 hst hsz (by omega) (by rw [hv]; exact h1)
              rw [hv] at hw
              obtain ⟨e', q1, q2⟩ := g3 w' hw
              exact ⟨_, e', w', h, q1, q2, rfl, hrun⟩
            · exact (rn_fail h).elim
          · exact (rn_fail h).elim
      · exact (rn_fail h).elim
  · exact (rn_fail h).elim

theorem storeM_ok (hT : TblOk P T) (hG : Good W0 M0 e s tm w) {t : Nat} (hst : 0 < T.size t) {c : C T} {v : V T} {pv u : Value} (hp : RelC e s w c pv) (hv : RelV e s w v u) {k : M T α} (h : Rn Ok (storeM t c v k) s a s') :
    Did Ok P W0 M0 e s tm w k a s' (Instr.storeAt t pv u) := by
  unfold storeM at h
  split at h
  · exact (rn_fail h).elim
  · rename_i vs hvs
    have hX := rn_cond h
    clear h
    obtain ⟨hl, h⟩ := hX
    have hl := nbeq hl
    have hc := RelV.cells hv hvs
    have hcl := hc.1
    simp only [Array.length_toList] at hcl
    split at h
    · rename_i q rw col
      replace h := rn_getO h
      split at h
      · rename_i cs ho
        have hX := rn_cond h
        clear h
        obtain ⟨h0, h⟩ := hX
        simp only [Bool.and_eq_true] at h0
        have hr0 := nbeq h0.1
        have hfit := nble h0.2
        replace h := rn_setO h
        obtain ⟨b0, arr, el, g1, g2, g3, g4⟩ := hG.rel.objs _ _ ho
        obtain ⟨b, hb, rfl⟩ := hp.2.2.1 cs ho hr0
        rw [g1] at hb
        simp only [Option.some.injEq, Addr.mk.injEq] at hb
        obtain ⟨rfl, _⟩ := hb
        have hal := g4.1
        simp only [Array.length_toList] at hal
        obtain ⟨w', hrun, hw⟩ := run_storeAt (v := u) (off := col) hT g3 hst (by omega) (by omega) (RelCs.one hc)
        obtain ⟨k1, k2, k3⟩ := Rel.upd (e' := e) (w' := w') (x := .var (putAt cs col vs)) hG.rel hG.fr Loose.none (r := q.r) ⟨fun _ _ => rfl, fun _ _ => rfl, fun _ _ _ => Iff.rfl⟩ (fun _ h => h) (fun _ h => .inl h) (Nat.le_of_eq hw.size.symm)
          (fun b' _ hn _ => hw.oth b' fun h => hn (h ▸ g2)) hw.os hw.tape hw.output (fun b' hb' => ⟨.inl hb', by rw [hw.size]; exact hG.rel.lt b' (.inr ⟨_, hb'⟩)⟩)
          (fun q2 rng v2 hq h => ⟨⟨_, by rw [hq]; exact setO_objs _ _ _, fun _ _ _ _ _ _ hx => by cases hx⟩, h.2.1, fun t2 l2 hi => by unfold refInfo at hi; rw [hq, setO_objs] at hi; cases hi⟩)
          (fun q2 r2 c2 v2 hq h => ⟨⟨_, by rw [hq]; exact setO_objs _ _ _, fun _ _ _ _ _ _ hx => by cases hx⟩, h.2.1, (fun cs' hc' hz => h.2.2.1 cs (by rw [hq]; exact ho) hz), fun t2 l2 hi => by unfold refInfo at hi; rw [hq, setO_objs] at hi; cases hi⟩)
          (fun v2 h => ⟨⟨_, setO_objs _ _ _⟩, h.2.1, fun kt et l hm => by rw [setO_objs] at hm; cases hm⟩)
        refine ⟨_, e, w', h, ⟨k3 ⟨b0, _, el, g1, g2, hw.blk, ?_⟩, k2, hG.pin.upd (fun _ _ => rfl) (fun _ _ => rfl) (.old hG.pin ho rfl)⟩, k1, rfl, hrun⟩
        simpa using (k1.cs g4).put (k1.cs hc) hfit
      · have hX := moveCs_ok hG Loose.none hc h
        clear h
        obtain ⟨ds, own, s1, e1, S1, F, h, g1, g2, g3, g4, g5, g6, g7, g8, g9, g10, g11, g12, g13⟩ := hX
        obtain ⟨s2, e2, w2, q1, q2, q3, q4, q5⟩ := storeArr_ok (v := u) (t := t) hT g1 (S1 := S1) ⟨fun b hb => g3.notK b (.inr hb), fun r b hb => g3.notFp r b (.inr hb), fun b hb => g3.lt b (.inr hb), fun b hb => g3.own b (.inr hb)⟩ (g2.ptr _ _ _ _ hp)
          (by rw [g5]; exact g11.fix t) g12 g13 (RelCs.one hc) rfl hst (by omega) h
        exact ⟨s2, e2, w2, q1, q2, g2.trans q3, q4.trans g6, q5⟩
      · exact (rn_fail h).elim
    · exact (rn_fail h).elim
end
end Go.Sm
end

section
set_option linter.unusedSimpArgs false
set_option linter.deprecated false
set_option linter.unusedSectionVars false
set_option linter.unusedVariables false
namespace Go.Sm
variable {T : Tbl} {α : Type}
section
variable {Ok : Nat → List (A T) → Res T → Prop} {s s' : St T} {a : α} {P : Program} {e e' : Env} {w w' W0 : World} {M0 : Gh} {tm : Array Value}

theorem makeMapM_ok (hT : TblOk P T) (hG : Good W0 M0 e s tm w) {d t : Nat} {k : C T → M T α} (h : Rn Ok (makeMapM d t k) s a s') {n : Option Int} {hnt : Option Value} (hn : OptV n hnt) :
    ∃ c s1 e1 w1 val, Rn Ok (k c) s1 a s' ∧ Good W0 M0 e1 s1 tm w1 ∧ Keeps e s w e1 s1 w1 ∧ s1.regs = s.regs ∧ RelC e1 s1 w1 c val ∧ (Instr.makeMap t hnt).run P w = .ok val w1 := by
  unfold makeMapM at h
  split at h
  · rename_i kt et hty
    obtain ⟨h1, h⟩ := rn_newO h
    have hw : NewW w (w.alloc (.map #[] 0)) (.map #[] 0) := NewW.push w _
    obtain ⟨k1, k2⟩ := hG.new Loose.none h1.1 hw (.map kt et []) 0 ⟨fun _ _ _ _ _ h => (by cases h), fun _ _ h => (by cases h)⟩
    refine ⟨_, _, _, _, _, h, k2 ⟨_, #[], 0, Env.put_adr .., (Env.put_fp ..).2 (.inl rfl), hw.new, rfl, fun j x me hx => by simp at hx⟩, k1, rfl,
      ⟨⟨_, setO_objs _ _ _⟩, ⟨_, rfl⟩, fun kt' et' l' hm => ⟨_, Env.put_adr .., rfl⟩⟩, ?_⟩
    cases n with
    | none =>
      cases hnt with
      | none => rfl
      | some v => exact hn.elim
    | some n =>
      cases hnt with
      | none => exact hn.elim
      | some v =>
        obtain ⟨ki, rfl⟩ := hn
        simp only [Instr.makeMap, Sem.run_bind, run_underlying (hT.map _ _ _ hty), Result.andThen_ok]
        rfl
  · exact (rn_fail h).elim
theorem rn_withM {kt et kt' et' : Nat} {l : List (T.U kt' × T.U et')} {k : List (T.U kt × T.U et) → M T α} (h : Rn Ok (withM kt et kt' et' l k) s a s') :
    ∃ (h1 : kt' = kt) (h2 : et' = et), Rn Ok (k (h1 ▸ h2 ▸ l)) s a s' := by
  unfold withM at h
  split at h
  · split at h
    · exact ⟨_, _, h⟩
    · exact (rn_fail h).elim
  · exact (rn_fail h).elim
/-- Where a key stands. -/
theorem find_rel (hT : TblOk P T) {kt et : Nat} {kj : IntKind} (hk : T.ty kt = .int kj) (n : Int) {K : Nat → Prop} : ∀ {l : List (T.U kt × T.U et)} {es : List MapEntry} (i0 : Nat), es.length = l.length →
    (∀ (j : Nat) (x : T.U kt × T.U et) (me : MapEntry), l[j]? = some x → es[j]? = some me → ∃ kd, T.dget kt x.1 = [kd] ∧ RepD T w K kd me.key) →
    (l.findIdx? (fun e => decide (n = numOf (T.dget kt e.1))) = none ∧ l.find? (fun e => decide (n = numOf (T.dget kt e.1))) = none ∧ Instr.findNow (.int kj) (.int kj n) es i0 = some none) ∨
    (∃ i x me, l.findIdx? (fun e => decide (n = numOf (T.dget kt e.1))) = some i ∧ l.find? (fun e => decide (n = numOf (T.dget kt e.1))) = some x ∧ l[i]? = some x ∧ es[i]? = some me ∧ me.key = .int kj n ∧ Instr.findNow (.int kj) (.int kj n) es i0 = some (some (i0 + i, me.val)))
  | [], [], i0, _, _ => .inl ⟨rfl, rfl, rfl⟩
  | [], _ :: _, i0, h, _ => by cases h
  | _ :: _, [], i0, h, _ => by cases h
  | x :: l, me :: es, i0, hl, h => by
    obtain ⟨kd, h1, h2⟩ := h 0 x me rfl rfl
    obtain ⟨m, h3⟩ := hT.intC kt kj hk x.1
    rw [h1] at h3
    cases h3
    have hkey : me.key = .int kj m := by generalize me.key = v at h2; cases h2; rfl
    by_cases hnm : n = m
    · subst hnm
      exact .inr ⟨0, x, me, by simp [List.findIdx?_cons, h1, numOf], by simp [List.find?_cons, h1, numOf], rfl, rfl, hkey, by simp [Instr.findNow, Instr.sameNow, hkey]⟩
    · have hp : decide (n = numOf (T.dget kt x.1)) = false := by rw [h1]; simp [numOf, hnm]
      have hs : Instr.findNow (.int kj) (.int kj n) (me :: es) i0 = Instr.findNow (.int kj) (.int kj n) es (i0 + 1) := by
        have : (n == m) = false := by simp [hnm]
        simp [Instr.findNow, Instr.sameNow, hkey, this]
      rcases find_rel hT hk n (i0 + 1) (by simpa using hl) (fun j x' me' a b => h (j + 1) x' me' (by simpa using a) (by simpa using b)) with ⟨g1, g2, g3⟩ | ⟨i, x', me', g1, g2, g3, g4, g5, g6⟩
      · exact .inl ⟨by simp [List.findIdx?_cons, hp, g1], by simp [List.find?_cons, hp, g2], hs.trans g3⟩
      · exact .inr ⟨i + 1, x', me', by simp [List.findIdx?_cons, hp, g1], by simp [List.find?_cons, hp, g2], by simpa using g3, by simpa using g4, g5, by rw [hs, g6]; congr 3; omega⟩
/-- What leads nowhere is in no need of surroundings. -/
theorem relW_any {x : Bool × List (C T)} {v : Value} (h : RelW (T := T) ⟨fun _ => False, fun _ => none, fun _ => 0, fun _ _ => False⟩ ⟨fun _ => .undef, fun _ => none⟩ w x v) : RelW e s w x v := by
  refine Keeps.pw (e := ⟨fun _ => False, fun _ => none, fun _ => 0, fun _ _ => False⟩) (s := ⟨fun _ => .undef, fun _ => none⟩) (w := w) ⟨fun _ h => h.elim, fun _ h => h.elim, ?_, ?_, ?_⟩ h
  · rintro q rng v ⟨⟨o, ho, _⟩, _⟩; cases ho
  · rintro q row col v ⟨⟨o, ho, _⟩, _⟩; cases ho
  · rintro r v ⟨⟨o, ho⟩, _⟩; cases ho
theorem relW_any' {x : Bool × List (C T)} {v : Value} (h : RelW (T := T) ⟨fun _ => False, fun _ => none, fun _ => 0, fun _ _ => False⟩ ⟨fun _ => .undef, fun _ => none⟩ w x v) : RelW (T := T) ⟨fun _ => False, fun _ => none, fun _ => 0, fun _ _ => False⟩ ⟨fun _ => .undef, fun _ => none⟩ w' x v := by
  refine Keeps.pw (e := ⟨fun _ => False, fun _ => none, fun _ => 0, fun _ _ => False⟩) (s := ⟨fun _ => .undef, fun _ => none⟩) (w := w) ⟨fun _ h => h, fun _ h => h.elim, ?_, ?_, ?_⟩ h
  · rintro q rng v ⟨⟨o, ho, _⟩, _⟩; cases ho
  · rintro q row col v ⟨⟨o, ho, _⟩, _⟩; cases ho
  · rintro r v ⟨⟨o, ho⟩, _⟩; cases ho
theorem plain_rep {K : Nat → Prop} {d : D T.U} {v : Value} (h : plainD d v) : RepD T w K d v := by
  cases d with
  | bool b => cases h; exact .bool b
  | int k n => cases h; exact .int k n
  | str x => cases h; exact .str x
  | _ => exact h.elim
theorem zero_relW (hT : TblOk P T) {t : Nat} (hs : 0 < T.size t) (hf : flat T t = true) : ∃ z, (zeroValue t).run P w = .ok z w ∧ RelW e s w (Go.Sm.isAgg T t, (T.dget t (T.dflt t)).map ofD) z := by
  obtain ⟨i, g1, g2, g3, z, g4, g5, g6⟩ := hT.info t hs
  refine ⟨z, by simp [zeroValue, run_typeInfo w g1, g4], ?_⟩
  obtain ⟨z1, z2⟩ := hT.zero t hs
  have hcs : RelCs e s w ((T.dget t (T.dflt t)).map ofD) (T.zero t) := ofD_rel (z1.trans (hT.len _ _).symm) fun j d v hd hv => by
    rcases z2 j d v hd hv with h | ⟨u, rfl, _⟩
    · exact plain_rep h
    · have := flat_row hT hf hd
      cases this
  cases hag : Go.Sm.isAgg T t with
  | true =>
    obtain ⟨cs, rfl⟩ := g6 hag
    exact ⟨cs.toList, by simp, by rw [← g5] at hcs; exact hcs⟩
  | false =>
    obtain ⟨i', z', k1, k2, k3⟩ := hT.zv t hs hag
    rw [g1] at k1; cases k1
    rw [g4] at k2; cases k2
    have : z.cells = #[z] := by
      cases z with
      | agg cs => exact absurd rfl (k3 cs)
      | _ => rfl
    rw [this] at g5
    show RelCs e s w _ [z]
    rw [show [z] = T.zero t from g5]
    exact hcs
theorem lookupM_ok (hT : TblOk P T) (hR : Rel e s tm w) {t : Nat} {c : C T} {u : Value} (hc : RelC e s w c u) {ki : IntKind} {n : Int} {ok : Bool} {k : V T → M T α} (h : Rn Ok (lookupM t c ki n ok k) s a s') :
    ∃ v val, Rn Ok (k v) s a s' ∧ RelV e s w v val ∧ (Instr.lookup t u (.int ki n) ok).run P w = .ok val w := by
  unfold lookupM at h
  split at h
  · rename_i kt et r hty
    split at h
    · rename_i kj hkt
      have hX := rn_ite h
      clear h
      obtain ⟨hkk, h⟩ := hX
      subst hkk
      replace h := rn_getO h
      split at h
      · rename_i kt' et' l ho
        have hX := rn_withM h
        clear h
        obtain ⟨h1, h2, h⟩ := hX
        subst h1; subst h2
        have hX := rn_cond h
        clear h
        obtain ⟨hf, h⟩ := hX
        simp only [Bool.and_eq_true] at hf
        obtain ⟨hf, hs⟩ := hf
        have hs := nble hs
        obtain ⟨b, es, clk, e1, e2, e3, e4, e5⟩ := hR.objs _ _ ho
        obtain ⟨_, _, hm⟩ := hc
        obtain ⟨b', e6, rfl⟩ := hm _ _ _ ho
        rw [e1] at e6
        cases e6
        have hu := run_underlying (w := w) (hT.map _ _ _ hty)
        have hck := fun em => Go.MapKept.run_checkKey (w := w) (k := .int ki n) (hT.int _ _ hkt) rfl em 9999
        obtain ⟨v0, hv0, hrun⟩ : ∃ v0, RelW e s w (Go.Sm.isAgg T et', (T.dget et' ((mget kt' et' l n).getD (T.dflt et'))).map ofD) v0 ∧
            (Instr.lookup t (.map (some b)) (.int ki n) ok).run P w = .ok (if ok then .tuple #[v0, .bool (mget kt' et' l n).isSome] else v0) w := by
          rcases find_rel (w := w) hT hkt n (l := l) (es := es.toList) 0 (by simpa using e4) (fun j x me hx hme => (e5 j x me hx (by simpa using hme)).1) with ⟨g1, g2, g3⟩ | ⟨i, x, me, g1, g2, g3, g4, g5, g6⟩
          · obtain ⟨z, z1, z2⟩ := zero_relW (e := e) (s := s) (w := w) hT hs hf
            refine ⟨z, by simpa [mget, g2] using z2, ?_⟩
            simp only [Instr.lookup, Sem.run_bind, hu, Result.andThen_ok, Go.MapKept.run_getObj_map e3, Sem.run_pure, hck, Go.MapKept.run_findKey (hT.int _ _ hkt) g3, z1, mget, g2]
            cases ok <;> rfl
          · refine ⟨me.val, by simpa [mget, g2] using relW_any (e5 i x me g3 (by simpa using g4)).2, ?_⟩
            simp only [Instr.lookup, Sem.run_bind, hu, Result.andThen_ok, Go.MapKept.run_getObj_map e3, Sem.run_pure, hck, Go.MapKept.run_findKey (hT.int _ _ hkt) g6, mget, g2]
            cases ok <;> rfl
        cases ok with
        | true =>
          refine ⟨_, _, h, ⟨[v0, .bool (mget kt' et' l n).isSome], rfl, rfl, fun j x u hx hu => ?_⟩, hrun⟩
          match j with
          | 0 => simp only [List.getElem?_cons_zero, Option.some.injEq] at hx hu; subst hx; subst hu; exact hv0
          | 1 =>
            simp only [List.getElem?_cons_succ, List.getElem?_cons_zero, Option.some.injEq] at hx hu; subst hx; subst hu
            exact ⟨rfl, fun j c u hc hu => by
              cases j with
              | zero => simp at hc hu; subst hc; subst hu; exact RepD.bool _
              | succ j => simp at hc⟩
          | j + 2 => simp at hx
        | false =>
          obtain ⟨v, h1, _, h2⟩ := rn_toVal h
          refine ⟨v, v0, h1, ?_, hrun⟩
          rcases h2 with ⟨h2, rfl⟩ | ⟨h2, c, h3, rfl⟩
          · rw [h2] at hv0; exact hv0
          · rw [h2, h3] at hv0; exact hv0.2 0 c _ rfl rfl
      · exact (rn_fail h).elim
    · exact (rn_fail h).elim
  · exact (rn_fail h).elim
theorem Good.setMap (hG : Good W0 M0 e s tm w) {r b kt et clk clk' : Nat} {l l' : List (T.U kt × T.U et)} {es es' : Array MapEntry} (ho : s.objs r = some (.map kt et l)) (hadr : e.adr r = some ⟨b, 0, none⟩) (hfp : e.fp r b) (hb : w.heap[b]? = some (.map es clk)) (hl : es'.size = l'.length)
    (hes : ∀ (j : Nat) (x : T.U kt × T.U et) (me : MapEntry), l'[j]? = some x → es'[j]? = some me → (∃ kd, T.dget kt x.1 = [kd] ∧ RepD T w (fun _ => False) kd me.key) ∧
        RelW (T := T) ⟨fun _ => False, fun _ => none, fun _ => 0, fun _ _ => False⟩ ⟨fun _ => .undef, fun _ => none⟩ w (Go.Sm.isAgg T et, (T.dget et x.2).map ofD) me.val) :
    Good W0 M0 e (s.setO r (some (.map kt et l'))) tm { w with heap := w.heap.setIfInBounds b (.map es' clk') } ∧ Keeps e s w e (s.setO r (some (.map kt et l'))) { w with heap := w.heap.setIfInBounds b (.map es' clk') } := by
  obtain ⟨hR, hF, hP⟩ := hG
  obtain ⟨hs1, hs2⟩ := Go.MapKept.heap_set (o' := .map es' clk') hb
  have hobj : ∀ q : Ref, q.r = r → (s.setO r (some (.map kt et l'))).objs q.r = some (.map kt et l') := fun q h => by rw [h]; exact setO_objs _ _ _
  have hin : ∀ q : Ref, q.r = r → refInfo (s.setO r (some (.map kt et l'))) q = none := fun q h => by unfold refInfo; rw [hobj q h]
  obtain ⟨h1, h2, h3⟩ := Rel.upd (e' := e) (x := .map kt et l') (w' := { w with heap := w.heap.setIfInBounds b (.map es' clk') }) hR hF Loose.none (r := r) ⟨fun _ _ => rfl, fun _ _ => rfl, fun _ _ _ => Iff.rfl⟩ (fun _ h => h) (fun _ h => .inl h) (by simp) (fun b' hb' hn _ => hs2 b' fun h => hn (h ▸ hfp)) rfl rfl ⟨rfl, Nat.le_refl _, fun b' cs el fz hb' => ⟨cs, (hs2 b' fun h => by rw [h, hb] at hb'; cases hb').trans hb', rfl⟩⟩
    (fun b' h => ⟨.inl h, by simpa using hR.lt b' (.inr ⟨_, h⟩)⟩)
    (fun q rng v hq h => ⟨⟨_, hobj q hq, fun _ _ _ _ _ _ h => by cases h⟩, h.2.1, fun t l hi => by rw [hin q hq] at hi; cases hi⟩)
    (fun q row col v hq h => ⟨⟨_, hobj q hq, fun _ _ _ _ _ _ h => by cases h⟩, h.2.1, (fun cs hc => by rw [hobj q hq] at hc; cases hc), fun t l hi => by rw [hin q hq] at hi; cases hi⟩)
    (fun v h => ⟨⟨_, setO_objs _ _ _⟩, h.2.1, fun kt' et' l2 hm => h.2.2 _ _ _ ho⟩)
  refine ⟨⟨h3 ⟨b, es', clk', hadr, hfp, hs1, hl, fun j x me hx hm => ?_⟩, h2, hP.upd (fun _ _ => rfl) (fun _ _ => rfl) ⟨fun _ _ _ _ _ h => (by cases h), fun _ _ h => (by cases h)⟩⟩, h1⟩
  obtain ⟨⟨kd, g1, g2⟩, g3⟩ := hes j x me hx hm
  exact ⟨⟨kd, g1, g2.mono (fun _ h => h) fun b hb => hb.elim⟩, relW_any' g3⟩
theorem csD_flat {K : Nat → Prop} {cs : List (C T)} {ds : List (D T.U)} (h : csD cs = some ds) {us : List Value} (hc : RelCs e s w cs us) (hf : ∀ d ∈ ds, d.isArr = false) : RepDs T w' K ds us := by
  have := csD_get h
  subst this
  refine ⟨by simpa using hc.1, fun j d v hd hv => ?_⟩
  have := hc.2 j (.d d) v (by simp [hd]) hv
  exact flat_rep this (hf d (List.mem_of_getElem? hd))
theorem mapUpdateM_ok (hT : TblOk P T) (hG : Good W0 M0 e s tm w) {t : Nat} {c : C T} {u : Value} (hc : RelC e s w c u) {ki : IntKind} {n : Int} {v : V T} {uv : Value} (hv : RelV e s w v uv) {k : M T α} (h : Rn Ok (mapUpdateM t c ki n v k) s a s') :
    ∃ s1 e1 w1, Rn Ok k s1 a s' ∧ Good W0 M0 e1 s1 tm w1 ∧ Keeps e s w e1 s1 w1 ∧ s1.regs = s.regs ∧ (Instr.mapUpdate t u (.int ki n) uv).run P w = .ok () w1 := by
  unfold mapUpdateM at h
  split at h
  · rename_i kt et r cs hty hcs
    split at h
    · rename_i kj hkt
      have hX := rn_ite h
      clear h
      obtain ⟨hkk, h⟩ := hX
      subst hkk
      split at h
      · rename_i kx ds hkx hds
        split at h
        · rename_i y hy
          have hX := rn_cond h
          clear h
          obtain ⟨hf, h⟩ := hX
          simp only [Bool.and_eq_true, beq_iff_eq] at hf
          obtain ⟨hf, hag⟩ := hf
          replace h := rn_getO h
          split at h
          · rename_i kt' et' l ho
            have hX := rn_withM h
            clear h
            obtain ⟨h1, h2, h⟩ := hX
            subst h1; subst h2
            replace h := rn_setO h
            obtain ⟨b, es, clk, e1, e2, e3, e4, e5⟩ := hG.rel.objs _ _ ho
            obtain ⟨_, _, hm⟩ := hc
            obtain ⟨b', e6, rfl⟩ := hm _ _ _ ho
            rw [e1] at e6
            cases e6
            have hu := run_underlying (w := w) (hT.map _ _ _ hty)
            have hck := fun em => Go.MapKept.run_checkKey (w := w) (k := .int ki n) (hT.int _ _ hkt) rfl em 9999
            have hkey : (∃ kd, T.dget kt' kx = [kd] ∧ RepD T w (fun _ => False) kd (.int ki n)) := ⟨_, hT.get _ _ _ hkx, .int _ _⟩
            have hy' := hT.get _ _ _ hy
            have hval : RelW (T := T) ⟨fun _ => False, fun _ => none, fun _ => 0, fun _ _ => False⟩ ⟨fun _ => .undef, fun _ => none⟩ w (Go.Sm.isAgg T et', (T.dget et' y).map ofD) uv := by
              have hfl : ∀ d ∈ ds, d.isArr = false := fun d hd => by
                obtain ⟨j, hj, rfl⟩ := List.getElem_of_mem hd
                exact flat_row hT hf (x := y) (j := j) (by rw [hy']; exact List.getElem?_eq_getElem hj)
              rw [hy', ← hag]
              cases v with
              | one c =>
                cases hcs
                have := csD_flat (K := fun _ => False) (w' := w) hds (us := [uv]) ⟨rfl, fun j c u h1 h2 => by cases j with
                  | zero => simp at h1 h2; subst h1; subst h2; exact hv
                  | succ j => simp at h1⟩ hfl
                exact ofD_rel this.1 this.2
              | agg cs' =>
                cases hcs
                obtain ⟨us, rfl, hv⟩ := hv
                have := csD_flat (K := fun _ => False) (w' := w) hds hv hfl
                exact ⟨us, rfl, ofD_rel this.1 this.2⟩
              | _ => cases hcs
            rcases find_rel (w := w) hT hkt n (l := l) (es := es.toList) 0 (by simpa using e4) (fun j x me hx hme => (e5 j x me hx (by simpa using hme)).1) with ⟨g1, g2, g3⟩ | ⟨i, x, me, g1, g2, g3, g4, g5, g6⟩
            · have hmp : mput kt' et' l n kx y = l ++ [(kx, y)] := by simp [mput, g1]
              rw [hmp] at h
              obtain ⟨k1, k2⟩ := hG.setMap (l' := l ++ [(kx, y)]) (es' := es.push { key := .int ki n, val := uv, born := clk }) (clk' := clk + 1) ho e1 e2 e3 (by simp [e4]) (fun j x me hx hm => by
                by_cases hj : j < l.length
                · rw [List.getElem?_append_left hj] at hx
                  rw [Array.getElem?_push_lt (by omega)] at hm
                  exact e5 j x me hx (by rw [← hm]; exact Array.getElem?_eq_getElem _)
                · have hj' : j = l.length := by have := (List.getElem?_eq_some_iff.1 hx).1; simp at this; omega
                  subst hj'
                  rw [← e4] at hm
                  simp at hx hm
                  subst hx; subst hm
                  exact ⟨hkey, hval⟩)
              refine ⟨_, _, _, h, k1, k2, rfl, ?_⟩
              simp [Instr.mapUpdate, hu, Go.MapKept.run_getObj_map e3, hck, Go.MapKept.run_findKey (hT.int _ _ hkt) g3, Go.MapKept.run_setObj_map _ e3, Result.andThen]
            · have hmp : mput kt' et' l n kx y = l.set i (kx, y) := by simp [mput, g1]
              rw [hmp] at h
              have g4' : es[i]? = some me := by simpa using g4
              obtain ⟨k1, k2⟩ := hG.setMap (l' := l.set i (kx, y)) (es' := es.modify i fun e => { e with key := .int ki n, val := uv }) (clk' := clk) ho e1 e2 e3 (by simp [e4]) (fun j x' me' hx hm => by
                rw [Array.getElem?_modify] at hm
                by_cases hj : i = j
                · subst hj
                  have hlt := (List.getElem?_eq_some_iff.1 g3).1
                  rw [List.getElem?_set_self hlt] at hx
                  simp only [if_true, g4', Option.map_some, Option.some.injEq] at hm
                  cases hx; subst hm
                  exact ⟨hkey, hval⟩
                · rw [List.getElem?_set_ne hj] at hx
                  rw [if_neg hj] at hm
                  exact e5 j x' me' hx hm)
              refine ⟨_, _, _, h, k1, k2, rfl, ?_⟩
              simp [Instr.mapUpdate, hu, Go.MapKept.run_getObj_map e3, hck, Go.MapKept.run_findKey (hT.int _ _ hkt) g6, g4', g5, Go.MapKept.run_keyThatStays (d := .int ki) (k := .int ki n) rfl, Go.MapKept.run_setObj_map _ e3, Result.andThen]
          · exact (rn_fail h).elim
        · exact (rn_fail h).elim
      · exact (rn_fail h).elim
    · exact (rn_fail h).elim
  · exact (rn_fail h).elim
/-! ### Sealing -/
theorem Good.shut (hG : Good W0 M0 e s tm w) {r t : Nat} {l : List (T.U t)} {ver nver m : Nat} {pin : Bool} (ho : s.objs r = some (.arr t l ver nver (.upto m) pin)) (hm : l.length ≤ m) :
    Good W0 M0 e (s.setO r (some (.arr t l ver nver .all pin))) tm w ∧ Keeps e s w e (s.setO r (some (.arr t l ver nver .all pin))) w := by
  have hinf : ∀ q : Ref, q.r = r → refInfo (s.setO r (some (.arr t l ver nver .all pin))) q = refInfo s q := fun q hq => by
    subst hq
    unfold refInfo
    rw [setO_objs, ho]
  have hlive : ∀ q : Ref, q.r = r → Live s q → Live (s.setO r (some (.arr t l ver nver .all pin))) q := fun q hq hl => by
    subst hq
    obtain ⟨o, h1, h2⟩ := hl
    have h2 := h2 _ _ _ _ _ _ (Option.some.inj (h1.symm.trans ho))
    exact ⟨_, setO_objs _ _ _, fun _ _ _ _ _ _ hx => by cases hx; exact h2⟩
  have hat : ∀ (q : Ref), q.r = r → ∀ A c, RefAt e s w q A c → RefAt e (s.setO r (some (.arr t l ver nver .all pin))) w q A c := fun q hq A c h => by
    subst hq
    unfold RefAt at *
    cases hp : q.p with
    | none => simp only [hp] at *; exact h
    | some ic =>
      simp only [hp] at *
      obtain ⟨t1, l1, ver1, nver1, dep1, pin1, b, off, n, h1, h2, h3, h4⟩ := h
      rw [ho] at h1
      cases h1
      exact ⟨_, _, _, _, _, _, b, off, n, setO_objs _ _ _, trivial, h3, h4⟩
  obtain ⟨k1, k2, k3⟩ := Rel.upd (e' := e) (w' := w) (x := .arr t l ver nver .all pin) hG.rel hG.fr Loose.none (r := r) ⟨fun _ _ => rfl, fun _ _ => rfl, fun _ _ _ => Iff.rfl⟩ (fun _ h => h) (fun _ h => .inl h) (Nat.le_refl _) (fun _ _ _ _ => rfl) rfl rfl (Oth.refl _)
    (fun b hb => ⟨.inl hb, hG.rel.lt b (.inr ⟨_, hb⟩)⟩)
    (fun q rng v hq h => ⟨hlive q hq h.1, h.2.1, fun t2 l2 hi => by
      rw [hinf q hq] at hi
      obtain ⟨A, c, h4, h5⟩ := h.2.2 _ _ hi
      exact ⟨A, c, hat q hq A c h4, h5⟩⟩)
    (fun q row col v hq h => ⟨hlive q hq h.1, h.2.1, (fun cs hc => by rw [hq, setO_objs] at hc; cases hc), fun t2 l2 hi => by
      rw [hinf q hq] at hi
      obtain ⟨b, off, c, h4, h5⟩ := h.2.2.2 _ _ hi
      exact ⟨b, off, c, hat q hq _ c h4, h5⟩⟩)
    (fun v h => relMap_arr (t := t) (l := l) (ver := ver) (nver := nver) (dep := .upto m) (pin := pin) h)
  obtain ⟨vals, F, hA⟩ := hG.rel.objs _ _ ho
  refine ⟨⟨k3 ⟨vals, F, hA.hc, hA.hA, hA.hblk, hA.hcell, fun i j d hi hd => ?_, hA.hF, hA.hdis⟩, k2, hG.pin.upd (fun _ _ => rfl) (fun _ _ => rfl) ⟨fun _ _ _ _ _ h => (by
    cases h
    exact hG.pin.arr _ _ _ _ _ _ ho), fun _ _ h => (by cases h)⟩⟩, k1⟩
  rcases hA.hsub i j d hi hd with h | h
  · exact h.2
  · omega
/-- Ready to go on, in a state that has been sealed. -/
def Sealed (Ok : Nat → List (A T) → Res T → Prop) (W0 : World) (M0 : Gh) (e : Env) (s : St T) (tm : Array Value) (w : World) (k : M T α) (a : α) (s' : St T) : Prop :=
  ∃ s1, Rn Ok k s1 a s' ∧ Good W0 M0 e s1 tm w ∧ Keeps e s w e s1 w ∧ s1.regs = s.regs
theorem sealC_ok (hG : Good W0 M0 e s tm w) {c : C T} {k : M T α} (h : Rn Ok (sealC c k) s a s') : Sealed Ok W0 M0 e s tm w k a s' := by
  unfold sealC at h
  split at h
  · rename_i q _ _ _
    replace h := rn_getO h
    split at h
    · rename_i t l ver nver m pin ho hp
      obtain ⟨h1, h⟩ := rn_must h
      replace h := rn_setO h
      obtain ⟨g1, g2⟩ := hG.shut ho h1
      exact ⟨_, h, g1, g2, rfl⟩
    · exact ⟨_, h, hG, .refl, rfl⟩
  · exact ⟨_, h, hG, .refl, rfl⟩
theorem sealCs_ok : ∀ {cs : List (C T)} {s : St T} (hG : Good W0 M0 e s tm w) {k : M T α} (h : Rn Ok (sealCs cs k) s a s'), Sealed Ok W0 M0 e s tm w k a s'
  | [], s, hG, k, h => ⟨_, h, hG, .refl, rfl⟩
  | c :: r, s, hG, k, h => by
    obtain ⟨s1, h, g1, g2, g3⟩ := sealC_ok hG h
    obtain ⟨s2, h, k1, k2, k3⟩ := sealCs_ok g1 h
    exact ⟨s2, h, k1, g2.trans k2, k3.trans g3⟩
theorem sealV_ok (hG : Good W0 M0 e s tm w) {v : V T} {k : M T α} (h : Rn Ok (sealV v k) s a s') : Sealed Ok W0 M0 e s tm w k a s' := by
  unfold sealV at h
  split at h
  · replace h := rn_getO h
    split at h
    · exact sealCs_ok hG h
    · exact ⟨_, h, hG, .refl, rfl⟩
  · exact sealC_ok hG h
  · exact sealCs_ok hG h
  · exact ⟨_, h, hG, .refl, rfl⟩
theorem sealA_ok (hG : Good W0 M0 e s tm w) {m : Mode} {v : V T} {k : M T α} (h : Rn Ok (sealA m v k) s a s') : Sealed Ok W0 M0 e s tm w k a s' := by
  cases m with
  | ro => exact ⟨_, h, hG, .refl, rfl⟩
  | rwv => exact ⟨_, h, hG, .refl, rfl⟩
  | _ => exact sealV_ok hG h
theorem sealAs_ok : ∀ {ms : List Mode} {vs : List (V T)} {s : St T} (hG : Good W0 M0 e s tm w) {k : M T α} (h : Rn Ok (sealAs ms vs k) s a s'), Sealed Ok W0 M0 e s tm w k a s'
  | [], _, s, hG, k, h => ⟨_, (by unfold sealAs at h; exact h), hG, .refl, rfl⟩
  | _ :: _, [], s, hG, k, h => ⟨_, (by unfold sealAs at h; exact h), hG, .refl, rfl⟩
  | m :: ms, v :: vs, s, hG, k, h => by
    obtain ⟨s1, h, g1, g2, g3⟩ := sealA_ok hG h
    obtain ⟨s2, h, k1, k2, k3⟩ := sealAs_ok g1 h
    exact ⟨s2, h, k1, g2.trans k2, k3.trans g3⟩
theorem sealR_ok (hG : Good W0 M0 e s tm w) {rk : RK} {v : V T} {k : M T α} (h : Rn Ok (sealR rk v k) s a s') : Sealed Ok W0 M0 e s tm w k a s' := by
  cases rk with
  | own => exact sealV_ok hG h
  | _ => exact ⟨_, h, hG, .refl, rfl⟩
end
end Go.Sm
end

section
set_option linter.unusedSimpArgs false
set_option linter.deprecated false
set_option linter.unusedSectionVars false
set_option linter.unusedVariables false
namespace Go.Sm
variable {T : Tbl} {α : Type}

/-! ### What a call is handed, and what it leaves -/
def OwnDs (T : Tbl) (w : World) (ds : List (D T.U)) (vs : List Value) (S : Nat → Prop) : Prop :=
  vs.length = ds.length ∧ ∃ F : Nat → Nat → Prop, (∀ (j : Nat) (d : D T.U) (v : Value), ds[j]? = some d → vs[j]? = some v → OwnD T w d v (F j)) ∧ (∀ j b, F j b → S b) ∧ ∀ i j b, F i b → F j b → i = j
def PtrRo (T : Tbl) (w : World) (K : Nat → Prop) (t : Nat) (x : T.U t) (v : Value) : Prop :=
  ∃ b off, ∃ vals : Nat → Value, v = .pointer (some ⟨b, off, none⟩) ∧ ∀ j d, (T.dget t x)[j]? = some d → K b ∧ w.cell? ⟨b, off + j, none⟩ = some (vals j) ∧ RepD T w K d (vals j)
def CapRo (T : Tbl) (w : World) (K : Nat → Prop) : A T → Value → Prop
  | .val false ds, v => RepDs T w K ds [v]
  | .ptr t x, v => PtrRo T w K t x v
  | _, _ => False
def ArgRo (T : Tbl) (w : World) (K : Nat → Prop) : A T → Value → Prop
  | .val true ds, v => ∃ vs : List Value, v = .agg vs.toArray ∧ RepDs T w K ds vs
  | .val false ds, v => RepDs T w K ds [v]
  | .ptr t x, v => PtrRo T w K t x v
  | .nptr, v => v = .pointer none
  | .fn f caps, v => ∃ vs : List Value, v = .func (.func f) #[] vs.toArray ∧ vs.length = caps.length ∧ ∀ (j : Nat) (c : A T) (u : Value), caps[j]? = some c → vs[j]? = some u → CapRo T w K c u
def ArgRw (T : Tbl) (w : World) (K : Nat → Prop) : Mode → A T → Value → (Nat → Prop) → Prop
  | .rws, .val true ds, v, S => ∃ vs : List Value, v = .agg vs.toArray ∧ OwnDs T w ds vs S
  | .rws, .val false ds, v, S => OwnDs T w ds [v] S
  | .mv, .val false ds, v, S => OwnDs T w ds [v] S
  | .mv, .val true ds, v, S => ∃ vs : List Value, v = .agg vs.toArray ∧ OwnDs T w ds vs S
  | .rwp, .ptr t x, v, S => ∃ b arr el, v = .pointer (some ⟨b, 0, none⟩) ∧ S b ∧ w.heap[b]? = some (.cells arr el (0, 0)) ∧ OwnDs T w (T.dget t x) arr.toList fun b' => S b' ∧ b' ≠ b
  | .rwv, .ptr t x, v, S => ∃ b arr el, v = .pointer (some ⟨b, 0, none⟩) ∧ S b ∧ w.heap[b]? = some (.cells arr el (0, 0)) ∧ RepDs T w K (T.dget t x) arr.toList
  | _, _, _, _ => False
inductive ArgsOk (T : Tbl) (w : World) (K : Nat → Prop) : List Mode → List (A T) → List Value → (Nat → Prop) → Prop
  | nil : ArgsOk T w K [] [] [] fun _ => False
  | ro {ms as vs S a v} : ArgRo T w K a v → ArgsOk T w K ms as vs S → ArgsOk T w K (.ro :: ms) (a :: as) (v :: vs) S
  | rw {ms as vs S m a v S1} : ArgRw T w K m a v S1 → ArgsOk T w K ms as vs S → (∀ b, S1 b → ¬ S b) → ArgsOk T w K (m :: ms) (a :: as) (v :: vs) fun b => S1 b ∨ S b

/-- Data that differ at most in what their arrays hold. -/
def Shape : List (D T.U) → List (D T.U) → Prop
  | [], [] => True
  | .arr t _ :: r, .arr t' _ :: r' => t = t' ∧ Shape r r'
  | .arr _ _ :: _, _ => False
  | d :: r, d' :: r' => d = d' ∧ Shape r r'
  | _, _ => False
def slOuts : List (D T.U) → List (Out T)
  | [] => []
  | .arr t l :: r => .sl t l :: slOuts r
  | _ :: r => slOuts r
def OutRw (T : Tbl) (w' : World) (K' : Nat → Prop) : Mode → A T → Value → List (Out T) → (Nat → Prop) → Prop
  | .rws, .val true ds, v, os, R => ∃ (ds' : List (D T.U)) (vs : List Value), v = .agg vs.toArray ∧ os = slOuts ds' ∧ Shape ds ds' ∧ OwnDs T w' ds' vs R
  | .rws, .val false ds, v, os, R => ∃ ds' : List (D T.U), os = slOuts ds' ∧ Shape ds ds' ∧ OwnDs T w' ds' [v] R
  | .mv, .val _ ds, v, os, R => os = []
  | .rwp, .ptr t x, v, os, R => ∃ b arr el, ∃ x' : T.U t, v = .pointer (some ⟨b, 0, none⟩) ∧ os = [.var t x'] ∧ R b ∧ w'.heap[b]? = some (.cells arr el (0, 0)) ∧ OwnDs T w' (T.dget t x') arr.toList fun b' => R b' ∧ b' ≠ b
  | .rwv, .ptr t x, v, os, R => ∃ b arr el, ∃ x' : T.U t, v = .pointer (some ⟨b, 0, none⟩) ∧ os = [.var t x'] ∧ R b ∧ w'.heap[b]? = some (.cells arr el (0, 0)) ∧ RepDs T w' K' (T.dget t x') arr.toList
  | _, _, _, _, _ => False
inductive OutsOk (T : Tbl) (w' : World) (K' : Nat → Prop) : List Mode → List (A T) → List Value → List (Out T) → (Nat → Prop) → Prop
  | nil : OutsOk T w' K' [] [] [] [] fun _ => False
  | ro {ms as vs os R a v} : OutsOk T w' K' ms as vs os R → OutsOk T w' K' (.ro :: ms) (a :: as) (v :: vs) os R
  | rw {ms as vs o os R m a v R1} : OutRw T w' K' m a v o R1 → OutsOk T w' K' ms as vs os R → (∀ b, R1 b → ¬ R b) → OutsOk T w' K' (m :: ms) (a :: as) (v :: vs) (o ++ os) fun b => R1 b ∨ R b

/-- A result's cell of which only the first level is one's own. -/
def ShalD (T : Tbl) (w' : World) (K' : Nat → Prop) (d : D T.U) (v : Value) (R : Nat → Prop) : Prop :=
  match d with
  | .arr t l => ∃ A c vals F, v = .slice A l.length c ∧ ArrOk T w' K' t l (.upto 0) A c R vals F
  | d => RepD T w' K' d v
def ShalDs (T : Tbl) (w : World) (K : Nat → Prop) (ds : List (D T.U)) (vs : List Value) (S : Nat → Prop) : Prop :=
  vs.length = ds.length ∧ ∃ F : Nat → Nat → Prop, (∀ (j : Nat) (d : D T.U) (v : Value), ds[j]? = some d → vs[j]? = some v → ShalD T w K d v (F j)) ∧ (∀ j b, F j b → S b) ∧ ∀ i j b, F i b → F j b → i = j
def CellsRk (T : Tbl) (w : World) (K : Nat → Prop) (rk : RK) (ds : List (D T.U)) (vs : List Value) (S : Nat → Prop) : Prop :=
  match rk with
  | .own => OwnDs T w ds vs S
  | .shal => ShalDs T w K ds vs S
  | .ro => RepDs T w K ds vs
def RetOk (T : Tbl) (w' : World) (K' : Nat → Prop) (rk : RK) : RV T → Value → (Nat → Prop) → Prop
  | .val true ds, v, R => ∃ vs : List Value, v = .agg vs.toArray ∧ CellsRk T w' K' rk ds vs R
  | .val false ds, v, R => CellsRk T w' K' rk ds [v] R
  | .ptr t x, v, R => ∃ b arr el, v = .pointer (some ⟨b, 0, none⟩) ∧ R b ∧ w'.heap[b]? = some (.cells arr el (0, 0)) ∧ RepDs T w' K' (T.dget t x) arr.toList
inductive RetsOk (T : Tbl) (w' : World) (K' : Nat → Prop) (rk : RK) : List (RV T) → List Value → (Nat → Prop) → Prop
  | nil : RetsOk T w' K' rk [] [] fun _ => False
  | cons {xs vs R x v R1} : RetOk T w' K' rk x v R1 → RetsOk T w' K' rk xs vs R → (∀ b, R1 b → ¬ R b) → RetsOk T w' K' rk (x :: xs) (v :: vs) fun b => R1 b ∨ R b
def retVal : List Value → Value
  | [v] => v
  | vs => .tuple vs.toArray
/-- What a call leaves: M: what was lent or given; K: what it might read. -/
structure Post (T : Tbl) (w : World) (K M : Nat → Prop) (sg : Sig) (as : List (A T)) (vs : List Value) (res : Res T) (v : Value) (w' : World) : Prop where
  ex : ∃ (K' R R' : Nat → Prop) (us : List Value), v = retVal us ∧ RetsOk T w' K' sg.rk res.rets us R ∧ OutsOk T w' K' sg.modes as vs res.outs R' ∧
    (∀ b, R b → ¬ R' b) ∧ (∀ b, R b ∨ R' b → ¬ K' b ∧ b < w'.heap.size ∧ (M b ∨ w.heap.size ≤ b)) ∧ (∀ b, K b → K' b) ∧ (∀ b, K' b → b < w'.heap.size ∧ (K b ∨ M b ∨ w.heap.size ≤ b))
  size : w.heap.size ≤ w'.heap.size
  os : w'.os = w.os
  tape : w'.tape = w.tape
  output : Oth w w'
  block : ∀ b, b < w.heap.size → ¬ M b → w'.heap[b]? = w.heap[b]?
/-- A function whose body the program holds. -/
def FnOk (P : Program) (f : Nat) : Prop := ∀ (args : Array Value) (w : World), (callFunc f args).run P w = .ok (.enter f args) w
/-- The call of a function may be said by its arguments' data alone. -/
def CallOk (P : Program) (T : Tbl) (f : Nat) (as : List (A T)) (res : Res T) : Prop :=
  FnOk P f ∧ ∀ (w : World) (K M : Nat → Prop) (vs : List Value), ArgsOk T w K (T.sg f).modes as vs M → (∀ b, M b → ¬ K b) → (∀ b, M b ∨ K b → b < w.heap.size) →
    Calls P f vs.toArray w fun e w' => ∃ v, e = .returned v ∧ Post T w K M (T.sg f) as vs res v w'
end Go.Sm
end

section
set_option linter.unusedSimpArgs false
set_option linter.deprecated false
set_option linter.unusedSectionVars false
set_option linter.unusedVariables false
namespace Go.Sm
variable {T : Tbl} {α : Type}
section
variable {Ok : Nat → List (A T) → Res T → Prop} {s s' : St T} {a : α} {P : Program} {e e' : Env} {w w' W0 : World} {M0 : Gh} {tm : Array Value}

/-- A state some of whose objects are lent (G): of these only where they lie is known. -/
structure RelG (G : Nat → Prop) (e : Env) (s : St T) (tm : Array Value) (w : World) : Prop where
  regs : ∀ t, RelV e s w (s.regs t) (tm.getD t undef)
  objs : ∀ r o, ¬ G r → s.objs r = some o → RelO e s w r o
  dis : ∀ r r' b, e.fp r b → e.fp r' b → r = r'
  disK : ∀ r b, e.fp r b → ¬ e.K b
  lt : ∀ b, (e.K b ∨ ∃ r, e.fp r b) → b < w.heap.size
  gone : ∀ r b, G r → ¬ e.fp r b
  lent : ∀ r, G r → (∃ cs, s.objs r = some (.var cs)) ∨ (∃ t l ver nver pin, s.objs r = some (.arr t l ver nver (.upto 0) pin))
structure GoodG (W0 : World) (M0 : Gh) (G : Nat → Prop) (e : Env) (s : St T) (tm : Array Value) (w : World) : Prop where
  rel : RelG G e s tm w
  fr : Fr W0 M0 e w
  pin : PinOk M0 e s
theorem Good.toG (h : Good W0 M0 e s tm w) : GoodG W0 M0 (fun _ => False) e s tm w :=
  ⟨⟨h.rel.regs, fun r o _ => h.rel.objs r o, h.rel.dis, h.rel.disK, h.rel.lt, fun _ _ h => h.elim, fun _ h => h.elim⟩, h.fr, h.pin⟩
theorem GoodG.toGood {G : Nat → Prop} (h : GoodG W0 M0 G e s tm w) (hG : ∀ r, ¬ G r) : Good W0 M0 e s tm w :=
  ⟨⟨h.rel.regs, fun r o => h.rel.objs r o (hG r), h.rel.dis, h.rel.disK, h.rel.lt⟩, h.fr, h.pin⟩
theorem GoodG.sub {G G' : Nat → Prop} (h : GoodG W0 M0 G e s tm w) (hG : ∀ r, G r ↔ G' r) : GoodG W0 M0 G' e s tm w :=
  ⟨⟨h.rel.regs, fun r o hr => h.rel.objs r o fun x => hr ((hG r).1 x), h.rel.dis, h.rel.disK, h.rel.lt, fun r b hr => h.rel.gone r b ((hG r).2 hr), fun r hr => h.rel.lent r ((hG r).2 hr)⟩, h.fr, h.pin⟩

/-- References to what is lent do not look into memory. -/
structure LentO (e : Env) (s : St T) (e' : Env) (s' : St T) (r : Nat) : Prop where
  obj : s'.objs r = s.objs r
  adr : e'.adr r = e.adr r
  cap : e'.cap r = e.cap r
  lent : (∃ cs, s.objs r = some (.var cs)) ∨ (∃ t l ver nver pin, s.objs r = some (.arr t l ver nver (.upto 0) pin))
theorem LentO.info {q : Ref} (h : LentO e s e' s' q.r) : refInfo s' q = refInfo s q := by unfold refInfo; rw [h.obj]
theorem LentO.live {q : Ref} (h : LentO e s e' s' q.r) (hl : Live s q) : Live s' q := by unfold Live at *; rw [h.obj]; exact hl
theorem LentO.at_ {q : Ref} (h : LentO e s e' s' q.r) {t : Nat} {l : List (T.U t)} (hi : refInfo s q = some ⟨t, l⟩) {A : Option Addr} {c : Nat} (hat : RefAt e s w q A c) : RefAt e' s' w' q A c := by
  unfold RefAt at *
  cases hp : q.p with
  | none => simp only [hp] at *; exact ⟨hat.1.trans h.adr.symm, hat.2.trans h.cap.symm⟩
  | some ic =>
    obtain ⟨i, col⟩ := ic
    simp only [hp] at hat ⊢
    obtain ⟨t1, l1, ver, nver, dep, pin, b, off, n, h1, h2, h3, h4⟩ := hat
    rcases h.lent with ⟨cs, hl⟩ | ⟨t2, l2, ver2, nver2, pin2, hl⟩
    · rw [h1] at hl; cases hl
    · rw [h1] at hl
      cases hl
      exact absurd h2 (Nat.not_lt_zero _)
theorem LentO.ref {q : Ref} (h : LentO e s e' s' q.r) {rng : Option (Nat × Nat)} {v : Value} (hr : RelRef e s w q rng v) : RelRef e' s' w' q rng v := by
  refine ⟨h.live hr.1, hr.2.1, fun t l hi => ?_⟩
  rw [h.info] at hi
  obtain ⟨A, c, h1, h2⟩ := hr.2.2 t l hi
  exact ⟨A, c, h.at_ hi h1, h2⟩
theorem LentO.ptr {q : Ref} (h : LentO e s e' s' q.r) {row col : Nat} {v : Value} (hr : RelPtr e s w q row col v) : RelPtr e' s' w' q row col v := by
  refine ⟨h.live hr.1, hr.2.1, fun cs hc hz => ?_, fun t l hi => ?_⟩
  · obtain ⟨b, h1, h2⟩ := hr.2.2.1 cs (h.obj.symm.trans hc) hz
    exact ⟨b, h.adr.trans h1, h2⟩
  · rw [h.info] at hi
    obtain ⟨b, off, c, h1, h2⟩ := hr.2.2.2 t l hi
    exact ⟨b, off, c, h.at_ hi h1, h2⟩
theorem LentO.map {r : Nat} (h : LentO e s e' s' r) {v : Value} (hr : RelC0 e s w (.map r : C T) v) : RelC0 e' s' w' (.map r : C T) v := by
  refine ⟨by rw [h.obj]; exact hr.1, hr.2.1, fun kt et l hm => ?_⟩
  obtain ⟨b, h1, h2⟩ := hr.2.2 kt et l (h.obj.symm.trans hm)
  exact ⟨b, h.adr.trans h1, h2⟩

theorem RelG.upd {G G' : Nat → Prop} (hR : RelG G e s tm w) (hF : Fr W0 M0 e w) {S : Nat → Prop} (hS : Loose W0 M0 e w S) {r : Nat} {x : Root T} (hGG : ∀ r', r' ≠ r → (G' r' ↔ G r')) (hu : EnvUpd e e' r)
    (hK : ∀ b, e.K b → e'.K b) (hK' : ∀ b, e'.K b → e.K b ∨ ((e.fp r b ∨ S b) ∧ ¬ e'.fp r b))
    (hsz : w.heap.size ≤ w'.heap.size) (hw : ∀ b, b < w.heap.size → ¬ e.fp r b → ¬ S b → w'.heap[b]? = w.heap[b]?)
    (hos : w'.os = w.os) (htape : w'.tape = w.tape) (hout : Oth w w')
    (hfp : ∀ b, e'.fp r b → (e.fp r b ∨ S b ∨ w.heap.size ≤ b) ∧ b < w'.heap.size)
    (href : ∀ q rng v, q.r = r → RelRef e s w q rng v → RelRef e' (s.setO r (some x)) w' q rng v)
    (hptr : ∀ q row col v, q.r = r → RelPtr e s w q row col v → RelPtr e' (s.setO r (some x)) w' q row col v)
    (hmap : ∀ v, RelC0 e s w (.map r : C T) v → RelC0 e' (s.setO r (some x)) w' (.map r : C T) v)
    (hgone : G' r → ∀ b, ¬ e'.fp r b) (hlent : G' r → (∃ cs, x = .var cs) ∨ (∃ t l ver nver pin, x = .arr t l ver nver (.upto 0) pin)) :
    Keeps e s w e' (s.setO r (some x)) w' ∧ Fr W0 M0 e' w' ∧ ((¬ G' r → RelO e' (s.setO r (some x)) w' r x) → RelG G' e' (s.setO r (some x)) tm w') := by
  have hobj : ∀ r', r' ≠ r → (s.setO r (some x)).objs r' = s.objs r' := fun r' hr => by simp only [St.setO, beq_ne hr, cond_false]
  have hblkK : ∀ b, e.K b → w'.heap[b]? = w.heap[b]? := fun b hb => hw b (hR.lt b (.inl hb)) (fun h => hR.disK _ _ h hb) (fun h => hS.notK _ h hb)
  have hsame : ∀ r', r' ≠ r → SameO e s w e' (s.setO r (some x)) w' r' := fun r' hr =>
    ⟨hobj r' hr, hu.adr r' hr, hu.cap r' hr, fun b => hu.fp r' b hr, fun b hb => hw b (hR.lt b (.inr ⟨_, hb⟩)) (fun h => hr (hR.dis _ _ _ hb h)) (fun h => hS.notFp _ _ h hb)⟩
  have hl : ∀ r', r' ≠ r → G r' → LentO e s e' (s.setO r (some x)) r' := fun r' hr hg => ⟨hobj r' hr, hu.adr r' hr, hu.cap r' hr, hR.lent r' hg⟩
  have hk : Keeps e s w e' (s.setO r (some x)) w' := by
    refine ⟨hK, hblkK, fun q rng v hq => ?_, fun q row col v hq => ?_, fun r' v hq => ?_⟩
    · by_cases h : q.r = r
      · exact href q rng v h hq
      · by_cases hg : G q.r
        · exact (hl _ h hg).ref hq
        · exact (hsame _ h).ref (fun o => hR.objs _ o hg) hq
    · by_cases h : q.r = r
      · exact hptr q row col v h hq
      · by_cases hg : G q.r
        · exact (hl _ h hg).ptr hq
        · exact (hsame _ h).ptr (fun o => hR.objs _ o hg) hq
    · by_cases h : r' = r
      · subst h; exact hmap v hq
      · exact (hsame _ h).map hq
  have hfp' : ∀ r' b, e'.fp r' b → (r' = r ∧ (e.fp r b ∨ S b ∨ w.heap.size ≤ b)) ∨ (r' ≠ r ∧ e.fp r' b) := by
    intro r' b hb
    by_cases h : r' = r
    · subst h; exact .inl ⟨rfl, (hfp b hb).1⟩
    · exact .inr ⟨h, (hu.fp r' b h).1 hb⟩
  have hFr : Fr W0 M0 e' w' := by
    refine ⟨Nat.le_trans hF.size hsz, hos.trans hF.os, htape.trans hF.tape, hF.output.trans hout, fun b hb hM => ?_, fun r' b hb hlt => ?_, fun b hb hlt => ?_⟩
    · rw [hw b (Nat.lt_of_lt_of_le hb hF.size) (fun h => hM (hF.own _ _ h hb)) (fun h => hM (hS.own _ h hb))]
      exact hF.block b hb hM
    · rcases hfp' r' b hb with ⟨_, h⟩ | ⟨_, h⟩
      · rcases h with h | h | h
        · exact hF.own _ _ h hlt
        · exact hS.own _ h hlt
        · have := hF.size; omega
      · exact hF.own _ _ h hlt
    · rcases hK' b hb with h | ⟨h | h, _⟩
      · exact hF.know b h hlt
      · exact .inr (hF.own _ _ h hlt)
      · exact .inr (hS.own _ h hlt)
  refine ⟨hk, hFr, fun hx => ⟨fun t => hk.v (hR.regs t), fun r' o hg ho => ?_, fun r1 r2 b h1 h2 => ?_, fun r1 b h1 h2 => ?_, fun b hb => ?_, fun r1 b hg hb => ?_, fun r1 hg => ?_⟩⟩
  · by_cases h : r' = r
    · subst h
      simp only [St.setO, beq_self, cond_true, Option.some.injEq] at ho
      subst ho
      exact hx hg
    · rw [hobj r' h] at ho
      exact (hsame _ h).relO hk (hR.objs _ _ (fun x => hg ((hGG r' h).2 x)) ho)
  · rcases hfp' r1 b h1 with ⟨e1, g1⟩ | ⟨e1, g1⟩ <;> rcases hfp' r2 b h2 with ⟨e2, g2⟩ | ⟨e2, g2⟩
    · rw [e1, e2]
    · rcases g1 with g | g | g
      · exact absurd (hR.dis _ _ _ g2 g) e2
      · exact absurd g2 (hS.notFp _ _ g)
      · have := hR.lt b (.inr ⟨_, g2⟩); omega
    · rcases g2 with g | g | g
      · exact absurd (hR.dis _ _ _ g1 g) e1
      · exact absurd g1 (hS.notFp _ _ g)
      · have := hR.lt b (.inr ⟨_, g1⟩); omega
    · exact hR.dis _ _ _ g1 g2
  · rcases hK' b h2 with hK0 | ⟨hK1, hK2⟩
    · rcases hfp' r1 b h1 with ⟨e1, g1⟩ | ⟨e1, g1⟩
      · rcases g1 with g | g | g
        · exact hR.disK _ _ g hK0
        · exact hS.notK _ g hK0
        · have := hR.lt b (.inl hK0); omega
      · exact hR.disK _ _ g1 hK0
    · rcases hfp' r1 b h1 with ⟨e1, g1⟩ | ⟨e1, g1⟩
      · subst e1; exact hK2 h1
      · rcases hK1 with g | g
        · exact e1 (hR.dis _ _ _ g1 g)
        · exact hS.notFp _ _ g g1
  · rcases hb with hb | ⟨r1, hb⟩
    · rcases hK' b hb with h | ⟨h, _⟩
      · exact Nat.lt_of_lt_of_le (hR.lt b (.inl h)) hsz
      · rcases h with h | h
        · exact Nat.lt_of_lt_of_le (hR.lt b (.inr ⟨_, h⟩)) hsz
        · exact Nat.lt_of_lt_of_le (hS.lt b h) hsz
    · rcases hfp' r1 b hb with ⟨e1, _⟩ | ⟨e1, g1⟩
      · subst e1; exact (hfp b hb).2
      · exact Nat.lt_of_lt_of_le (hR.lt b (.inr ⟨_, g1⟩)) hsz
  · by_cases h : r1 = r
    · subst h; exact hgone hg b hb
    · exact hR.gone r1 b ((hGG r1 h).1 hg) ((hu.fp r1 b h).1 hb)
  · by_cases h : r1 = r
    · subst h
      rw [setO_objs]
      rcases hlent hg with ⟨cs, rfl⟩ | ⟨t, l, ver, nver, pin, rfl⟩
      · exact .inl ⟨_, rfl⟩
      · exact .inr ⟨_, _, _, _, _, rfl⟩
    · rw [hobj r1 h]
      exact hR.lent r1 ((hGG r1 h).1 hg)

/-- The world changes, in loose blocks alone; some blocks join those that never change. -/
theorem GoodG.world {G : Nat → Prop} (h : GoodG W0 M0 G e s tm w) {S K' : Nat → Prop} (hS : Loose W0 M0 e w S) (hsz : w.heap.size ≤ w'.heap.size) (hw : ∀ b, b < w.heap.size → ¬ S b → w'.heap[b]? = w.heap[b]?)
    (hos : w'.os = w.os) (htape : w'.tape = w.tape) (hout : Oth w w') (hK : ∀ b, e.K b → K' b) (hK' : ∀ b, K' b → (e.K b ∨ S b ∨ w.heap.size ≤ b) ∧ b < w'.heap.size) :
    GoodG W0 M0 G { e with K := K' } s tm w' ∧ Keeps e s w { e with K := K' } s w' := by
  obtain ⟨hR, hF, hP⟩ := h
  have hsame : ∀ r', SameO e s w { e with K := K' } s w' r' := fun r' => ⟨rfl, rfl, rfl, fun _ => Iff.rfl, fun b hb => hw b (hR.lt b (.inr ⟨_, hb⟩)) (fun h => hS.notFp _ _ h hb)⟩
  have hl : ∀ r', G r' → LentO e s { e with K := K' } s r' := fun r' hg => ⟨rfl, rfl, rfl, hR.lent r' hg⟩
  have hk : Keeps e s w { e with K := K' } s w' := by
    refine ⟨hK, fun b hb => hw b (hR.lt b (.inl hb)) (fun h => hS.notK _ h hb), fun q rng v hq => ?_, fun q row col v hq => ?_, fun r' v hq => (hsame r').map hq⟩
    · by_cases hg : G q.r
      · exact (hl _ hg).ref hq
      · exact (hsame _).ref (fun o => hR.objs _ o hg) hq
    · by_cases hg : G q.r
      · exact (hl _ hg).ptr hq
      · exact (hsame _).ptr (fun o => hR.objs _ o hg) hq
  refine ⟨⟨⟨fun t => hk.v (hR.regs t), fun r o hg ho => (hsame r).relO hk (hR.objs r o hg ho), hR.dis, fun r b h1 h2 => ?_, fun b hb => ?_, hR.gone, hR.lent⟩, ⟨Nat.le_trans hF.size hsz, hos.trans hF.os, htape.trans hF.tape, hF.output.trans hout, fun b hb hM => ?_, hF.own, fun b hb hlt => (hK' b hb).1.elim (fun h => hF.know b h hlt) fun h => h.elim (fun h => .inr (hS.own b h hlt)) fun h => absurd hlt (Nat.not_lt.2 (Nat.le_trans hF.size h))⟩, hP.same rfl rfl⟩, hk⟩
  · rcases (hK' b h2).1 with h | h | h
    · exact hR.disK _ _ h1 h
    · exact hS.notFp _ _ h h1
    · have := hR.lt b (.inr ⟨_, h1⟩); omega
  · rcases hb with hb | ⟨r, hb⟩
    · exact (hK' b hb).2
    · exact Nat.lt_of_lt_of_le (hR.lt b (.inr ⟨r, hb⟩)) hsz
  · rw [hw b (Nat.lt_of_lt_of_le hb hF.size) (fun h => hM (hS.own _ h hb))]
    exact hF.block b hb hM
end
end Go.Sm
end

section
set_option linter.unusedSimpArgs false
set_option linter.deprecated false
set_option linter.unusedSectionVars false
set_option linter.unusedVariables false
namespace Go.Sm
variable {T : Tbl} {α : Type}
section
variable {Ok : Nat → List (A T) → Res T → Prop} {s s' : St T} {a : α} {P : Program} {e e' : Env} {w w' W0 : World} {M0 : Gh} {tm : Array Value} {G : Nat → Prop}

theorem RelG.notLent (h : RelG G e s tm w) {r t : Nat} {l : List (T.U t)} {ver nver : Nat} {pin : Bool} (ho : s.objs r = some (.arr t l ver nver .all pin)) : ¬ G r := fun hg => by
  rcases h.lent r hg with ⟨cs, hx⟩ | ⟨_, _, _, _, _, hx⟩ <;> rw [ho] at hx <;> cases hx
theorem GoodG.kill (hG : GoodG W0 M0 G e s tm w) {r : Nat} {o : Root T} (ho : s.objs r = some o) (hr : ¬ G r) : GoodG W0 M0 G (e.drop r) (s.setO r (some .dead)) tm w ∧ Keeps e s w (e.drop r) (s.setO r (some .dead)) w ∧ Loose W0 M0 (e.drop r) w (e.fp r) := by
  obtain ⟨hR, hF, hP⟩ := hG
  have hd : ∀ q : Ref, q.r = r → (s.setO r (some .dead)).objs q.r = some .dead := fun q h => by rw [h]; exact setO_objs _ _ _
  obtain ⟨h1, h2, h3⟩ := RelG.upd (e' := e.drop r) (x := .dead) hR hF Loose.none (fun _ _ => Iff.rfl) ⟨fun _ _ => rfl, fun _ _ => rfl, fun r' b h => ⟨fun x => x.2, fun x => ⟨h, x⟩⟩⟩ (fun _ h => h) (fun _ h => .inl h) (Nat.le_refl _) (fun _ _ _ _ => rfl) rfl rfl (Oth.refl _)
    (fun b h => absurd rfl h.1)
    (fun q rng v hq h => ⟨⟨_, hd q hq, fun _ _ _ _ _ _ h => by cases h⟩, h.2.1, fun t l hi => by rw [info_dead (hd q hq)] at hi; cases hi⟩)
    (fun q row col v hq h => ⟨⟨_, hd q hq, fun _ _ _ _ _ _ h => by cases h⟩, h.2.1, (fun cs hc => by rw [hd q hq] at hc; cases hc), fun t l hi => by rw [info_dead (hd q hq)] at hi; cases hi⟩)
    (fun v h => ⟨⟨_, setO_objs _ _ _⟩, h.2.1, fun kt et l hm => by rw [setO_objs] at hm; cases hm⟩) (fun hg => absurd hg hr) (fun hg => absurd hg hr)
  refine ⟨⟨h3 fun _ => trivial, h2, hP.upd (fun _ _ => rfl) (fun _ _ => rfl) ⟨fun _ _ _ _ _ h => (by cases h), fun _ _ h => (by cases h)⟩⟩, h1, fun b hb => hR.disK _ _ hb, fun r' b hb h => h.1 (hR.dis _ _ _ h.2 hb), fun b hb => hR.lt b (.inr ⟨_, hb⟩), fun b hb => hF.own _ _ hb⟩
/-- An object is put aside: it is lent. -/
theorem GoodG.lend (hG : GoodG W0 M0 G e s tm w) {r : Nat} {o x : Root T} (ho : s.objs r = some o) (hx : (∃ cs, o = .var cs ∧ x = o) ∨ (∃ t l ver nver pin, o = .arr t l ver nver .all pin ∧ x = .arr t l ver (nver + 1) (.upto 0) pin)) :
    GoodG W0 M0 (fun r' => G r' ∨ r' = r) (e.drop r) (s.setO r (some x)) tm w ∧ Keeps e s w (e.drop r) (s.setO r (some x)) w ∧ Loose W0 M0 (e.drop r) w (e.fp r) := by
  obtain ⟨hR, hF, hP⟩ := hG
  have hlive : ∀ q : Ref, q.r = r → Live s q → Live (s.setO r (some x)) q := fun q hq hl => by
    subst hq
    obtain ⟨o', h1, h2⟩ := hl
    rw [ho] at h1
    cases h1
    refine ⟨_, setO_objs _ _ _, fun t2 l2 ver2 nver2 dep2 pin2 he => ?_⟩
    rcases hx with ⟨cs, rfl, rfl⟩ | ⟨t, l, ver, nver, pin, rfl, rfl⟩
    · cases he
    · cases he
      have h2 := h2 _ _ _ _ _ _ rfl
      revert h2; cases q.p <;> (simp only; omega)
  have hinf : ∀ q : Ref, q.r = r → Live s q → ∀ t2 l2, refInfo (s.setO r (some x)) q = some ⟨t2, l2⟩ → q.p = none ∧ refInfo s q = some ⟨t2, l2⟩ := fun q hq hl t2 l2 hi => by
    subst hq
    obtain ⟨o', h1, h2⟩ := hl
    rw [ho] at h1
    cases h1
    rcases hx with ⟨cs, rfl, rfl⟩ | ⟨t, l, ver, nver, pin, rfl, rfl⟩
    · unfold refInfo at hi; rw [setO_objs] at hi; cases hi
    · have h2 := h2 _ _ _ _ _ _ rfl
      cases hp : q.p with
      | none =>
        refine ⟨rfl, ?_⟩
        unfold refInfo at hi ⊢
        rw [setO_objs] at hi
        rw [ho]
        simp only [hp] at hi ⊢
        exact hi
      | some ic =>
        unfold refInfo at hi
        rw [setO_objs] at hi
        simp only [hp] at hi h2
        rw [if_neg (by omega)] at hi
        cases hi
  obtain ⟨h1, h2, h3⟩ := RelG.upd (e' := e.drop r) (x := x) (G' := fun r' => G r' ∨ r' = r) hR hF Loose.none (fun r' h => ⟨fun x => x.resolve_right h, .inl⟩) ⟨fun _ _ => rfl, fun _ _ => rfl, fun r' b h => ⟨fun x => x.2, fun x => ⟨h, x⟩⟩⟩ (fun _ h => h) (fun _ h => .inl h) (Nat.le_refl _) (fun _ _ _ _ => rfl) rfl rfl (Oth.refl _)
    (fun b h => absurd rfl h.1)
    (fun q rng v hq h => ⟨hlive q hq h.1, h.2.1, fun t l hi => by
      obtain ⟨hp, hi⟩ := hinf q hq h.1 t l hi
      obtain ⟨A, c, k1, k2⟩ := h.2.2 t l hi
      refine ⟨A, c, ?_, k2⟩
      unfold RefAt at *
      simp only [hp] at *
      exact k1⟩)
    (fun q row col v hq h => ⟨hlive q hq h.1, h.2.1, (fun cs hc hz => by
      rw [hq, setO_objs] at hc
      rcases hx with ⟨cs', rfl, rfl⟩ | ⟨t, l, ver, nver, pin, rfl, rfl⟩
      · exact h.2.2.1 cs' (by rw [hq]; exact ho) hz
      · cases hc), fun t l hi => by
      obtain ⟨hp, hi⟩ := hinf q hq h.1 t l hi
      obtain ⟨A, c, c2, k1, k2⟩ := h.2.2.2 t l hi
      refine ⟨A, c, c2, ?_, k2⟩
      unfold RefAt at *
      simp only [hp] at *
      exact k1⟩)
    (fun v h => ⟨⟨_, setO_objs _ _ _⟩, h.2.1, fun kt et l hm => by
      rw [setO_objs] at hm
      rcases hx with ⟨cs', rfl, rfl⟩ | ⟨t, l, ver, nver, pin, rfl, rfl⟩ <;> cases hm⟩) (fun _ b hb => hb.1 rfl) (fun _ => by
      rcases hx with ⟨cs', rfl, rfl⟩ | ⟨t, l, ver, nver, pin, rfl, rfl⟩
      · exact .inl ⟨_, rfl⟩
      · exact .inr ⟨_, _, _, _, _, rfl⟩)
  refine ⟨⟨h3 fun hg => absurd (.inr rfl) hg, h2, hP.upd (fun _ _ => rfl) (fun _ _ => rfl) ⟨fun t2 l2 ver2 nver2 dep2 he => (by
    rcases hx with ⟨cs', rfl, rfl⟩ | ⟨t, l, ver, nver, pin, rfl, rfl⟩
    · cases he
    · cases he; exact hP.arr _ _ _ _ _ _ ho), fun cs2 a he hv => (by
    rcases hx with ⟨cs', rfl, rfl⟩ | ⟨t, l, ver, nver, pin, rfl, rfl⟩
    · exact hP.var _ _ _ ho hv
    · cases he)⟩⟩, h1, fun b hb => hR.disK _ _ hb, fun r' b hb h => h.1 (hR.dis _ _ _ h.2 hb), fun b hb => hR.lt b (.inr ⟨_, hb⟩), fun b hb => hF.own _ _ hb⟩
theorem Loose.or {S S' : Nat → Prop} (h : Loose W0 M0 e w S) (h' : Loose W0 M0 e w S') : Loose W0 M0 e w fun b => S b ∨ S' b :=
  ⟨fun b hb => hb.elim (h.notK b) (h'.notK b), fun r b hb => hb.elim (h.notFp r b) (h'.notFp r b), fun b hb => hb.elim (h.lt b) (h'.lt b), fun b hb => hb.elim (h.own b) (h'.own b)⟩
theorem Loose.of {S S' : Nat → Prop} (h : Loose W0 M0 e w S) (hs : ∀ b, S' b → S b) : Loose W0 M0 e w S' :=
  ⟨fun b hb => h.notK b (hs b hb), fun r b hb => h.notFp r b (hs b hb), fun b hb => h.lt b (hs b hb), fun b hb => h.own b (hs b hb)⟩
theorem Loose.drop {S : Nat → Prop} (h : Loose W0 M0 e w S) (r : Nat) : Loose W0 M0 (e.drop r) w S := ⟨h.notK, fun r' b hb x => h.notFp r' b hb x.2, h.lt, h.own⟩

/-- 'moveC' in a state some of whose objects are lent. -/
theorem moveC_okG (hG : GoodG W0 M0 G e s tm w) {S0 : Nat → Prop} (hS : Loose W0 M0 e w S0) {c : C T} {u : Value} (hc : RelC e s w c u) {k : D T.U → Bool → M T α} (h : Rn Ok (moveC c k) s a s') :
    ∃ d own s1 e1 S1, Rn Ok (k d own) s1 a s' ∧ GoodG W0 M0 G e1 s1 tm w ∧ Keeps e s w e1 s1 w ∧ Loose W0 M0 e1 w (fun b => S0 b ∨ S1 b) ∧ (∀ b, S0 b → ¬ S1 b) ∧ e1.K = e.K ∧ s1.regs = s.regs ∧ (∀ r, ¬ r ∈ rootC c → s1.objs r = s.objs r) ∧
      (∀ r b, ¬ r ∈ rootC c → e.fp r b → e1.fp r b) ∧ e1.adr = e.adr ∧ e1.cap = e.cap ∧ (own = true → OwnD T w d u S1) ∧ (own = false → RepD T w e.K d u) := by
  have hS' : Loose W0 M0 e w (fun b => S0 b ∨ False) := hS.of fun b hb => hb.resolve_right id
  unfold moveC at h
  split at h
  · exact ⟨_, false, s, e, fun _ => False, h, hG, .refl, hS', fun _ _ h => h, rfl, rfl, fun _ _ => rfl, fun _ _ _ h => h, rfl, rfl, fun h => (by cases h), fun _ => hc⟩
  · rename_i x hx
    exact ⟨_, true, s, e, fun _ => False, h, hG, .refl, hS', fun _ _ h => h, rfl, rfl, fun _ _ => rfl, fun _ _ _ h => h, rfl, rfl, fun _ => (by
      cases hc with
      | bool b => exact .bool _ _
      | int k n => exact .int _ _ _
      | str s => exact .str _ _
      | nil => exact .nil _
      | arr t l => exact absurd rfl (hx t l)), fun h => (by cases h)⟩
  · obtain ⟨A, rfl, hr⟩ := hc
    exact ⟨_, false, s, e, fun _ => False, h, hG, .refl, hS', fun _ _ h => h, rfl, rfl, fun _ _ => rfl, fun _ _ _ h => h, rfl, rfl, fun h => (by cases h), fun _ => hr⟩
  · rename_i q t0 rng ex
    have h := rn_getO h
    split at h
    · rename_i t l ver nver ho hp
      obtain ⟨h1, h⟩ := rn_cond h
      obtain ⟨l', h2, h⟩ := rn_cut h
      have h := rn_setO h
      have hng := hG.rel.notLent ho
      obtain ⟨k1, k2, k3⟩ := hG.kill ho hng
      obtain ⟨vals, F, hA⟩ := hG.rel.objs _ _ hng ho
      have hi : refInfo s q = some ⟨t, l⟩ := by unfold refInfo; simp only [ho, hp]; rw [if_pos (nbeq h1)]
      obtain ⟨A, cc, hat, hsl⟩ := hc.2.2 _ _ hi
      unfold RefAt at hat
      simp only [hp] at hat
      obtain ⟨rfl, rfl⟩ := hat
      have hown : OwnD T w (.arr t l) (.slice (e.adr q.r) l.length (e.cap q.r)) (e.fp q.r) := (OwnD.arr_iff e.K).2 ⟨_, _, vals, F, rfl, hA⟩
      refine ⟨_, true, _, e.drop q.r, e.fp q.r, h, k1, k2, (hS.drop _).or k3, fun b hb hb' => hS.notFp _ _ hb hb', rfl, rfl, fun r hr => setO_ne _ _ fun h => hr (by simp [rootC, h]), fun r b hr h => ⟨fun h => hr (by simp [rootC, h]), h⟩, rfl, rfl, fun _ => hown.cut h2 hsl, fun h => (by cases h)⟩
    · exact (rn_fail h).elim
  · exact (rn_fail h).elim
theorem moveCs_okG : ∀ {cs : List (C T)} {vs : List Value} {e : Env} {s : St T} (hG : GoodG W0 M0 G e s tm w) {S0 : Nat → Prop} (hS : Loose W0 M0 e w S0) (hc : RelCs e s w cs vs) {k : List (D T.U) → Bool → M T α} (h : Rn Ok (moveCs cs k) s a s'),
    ∃ (ds : List (D T.U)) (own : Bool) (s1 : St T) (e1 : Env) (S1 : Nat → Prop) (F : Nat → Nat → Prop), Rn Ok (k ds own) s1 a s' ∧ GoodG W0 M0 G e1 s1 tm w ∧ Keeps e s w e1 s1 w ∧ Loose W0 M0 e1 w (fun b => S0 b ∨ S1 b) ∧ (∀ b, S0 b → ¬ S1 b) ∧ e1.K = e.K ∧ s1.regs = s.regs ∧ (∀ r, ¬ r ∈ rootCs cs → s1.objs r = s.objs r) ∧
      (∀ r b, ¬ r ∈ rootCs cs → e.fp r b → e1.fp r b) ∧ e1.adr = e.adr ∧ e1.cap = e.cap ∧ Moved T w e.K ds vs own F ∧ (∀ j b, F j b → S1 b) ∧ (∀ i j b, F i b → F j b → i = j)
  | [], vs, e, s, hG, S0, hS, hc, k, h => by
    have hl := hc.1
    simp at hl
    subst hl
    exact ⟨[], true, s, e, fun _ => False, fun _ _ => False, h, hG, .refl, hS.of fun b hb => hb.resolve_right id, fun _ _ h => h, rfl, rfl, fun _ _ => rfl, fun _ _ _ h => h, rfl, rfl, ⟨rfl, fun j d v hd => by simp at hd⟩, fun _ _ h => h.elim, fun _ _ _ h => h.elim⟩
  | c :: cs, [], e, s, hG, S0, hS, hc, k, h => by have := hc.1; simp at this
  | c :: cs, v :: vs, e, s, hG, S0, hS, hc, k, h => by
    obtain ⟨h1, h2⟩ := hc.tail
    obtain ⟨d, own, s1, e1, S1, g, g1, g2, g3, g4, g5, g6, g7, g8, g8a, g8c, g9, g10⟩ := moveC_okG hG hS h1 h
    obtain ⟨ds, owns, s2, e2, S2, F, r, r1, r2, r3, r4, r5, r6, r7, r8, r8a, r8c, r9, r10, r11⟩ := moveCs_okG g1 g3 (g2.cs h2) g
    refine ⟨d :: ds, own && owns, s2, e2, fun b => S1 b ∨ S2 b, fun j b => match j with | 0 => S1 b | j + 1 => F j b, r, r1, g2.trans r2, r3.of (fun b hb => by rcases hb with h | h | h; exact .inl (.inl h); exact .inl (.inr h); exact .inr h),
      fun b hb hb' => hb'.elim (g4 b hb) (r4 b (.inl hb)), r5.trans g5, r6.trans g6, fun r hr => ?_, fun r b hr h => ?_, r8a.trans g8a, r8c.trans g8c, ⟨by have := r9.1; simp [this], fun j x u hx hu => ?_⟩, fun j b hb => ?_, fun i j b hb hb' => ?_⟩
    · simp only [rootCs, List.mem_append, not_or] at hr
      rw [r7 r hr.2, g7 r hr.1]
    · simp only [rootCs, List.mem_append, not_or] at hr
      exact r8 r b hr.2 (g8 r b hr.1 h)
    · cases j with
      | zero =>
        simp only [List.getElem?_cons_zero, Option.some.injEq] at hx hu
        subst hx; subst hu
        cases own with
        | true => exact .inl (g9 rfl)
        | false => exact .inr ⟨rfl, g10 rfl⟩
      | succ j =>
        simp only [List.getElem?_cons_succ] at hx hu
        rcases r9.2 j x u hx hu with h | ⟨h, h'⟩
        · exact .inl h
        · exact .inr ⟨by simp [h], by rw [g5] at h'; exact h'⟩
    · cases j with
      | zero => exact .inl hb
      | succ j => exact .inr (r10 j b hb)
    · cases i with
      | zero =>
        cases j with
        | zero => rfl
        | succ j => exact absurd (r10 j b hb') (r4 b (.inr hb))
      | succ i =>
        cases j with
        | zero => exact absurd (r10 i b hb) (r4 b (.inr hb'))
        | succ j => rw [r11 i j b hb hb']
theorem Moved.toOwn {K : Nat → Prop} {ds : List (D T.U)} {vs : List Value} {F : Nat → Nat → Prop} {S : Nat → Prop} (h : Moved T w K ds vs true F) (hF : ∀ j b, F j b → S b) (hd : ∀ i j b, F i b → F j b → i = j) : OwnDs T w ds vs S :=
  ⟨h.1, F, fun j d v h1 h2 => h.own h1 h2, hF, hd⟩

/-! ### What is only read -/
/-- Blocks that never change, and those of some objects. -/
def Env.RO (e : Env) (ro : List Nat) : Nat → Prop := fun b => e.K b ∨ ∃ r, r ∈ ro ∧ e.fp r b
theorem ref_repG (hR : RelG G e s tm w) {q : Ref} (hq : ¬ G q.r) {rng : Option (Nat × Nat)} {v : Value} (hr : RelRef e s w q rng v) {t : Nat} {l : List (T.U t)} (hi : refInfo s q = some ⟨t, l⟩)
    (hd : (q.p = none → ∃ ver nver dep pin, s.objs q.r = some (.arr t l ver nver dep pin) ∧ depView dep = true) ∧ NoHole s q) :
    ∃ A c, RepD T w (e.RO [q.r]) (.arr t l) (.slice A l.length c) ∧ SlOf A c l.length (T.size t) rng v := by
  obtain ⟨A, c, hat, hsl⟩ := hr.2.2 t l hi
  refine ⟨A, c, ?_, hsl⟩
  unfold RefAt at hat
  cases hp : q.p with
  | none =>
    simp only [hp] at hat
    obtain ⟨rfl, rfl⟩ := hat
    obtain ⟨ver, nver, dep, pin, ho, hv⟩ := hd.1 hp
    obtain ⟨vals, F, hA⟩ := hR.objs _ _ hq ho
    exact (hA.rep hv).mono (fun b hb => hb.imp id fun x => ⟨_, by simp, x⟩) fun _ _ => rfl
  | some ic =>
    obtain ⟨i, col⟩ := ic
    simp only [hp] at hat
    obtain ⟨t3, l3, ver3, nver3, dep3, pin3, b3, off3, n3, k1, k2, k3, k4⟩ := hat
    obtain ⟨_, hi0, hn⟩ := info_nonempty hp k1 hi
    obtain ⟨vals, F, hA⟩ := hR.objs _ _ hq k1
    have hsub := hA.hsub i col _ hi0 hn
    have hcell := hA.vals_at k3 hi0 hn
    rw [k4] at hcell
    have hown : OwnD T w (.arr t l) (vals i col) (F i col) := by
      cases dep3 with
      | all => exact hsub
      | upto m => exact hsub.elim (fun x => x.2) fun x => by have : i < m := k2; omega
      | hole m => exact hsub.elim (fun x => absurd x.1 (hd.2 _ _ hp _ _ _ _ _ _ k1)) id
    have hrep := hown.rep
    simp only [Option.some.injEq] at hcell
    rw [← hcell] at hrep
    have hn3 : n3 = l.length := by
      obtain ⟨A', c', vals', F', he, hA'⟩ := (OwnD.arr_iff e.K).1 hown
      rw [he] at hcell
      simp only [Value.slice.injEq] at hcell
      exact hcell.2.1
    subst hn3
    exact hrep.mono (fun b hb => .inr ⟨_, by simp, (hA.hF i col b hb).1⟩) fun _ _ => rfl
theorem viewC_okG {c : C T} {u : Value} (hc : RelC e s w c u) {k : D T.U → M T α} (h : Rn Ok (viewC c k) s a s') :
    ∃ d, Rn Ok (k d) s a s' ∧ ∀ {G : Nat → Prop}, RelG G e s tm w → (∀ r, r ∈ rootC c → ¬ G r) → RepD T w (e.RO (rootC c)) d u := by
  unfold viewC at h
  split at h
  · exact ⟨_, h, fun _ _ => hc.mono (fun b hb => .inl hb) fun _ _ => rfl⟩
  · obtain ⟨A, rfl, hr⟩ := hc
    exact ⟨_, h, fun _ _ => hr.mono (fun b hb => .inl hb) fun _ _ => rfl⟩
  · rename_i q t0 rng ex
    obtain ⟨t', l, h1, h2, h⟩ := rn_refView h
    obtain ⟨l', h3, h⟩ := rn_cut h
    refine ⟨_, h, fun hR hq => ?_⟩
    obtain ⟨A, c, h4, h5⟩ := ref_repG hR (hq q.r (by simp [rootC])) hc h1 h2
    exact h4.cut h3 h5
  · exact (rn_fail h).elim
theorem viewCs_okG : ∀ {cs : List (C T)} {vs : List Value} (hc : RelCs e s w cs vs) {k : List (D T.U) → M T α} (h : Rn Ok (viewCs cs k) s a s'),
    ∃ ds, Rn Ok (k ds) s a s' ∧ ∀ {G : Nat → Prop}, RelG G e s tm w → (∀ r, r ∈ rootCs cs → ¬ G r) → RepDs T w (e.RO (rootCs cs)) ds vs
  | [], vs, hc, k, h => ⟨[], h, fun _ _ => by have := hc.1; exact ⟨by simpa using this, fun j d v hd => by simp at hd⟩⟩
  | c :: cs, [], hc, k, h => by have := hc.1; simp at this
  | c :: cs, v :: vs, hc, k, h => by
    obtain ⟨h1, h2⟩ := hc.tail
    obtain ⟨d, h, h3⟩ := viewC_okG (tm := tm) h1 h
    obtain ⟨ds, h, h4⟩ := viewCs_okG h2 h
    refine ⟨_, h, fun hR hq => ?_⟩
    have k3 := h3 hR fun r hr => hq r (by simp [rootCs, hr])
    have k4 := h4 hR fun r hr => hq r (by simp [rootCs, hr])
    refine RepDs.cons (k3.mono (fun b hb => hb.imp id fun ⟨r, hr, x⟩ => ⟨r, by simp [rootCs, hr], x⟩) fun _ _ => rfl) ⟨k4.1, fun j d v hd hv => (k4.2 j d v hd hv).mono (fun b hb => hb.imp id fun ⟨r, hr, x⟩ => ⟨r, by simp [rootCs, hr], x⟩) fun _ _ => rfl⟩
end
end Go.Sm
end

section
set_option linter.unusedSimpArgs false
set_option linter.deprecated false
set_option linter.unusedSectionVars false
set_option linter.unusedVariables false
namespace Go.Sm
variable {T : Tbl} {α : Type}
theorem memb_iff {r : Nat} {l : List Nat} : memb r l = true ↔ r ∈ l := by
  unfold memb
  rw [List.any_eq_true]
  exact ⟨fun ⟨x, h, e⟩ => by rw [Nat.eq_of_beq_eq_true e]; exact h, fun h => ⟨r, h, beq_self r⟩⟩
theorem memb_not {r : Nat} {l : List Nat} (h : (!memb r l) = true) : ¬ r ∈ l := fun x => by rw [memb_iff.2 x] at h; cases h
theorem apartL_iff {a b : List Nat} (h : apartL a b = true) : ∀ r ∈ a, ¬ r ∈ b := by
  unfold apartL at h
  rw [List.all_eq_true] at h
  exact fun r hr => memb_not (h r hr)
theorem Env.RO_mono {e e1 : Env} {ro ro' : List Nat} (hK : ∀ b, e.K b → e1.K b) (hf : ∀ r b, r ∈ ro → e.fp r b → e1.fp r b) (hr : ∀ r, r ∈ ro → r ∈ ro') : ∀ b, e.RO ro b → e1.RO ro' b :=
  fun b hb => hb.imp (hK b) fun ⟨r, h1, h2⟩ => ⟨r, hr r h1, hf r b h1 h2⟩
theorem RepDs.mono {w : World} {K K' : Nat → Prop} {ds : List (D T.U)} {vs : List Value} (hK : ∀ b, K b → K' b) (h : RepDs T w K ds vs) : RepDs T w K' ds vs := ⟨h.1, fun j d v hd hv => (h.2 j d v hd hv).mono hK fun _ _ => rfl⟩
theorem PtrRo.mono {w : World} {K K' : Nat → Prop} {t : Nat} {x : T.U t} {v : Value} (hK : ∀ b, K b → K' b) (h : PtrRo T w K t x v) : PtrRo T w K' t x v := by
  obtain ⟨b, off, vals, e1, e2⟩ := h
  exact ⟨b, off, vals, e1, fun j d hj => by obtain ⟨h1, h2, h3⟩ := e2 j d hj; exact ⟨hK b h1, h2, h3.mono hK fun _ _ => rfl⟩⟩
theorem CapRo.mono {w : World} {K K' : Nat → Prop} {a : A T} {v : Value} (hK : ∀ b, K b → K' b) (h : CapRo T w K a v) : CapRo T w K' a v := by
  unfold CapRo at *
  split at h
  · exact RepDs.mono hK h
  · exact PtrRo.mono hK h
  · exact h.elim
theorem ArgRo.mono {w : World} {K K' : Nat → Prop} {a : A T} {v : Value} (hK : ∀ b, K b → K' b) (h : ArgRo T w K a v) : ArgRo T w K' a v := by
  unfold ArgRo at *
  split at h
  · obtain ⟨vs, e1, e2⟩ := h; exact ⟨vs, e1, RepDs.mono hK e2⟩
  · exact RepDs.mono hK h
  · exact PtrRo.mono hK h
  · exact h
  · obtain ⟨vs, e1, e2, e3⟩ := h; exact ⟨vs, e1, e2, fun j c u h1 h2 => (e3 j c u h1 h2).mono hK⟩
theorem ArgRw.mono {w : World} {K K' : Nat → Prop} {m : Mode} {a : A T} {v : Value} {S : Nat → Prop} (hK : ∀ b, K b → K' b) (h : ArgRw T w K m a v S) : ArgRw T w K' m a v S := by
  unfold ArgRw at *
  split at h
  · exact h
  · exact h
  · exact h
  · exact h
  · exact h
  · obtain ⟨b, arr, el, h1, h2, h3, h4⟩ := h; exact ⟨b, arr, el, h1, h2, h3, RepDs.mono hK h4⟩
  · exact h.elim
theorem ArgsOk.mono {w : World} {K K' : Nat → Prop} {ms : List Mode} {as : List (A T)} {vs : List Value} {S : Nat → Prop} (hK : ∀ b, K b → K' b) (h : ArgsOk T w K ms as vs S) : ArgsOk T w K' ms as vs S := by
  induction h with
  | nil => exact .nil
  | ro h1 _ ih => exact .ro (h1.mono hK) ih
  | rw h1 _ h3 ih => exact .rw (h1.mono hK) ih h3

section
variable {Ok : Nat → List (A T) → Res T → Prop} {s s' : St T} {a : α} {P : Program} {e e' : Env} {w w' W0 : World} {M0 : Gh} {tm : Array Value} {G : Nat → Prop}

theorem ptrView_ok (hT : TblOk P T) {el : Nat} {c : C T} {u : Value} (hc : RelC e s w c u) {k : T.U el → List Nat → M T α} (h : Rn Ok (ptrView el c k) s a s') :
    ∃ x ro, Rn Ok (k x ro) s a s' ∧ ∀ {G : Nat → Prop}, RelG G e s tm w → (∀ r, r ∈ ro → ¬ G r) → PtrRo T w (e.RO ro) el x u := by
  unfold ptrView at h
  split at h
  · rename_i t x col
    have hX := rn_cond h
    clear h
    obtain ⟨h0, h⟩ := hX
    have h0 := nbeq h0
    subst h0
    have hX := rn_withU h
    clear h
    obtain ⟨rfl, h⟩ := hX
    refine ⟨_, _, h, fun _ _ => ?_⟩
    obtain ⟨b, off, vals, rfl, h2⟩ := hc
    exact ⟨b, off, vals, rfl, fun j d hj => by obtain ⟨k1, k2, k3⟩ := h2 j d hj; exact ⟨.inl k1, k2, k3.mono (fun b hb => .inl hb) fun _ _ => rfl⟩⟩
  · rename_i q row col
    replace h := rn_getO h
    split at h
    · rename_i cs ho
      have hX := rn_cond h
      clear h
      obtain ⟨h0, h⟩ := hX
      simp only [Bool.and_eq_true] at h0
      have hr0 := nbeq h0.1
      have hfit := nble h0.2
      obtain ⟨b, hb, rfl⟩ := hc.2.2.1 cs ho hr0
      have hrel : ∀ {G : Nat → Prop}, RelG G e s tm w → ¬ G q.r → ∃ arr el', w.heap[b]? = some (.cells arr el' (0, 0)) ∧ e.fp q.r b ∧ RelCs e s w cs arr.toList := fun hR hg => by
        obtain ⟨b', arr, el', g1, g2, g3, g4⟩ := hR.objs _ _ hg ho
        rw [hb] at g1
        simp only [Option.some.injEq, Addr.mk.injEq] at g1
        obtain ⟨rfl, _⟩ := g1
        exact ⟨arr, el', g3, g2, g4⟩
      -- the values come with the relation
      by_cases hex : ∃ arr el', w.heap[b]? = some (.cells arr el' (0, 0)) ∧ RelCs e s w cs arr.toList
      · obtain ⟨arr, el', g3, g4⟩ := hex
        have hal := g4.1
        have hct : RelCs e s w (takeAt cs col (T.size el)) (takeAt arr.toList col (T.size el)) := by
          refine ⟨by rw [takeAt_length, takeAt_length, hal], fun j c u h1 h2 => ?_⟩
          have hj : j < T.size el := by have := (List.getElem?_eq_some_iff.1 h1).1; rw [takeAt_length] at this; omega
          rw [takeAt_get _ _ _ _ hj] at h1 h2
          exact g4.2 _ _ _ h1 h2
        have hX := viewCs_okG (tm := tm) hct h
        clear h
        obtain ⟨ds, h, h1⟩ := hX
        split at h
        · rename_i x hx
          have hdx := hT.get _ _ _ hx
          refine ⟨_, _, h, fun hR hg => ?_⟩
          have h2 := (h1 hR fun r hr => hg r (by simp [hr])).fix el
          rw [← hdx] at h2
          obtain ⟨arr', el2, g5, g6, g7⟩ := hrel hR (hg q.r (by simp))
          refine ⟨b, col, fun j => (takeAt arr.toList col (T.size el)).getD j (.tuple #[]), rfl, fun j d hj => ?_⟩
          have hjl : j < (takeAt arr.toList col (T.size el)).length := by rw [h2.1]; exact (List.getElem?_eq_some_iff.1 hj).1
          have hv : (takeAt arr.toList col (T.size el))[j]? = some ((takeAt arr.toList col (T.size el)).getD j (.tuple #[])) := by rw [List.getD_eq_getElem?_getD, List.getElem?_eq_getElem hjl]; rfl
          have hjs : j < T.size el := by rw [takeAt_length] at hjl; omega
          refine ⟨.inr ⟨q.r, by simp, g6⟩, ?_, (h2.2 j d _ hj hv).mono (fun b hb => hb.imp id fun ⟨r, hr, x⟩ => ⟨r, by simp [hr], x⟩) fun _ _ => rfl⟩
          rw [takeAt_get _ _ _ _ hjs] at hv
          simp only [World.cell?, g3]
          simpa using hv
        · exact (rn_fail h).elim
      · -- no state of the kind that is asked for: nothing to show, but the run goes on all the same
        have hrun : ∀ {cs : List (C T)} {k : List (D T.U) → M T α}, Rn Ok (viewCs cs k) s a s' → ∃ ds, Rn Ok (k ds) s a s' := by
          intro cs
          induction cs with
          | nil => intro k h; exact ⟨_, h⟩
          | cons c cs ih =>
            intro k h
            have hv : ∀ {k : D T.U → M T α}, Rn Ok (viewC c k) s a s' → ∃ d, Rn Ok (k d) s a s' := by
              intro k h
              unfold viewC at h
              split at h
              · exact ⟨_, h⟩
              · exact ⟨_, h⟩
              · obtain ⟨t', l, h1, h2, h⟩ := rn_refView h
                obtain ⟨l', h3, h⟩ := rn_cut h
                exact ⟨_, h⟩
              · exact (rn_fail h).elim
            obtain ⟨d, h⟩ := hv h
            obtain ⟨ds, h⟩ := ih h
            exact ⟨_, h⟩
        obtain ⟨ds, h⟩ := hrun h
        split at h
        · rename_i x hx
          refine ⟨_, _, h, fun hR hg => ?_⟩
          obtain ⟨arr', el2, g5, g6, g7⟩ := hrel hR (hg q.r (by simp))
          exact absurd ⟨arr', el2, g5, g7⟩ hex
        · exact (rn_fail h).elim
    · rename_i t l ver nver dep pin ho hp
      have hX := rn_cond h
      clear h
      obtain ⟨h0, h⟩ := hX
      simp only [Bool.and_eq_true] at h0
      have hver := nbeq h0.1
      have hc0 := nbeq h0.2
      subst hc0
      have hX := rn_must h
      clear h
      obtain ⟨hrow, h⟩ := hX
      have hX := rn_cond h
      clear h
      obtain ⟨hf, h⟩ := hX
      have hX := rn_withU h
      clear h
      obtain ⟨rfl, h⟩ := hX
      refine ⟨_, _, h, fun hR hg => ?_⟩
      have hi : refInfo s q = some ⟨t, l⟩ := by unfold refInfo; simp only [ho, hp]; rw [if_pos hver]
      obtain ⟨b, off, c, hat, rfl⟩ := hc.2.2.2 _ _ hi
      unfold RefAt at hat
      simp only [hp] at hat
      obtain ⟨had, rfl⟩ := hat
      obtain ⟨vals, F, hA⟩ := hR.objs _ _ (hg q.r (by simp)) ho
      obtain ⟨b', off', cs, el', e1, e2, e3, e4⟩ := hA.hblk (Nat.lt_of_lt_of_le (Nat.lt_of_le_of_lt (Nat.zero_le _) hrow) hA.hc)
      rw [← had] at e1
      simp only [Option.some.injEq, Addr.mk.injEq] at e1
      obtain ⟨rfl, rfl, _⟩ := e1
      refine ⟨b, off + row * T.size t, vals row, by simp, fun j d hj => ?_⟩
      have hj' : (Go.Sm.row T t l row)[j]? = some d := hj
      obtain ⟨b2, off2, k1, k2⟩ := hA.hcell row j d hrow hj'
      rw [← had] at k1
      simp only [Option.some.injEq, Addr.mk.injEq] at k1
      obtain ⟨rfl, rfl, _⟩ := k1
      exact ⟨.inr ⟨q.r, by simp, e2⟩, k2, (hA.hsub row j d hrow hj').flat (flat_row hT hf hj)⟩
    · exact (rn_fail h).elim
  · exact (rn_fail h).elim
theorem roC_ok (hT : TblOk P T) {ty : Nat} {c : C T} {u : Value} (hc : RelC e s w c u) {k : A T → List Nat → M T α} (h : Rn Ok (roC ty c k) s a s') :
    ∃ x ro, Rn Ok (k x ro) s a s' ∧ (c ≠ .nptr → (∃ ds, x = .val false ds) ∨ ∃ t y, x = .ptr t y) ∧ ∀ {G : Nat → Prop}, RelG G e s tm w → (∀ r, r ∈ ro → ¬ G r) → ArgRo T w (e.RO ro) x u := by
  unfold roC at h
  split at h
  · rename_i el hty
    split at h
    · exact ⟨_, _, h, fun hn => absurd rfl hn, fun _ _ => hc⟩
    · obtain ⟨x, ro, h, h1⟩ := ptrView_ok (tm := tm) hT hc h
      exact ⟨_, _, h, fun _ => .inr ⟨_, _, rfl⟩, fun hR hg => h1 hR hg⟩
  · obtain ⟨d, h, h1⟩ := viewC_okG (tm := tm) hc h
    exact ⟨_, _, h, fun _ => .inl ⟨_, rfl⟩, fun hR hg => (RepDs.cons (h1 hR hg) ⟨rfl, fun j d v hd => by simp at hd⟩).fix ty⟩
theorem capsM_ok (hT : TblOk P T) : ∀ {ts : List Nat} {cs : List (C T)} {us : List Value} (hl : us.length = cs.length) (hc : ∀ (j : Nat) (c : C T) (u : Value), cs[j]? = some c → us[j]? = some u → RelC e s w c u) {k : List (A T) → List Nat → M T α} (h : Rn Ok (capsM ts cs k) s a s'),
    ∃ as ro, Rn Ok (k as ro) s a s' ∧ ∀ {G : Nat → Prop}, RelG G e s tm w → (∀ r, r ∈ ro → ¬ G r) → us.length = as.length ∧ ∀ (j : Nat) (c : A T) (u : Value), as[j]? = some c → us[j]? = some u → CapRo T w (e.RO ro) c u
  | [], [], us, hl, hc, k, h => ⟨[], [], h, fun _ _ => ⟨hl, fun j c u hj => by simp at hj⟩⟩
  | [], c :: cs, us, hl, hc, k, h => (rn_fail h).elim
  | t :: ts, [], us, hl, hc, k, h => (rn_fail h).elim
  | t :: ts, c :: cs, [], hl, hc, k, h => by simp at hl
  | t :: ts, c :: cs, u :: us, hl, hc, k, h => by
    have h1 : c ≠ .nptr ∧ Rn Ok (roC t c fun a ro => capsM ts cs fun as ro' => k (a :: as) (ro ++ ro')) s a s' := by
      unfold capsM at h
      split at h
      · exact (rn_fail h).elim
      · rename_i hne
        exact ⟨fun h => hne h, h⟩
    obtain ⟨x, ro, h2, h3, h4⟩ := roC_ok (tm := tm) hT (hc 0 c u rfl rfl) h1.2
    obtain ⟨as, ro', h5, h6⟩ := capsM_ok hT (by simpa using hl) (fun j c u h h' => hc (j + 1) c u (by simpa using h) (by simpa using h')) h2
    refine ⟨_, _, h5, fun hR hg => ?_⟩
    have g1 := h4 hR fun r hr => hg r (by simp [hr])
    obtain ⟨g2, g3⟩ := h6 hR fun r hr => hg r (by simp [hr])
    have m1 : ∀ b, e.RO ro b → e.RO (ro ++ ro') b := Env.RO_mono (fun _ h => h) (fun _ _ _ h => h) fun r hr => by simp [hr]
    have m2 : ∀ b, e.RO ro' b → e.RO (ro ++ ro') b := Env.RO_mono (fun _ h => h) (fun _ _ _ h => h) fun r hr => by simp [hr]
    refine ⟨by simp [g2], fun j c' u' hj hu => ?_⟩
    cases j with
    | zero =>
      simp at hj hu
      subst hj; subst hu
      rcases h3 h1.1 with ⟨ds, rfl⟩ | ⟨t', y, rfl⟩
      · exact RepDs.mono m1 g1
      · exact PtrRo.mono m1 g1
    | succ j => exact (g3 j c' u' (by simpa using hj) (by simpa using hu)).mono m2

theorem RelCs.cons {c : C T} {cs : List (C T)} {v : Value} {vs : List Value} (h : RelC e s w c v) (k : RelCs e s w cs vs) : RelCs e s w (c :: cs) (v :: vs) :=
  ⟨by simp [k.1], fun j x u hx hu => by
    cases j with
    | zero => simp at hx hu; subst hx; subst hu; exact h
    | succ j => exact k.2 j x u (by simpa using hx) (by simpa using hu)⟩
/-! ### What is lent -/
def LentCs : List (C T) → List (D T.U) → Prop
  | [], [] => True
  | .own _ _ none _ :: cs, .arr _ _ :: ds => LentCs cs ds
  | .d .nil :: cs, .arr _ _ :: ds => LentCs cs ds
  | .d d :: cs, d' :: ds => d = d' ∧ d.isArr = false ∧ LentCs cs ds
  | _, _ => False
/-- What a row leads to is lent. -/
theorem GoodG.hole (hG : GoodG W0 M0 G e s tm w) {r t i col : Nat} {l : List (T.U t)} {ver nver : Nat} {pin : Bool} (ho : s.objs r = some (.arr t l ver nver .all pin)) (hi : i < l.length) {d : D T.U} (hd : (row T t l i)[col]? = some d)
    {b0 off0 : Nat} (had : e.adr r = some ⟨b0, off0, none⟩) {v : Value} (hv : w.cell? ⟨b0, off0 + i * T.size t + col, none⟩ = some v) :
    ∃ e1 S, GoodG W0 M0 G e1 (s.setO r (some (.arr t l ver nver (.hole i) pin))) tm w ∧ Keeps e s w e1 (s.setO r (some (.arr t l ver nver (.hole i) pin))) w ∧ e1.K = e.K ∧ Loose W0 M0 e1 w S ∧ OwnD T w d v S ∧
      (∀ b, S b → e.fp r b) ∧ (∀ r' b, e1.fp r' b → e.fp r' b) ∧ (∀ r' b, r' ≠ r → e.fp r' b → e1.fp r' b) := by
  have hng := hG.rel.notLent ho
  obtain ⟨vals, F, hA⟩ := hG.rel.objs _ _ hng ho
  have hvv : v = vals i col := by
    have := hA.vals_at had hi hd
    rw [hv] at this
    exact Option.some.inj this
  have hown : OwnD T w d v (F i col) := by rw [hvv]; exact hA.hsub i col d hi hd
  let e1 : Env := { e with fp := fun r' b => e.fp r' b ∧ ¬ (r' = r ∧ F i col b) }
  have hrefI : ∀ q : Ref, q.r = r → refInfo (s.setO r (some (.arr t l ver nver (.hole i) pin))) q = refInfo s q := fun q hq => by
    subst hq
    unfold refInfo
    rw [setO_objs, ho]
  have hat : ∀ q : Ref, q.r = r → ∀ A c, RefAt e s w q A c → RefAt e1 (s.setO r (some (.arr t l ver nver (.hole i) pin))) w q A c := fun q hq A c h => by
    subst hq
    unfold RefAt at *
    cases hp : q.p with
    | none => simp only [hp] at *; exact h
    | some ic =>
      simp only [hp] at *
      obtain ⟨t1, l1, ver1, nver1, dep1, pin1, b, off, n, h1, h2, h3, h4⟩ := h
      rw [ho] at h1
      cases h1
      exact ⟨_, _, _, _, _, _, b, off, n, setO_objs _ _ _, trivial, h3, h4⟩
  have hlive : ∀ q : Ref, q.r = r → Live s q → Live (s.setO r (some (.arr t l ver nver (.hole i) pin))) q := fun q hq hl => by
    subst hq
    obtain ⟨o, h1, h2⟩ := hl
    have h2 := h2 _ _ _ _ _ _ (Option.some.inj (h1.symm.trans ho))
    exact ⟨_, setO_objs _ _ _, fun _ _ _ _ _ _ hx => by cases hx; exact h2⟩
  obtain ⟨k1, k2, k3⟩ := RelG.upd (e' := e1) (w' := w) (x := .arr t l ver nver (.hole i) pin) hG.rel hG.fr Loose.none (r := r) (fun _ _ => Iff.rfl) ⟨fun _ _ => rfl, fun _ _ => rfl, fun r' b h => ⟨fun x => x.1, fun x => ⟨x, fun y => h y.1⟩⟩⟩ (fun _ h => h) (fun _ h => .inl h) (Nat.le_refl _) (fun _ _ _ _ => rfl) rfl rfl (Oth.refl _)
    (fun b hb => ⟨.inl hb.1, hG.rel.lt b (.inr ⟨_, hb.1⟩)⟩)
    (fun q rng v hq h => by
      refine ⟨hlive q hq h.1, h.2.1, fun t' l' hi' => ?_⟩
      rw [hrefI q hq] at hi'
      obtain ⟨A, c, h1, h2⟩ := h.2.2 t' l' hi'
      exact ⟨A, c, hat q hq A c h1, h2⟩)
    (fun q row col v hq h => by
      refine ⟨hlive q hq h.1, h.2.1, (fun cs hc => by rw [hq, setO_objs] at hc; cases hc), fun t' l' hi' => ?_⟩
      rw [hrefI q hq] at hi'
      obtain ⟨A, c, c2, h1, h2⟩ := h.2.2.2 t' l' hi'
      exact ⟨A, c, c2, hat q hq _ _ h1, h2⟩)
    (fun v h => relMap_arr (t := t) (l := l) (ver := ver) (nver := nver) (dep := .all) (pin := pin) h) (fun hg => absurd hg hng) (fun hg => absurd hg hng)
  refine ⟨e1, F i col, ⟨k3 fun _ => ⟨vals, fun i' j' b => ¬ (i' = i ∧ j' = col) ∧ F i' j' b, ?_⟩, k2, hG.pin.upd (fun _ _ => rfl) (fun _ _ => rfl) ⟨fun _ _ _ _ _ h => (by cases h; exact hG.pin.arr _ _ _ _ _ _ ho), fun _ _ h => (by cases h)⟩⟩, k1, rfl, ⟨fun b hb => hG.rel.disK _ _ (hA.hF _ _ _ hb).1, fun r' b hb h => ?_, fun b hb => hG.rel.lt b (.inr ⟨_, (hA.hF _ _ _ hb).1⟩), fun b hb => hG.fr.own _ _ (hA.hF _ _ _ hb).1⟩, hown,
    fun b hb => (hA.hF _ _ _ hb).1, fun r' b h => h.1, fun r' b hr h => ⟨h, fun x => hr x.1⟩⟩
  · refine ⟨hA.hc, hA.hA, fun hp => ?_, hA.hcell, fun i' j' d' hi' hd' => ?_, fun i' j' b hb => ?_, fun i' j' i2 j2 b h1 h2 => hA.hdis _ _ _ _ _ h1.2 h2.2⟩
    · obtain ⟨b, off, cs, el, e1, e2, e3, e4⟩ := hA.hblk hp
      exact ⟨b, off, cs, el, e1, ⟨e2, fun ⟨_, hF⟩ => (hA.hF _ _ _ hF).2 _ _ e1 rfl⟩, e3, e4⟩
    · have h1 : OwnD T w d' (vals i' j') (F i' j') := hA.hsub i' j' d' hi' hd'
      by_cases h : i' = i
      · cases hd2 : d'.isArr with
        | true => exact .inl ⟨h, hd2, h1.header hd2⟩
        | false => exact .inr (flat_own h1.rep hd2)
      · exact .inr (OwnD.wider h1 fun b hb => ⟨fun x => h x.1, hb⟩)
    · exact ⟨⟨(hA.hF _ _ _ hb.2).1, fun ⟨_, hF⟩ => hb.1 (hA.hdis _ _ _ _ _ hb.2 hF)⟩, (hA.hF _ _ _ hb.2).2⟩
  · have hr' := hG.rel.dis _ _ _ h.1 (hA.hF _ _ _ hb).1
    exact h.2 ⟨hr', hb⟩
theorem lendC_ok (hG : GoodG W0 M0 G e s tm w) {S0 : Nat → Prop} (hS : Loose W0 M0 e w S0) {p : D T.U} {c : C T} {u : Value} (hc : RelC e s w c u) {rw : List Nat} {k : D T.U → List Nat → M T α} (h : Rn Ok (lendC p c rw k) s a s') :
    ∃ d rw' s1 e1 G1 S1, Rn Ok (k d rw') s1 a s' ∧ GoodG W0 M0 G1 e1 s1 tm w ∧ Keeps e s w e1 s1 w ∧ Loose W0 M0 e1 w (fun b => S0 b ∨ S1 b) ∧ (∀ b, S0 b → ¬ S1 b) ∧ e1.K = e.K ∧ s1.regs = s.regs ∧ (∀ r, G1 r → G r ∨ r ∈ rootC c) ∧ (∀ r, G1 r → G r ∨ r ∈ rw') ∧ (∀ r, r ∈ rw → r ∈ rw') ∧
      (∀ r b, ¬ r ∈ rw' → e.fp r b → e1.fp r b) ∧ OwnD T w d u S1 ∧ (∀ cs ds, LentCs cs ds → LentCs (c :: cs) (d :: ds)) := by
  have hS' : Loose W0 M0 e w (fun b => S0 b ∨ False) := hS.of fun b hb => hb.resolve_right id
  unfold lendC at h
  split at h
  · split at h
    · exact ⟨_, rw, s, e, G, fun _ => False, h, hG, .refl, hS', fun _ _ h => h, rfl, rfl, fun r h => .inl h, fun r h => .inl h, fun _ h => h, fun _ _ _ h => h, (by cases hc; exact OwnD.ofNil (.nil _) _), fun cs ds h => h⟩
    · exact (rn_fail h).elim
  · rename_i q t0 ex
    replace h := rn_getO h
    split at h
    · rename_i t l ver nver pin ho hp
      obtain ⟨h0, h⟩ := rn_cond h
      simp only [Bool.and_eq_true] at h0
      have hver := nbeq h0.1
      replace h := rn_setO h
      have hng := hG.rel.notLent ho
      obtain ⟨vals, F, hA⟩ := hG.rel.objs _ _ hng ho
      obtain ⟨k1, k2, k3⟩ := hG.lend ho (.inr ⟨t, l, ver, nver, pin, rfl, rfl⟩)
      have hi : refInfo s q = some ⟨t, l⟩ := by unfold refInfo; simp only [ho, hp]; rw [if_pos hver]
      obtain ⟨A, cc, hat, hsl⟩ := hc.2.2 _ _ hi
      unfold RefAt at hat
      simp only [hp] at hat
      obtain ⟨rfl, rfl⟩ := hat
      have hown : OwnD T w (.arr t l) (.slice (e.adr q.r) l.length (e.cap q.r)) (e.fp q.r) := (OwnD.arr_iff e.K).2 ⟨_, _, vals, F, rfl, hA⟩
      have hu : u = .slice (e.adr q.r) l.length (e.cap q.r) := hsl
      refine ⟨_, _, _, _, _, e.fp q.r, h, k1, k2, (hS.drop _).or k3, fun b hb hb' => hS.notFp _ _ hb hb', rfl, rfl, fun r hr => hr.imp id fun h => by simp [rootC, h], fun r hr => hr.imp id fun h => by simp [h], fun r hr => by simp [hr], fun r b hr h => ⟨fun h => hr (by simp [h]), h⟩, by rw [hu]; exact hown, fun cs ds h => h⟩
    · rename_i t l ver nver pin i c ho hp
      obtain ⟨h0, h⟩ := rn_cond h
      simp only [Bool.and_eq_true] at h0
      have hver := nbeq h0.1.1
      obtain ⟨hi, h⟩ := rn_must h
      split at h
      · rename_i t2 l2 hd
        replace h := rn_setO h
        have hinf : refInfo s q = some ⟨t2, l2⟩ := by
          unfold refInfo
          simp only [ho, hp]
          rw [if_pos hver, if_pos hi]
          change (match (Go.Sm.row T t l i)[c]? with | some (.arr t' l') => some (⟨t', l'⟩ : (t : Nat) × List (T.U t)) | _ => none) = _
          rw [show (Go.Sm.row T t l i)[c]? = some (.arr t2 l2) from hd]
        obtain ⟨A, cc, hat, hsl⟩ := hc.2.2 _ _ hinf
        unfold RefAt at hat
        simp only [hp] at hat
        obtain ⟨t3, l3, ver3, nver3, dep3, pin3, b, off, n3, k1, k2, k3, k4⟩ := hat
        rw [ho] at k1
        cases k1
        obtain ⟨e1, S1, q1, q2, q3, q4, q5, q6, q7, q8⟩ := hG.hole ho hi (d := .arr t2 l2) hd k3 k4
        have hu : u = .slice A l2.length cc := hsl
        have hn : n3 = l2.length := by
          obtain ⟨A', c', _, _, he, _⟩ := (OwnD.arr_iff e.K).1 q5
          simp only [Value.slice.injEq] at he
          exact he.2.1
        refine ⟨_, _, _, e1, G, S1, h, q1, q2, ?_, fun b hb hb' => hS.notFp _ _ hb (q6 b hb'), q3, rfl, fun r hr => .inl hr, fun r hr => .inl hr, fun r hr => by simp [hr], fun r b hr h => q8 r b (fun x => hr (by simp [x])) h, by rw [hu, ← hn]; exact q5, fun cs ds h => h⟩
        exact (⟨fun b hb => by rw [q3]; exact hS.notK b hb, fun r b hb h => hS.notFp r b hb (q7 r b h), hS.lt, hS.own⟩ : Loose W0 M0 e1 w S0).or q4
      · exact (rn_fail h).elim
    · exact (rn_fail h).elim
  · exact (rn_fail h).elim
  · exact (rn_fail h).elim
  · exact (rn_fail h).elim
  · rename_i d hd0 hd
    exact ⟨d, rw, s, e, G, fun _ => False, h, hG, .refl, hS', fun _ _ h => h, rfl, rfl, fun r h => .inl h, fun r h => .inl h, fun _ h => h, fun _ _ _ h => h, by
      cases hc with
      | bool b => exact .bool _ _
      | int k n => exact .int _ _ _
      | str s => exact .str _ _
      | nil => exact .nil _
      | arr t l => exact absurd rfl (hd t l), fun cs ds hl => by
      cases d with
      | arr t l => exact absurd rfl (hd t l)
      | nil => exact absurd rfl hd0
      | _ => exact ⟨rfl, rfl, hl⟩⟩
  · exact (rn_fail h).elim
theorem OwnDs.fix {ds : List (D T.U)} {vs : List Value} {S : Nat → Prop} (h : OwnDs T w ds vs S) (t : Nat) : OwnDs T w (T.fix t ds) vs S := by
  obtain ⟨hl, F, g1, g2, g3⟩ := h
  refine ⟨by unfold Tbl.fix; rw [fixNil_length]; exact hl, F, fun j d v hd hv => ?_, g2, g3⟩
  obtain ⟨d0, h1, rfl | ⟨rfl, t', rfl⟩⟩ := fixNil_get _ _ _ _ hd
  · exact g1 j _ v h1 hv
  · exact (g1 j _ v h1 hv).ofNil t'
theorem OwnDs.cons {d : D T.U} {ds : List (D T.U)} {v : Value} {vs : List Value} {S1 S2 S : Nat → Prop} (h : OwnD T w d v S1) (k : OwnDs T w ds vs S2) (hd : ∀ b, S1 b → ¬ S2 b) (h1 : ∀ b, S1 b → S b) (h2 : ∀ b, S2 b → S b) : OwnDs T w (d :: ds) (v :: vs) S := by
  obtain ⟨hl, F, g1, g2, g3⟩ := k
  refine ⟨by simp [hl], fun j b => match j with | 0 => S1 b | j + 1 => F j b, fun j x u hx hu => ?_, fun j b hb => ?_, fun i j b hb hb' => ?_⟩
  · cases j with
    | zero => simp at hx hu; subst hx; subst hu; exact h
    | succ j => exact g1 j x u (by simpa using hx) (by simpa using hu)
  · cases j with
    | zero => exact h1 b hb
    | succ j => exact h2 b (g2 j b hb)
  · cases i with
    | zero =>
      cases j with
      | zero => rfl
      | succ j => exact absurd (g2 j b hb') (hd b hb)
    | succ i =>
      cases j with
      | zero => exact absurd (g2 i b hb) (hd b hb')
      | succ j => rw [g3 i j b hb hb']
theorem OwnDs.nil {S : Nat → Prop} : OwnDs T w [] [] S := ⟨rfl, fun _ _ => False, fun j d v hd => by simp at hd, fun _ _ h => h.elim, fun _ _ _ h => h.elim⟩
theorem lendCs_ok : ∀ {ps : List (D T.U)} {cs : List (C T)} {us : List Value} {e : Env} {s : St T} {G : Nat → Prop} (hG : GoodG W0 M0 G e s tm w) {S0 : Nat → Prop} (hS : Loose W0 M0 e w S0) (hc : RelCs e s w cs us) {rw : List Nat} {k : List (D T.U) → List Nat → M T α} (h : Rn Ok (lendCs ps cs rw k) s a s'),
    ∃ ds rw' s1 e1 G1 S1, Rn Ok (k ds rw') s1 a s' ∧ GoodG W0 M0 G1 e1 s1 tm w ∧ Keeps e s w e1 s1 w ∧ Loose W0 M0 e1 w (fun b => S0 b ∨ S1 b) ∧ (∀ b, S0 b → ¬ S1 b) ∧ e1.K = e.K ∧ s1.regs = s.regs ∧ (∀ r, G1 r → G r ∨ r ∈ rootCs cs) ∧ (∀ r, G1 r → G r ∨ r ∈ rw') ∧ (∀ r, r ∈ rw → r ∈ rw') ∧
      (∀ r b, ¬ r ∈ rw' → e.fp r b → e1.fp r b) ∧ OwnDs T w ds us S1 ∧ LentCs cs ds
  | ps, [], us, e, s, G, hG, S0, hS, hc, rw, k, h => by
    have h : Rn Ok (k [] rw) s a s' := by cases ps <;> exact h
    have hl := hc.1
    simp at hl
    subst hl
    exact ⟨[], rw, s, e, G, fun _ => False, h, hG, .refl, hS.of fun b hb => hb.resolve_right id, fun _ _ h => h, rfl, rfl, fun _ h => .inl h, fun _ h => .inl h, fun _ h => h, fun _ _ _ h => h, .nil, trivial⟩
  | _, c :: cs, [], e, s, G, hG, S0, hS, hc, rw, k, h => by have := hc.1; simp at this
  | [], c :: cs, u :: us, e, s, G, hG, S0, hS, hc, rw, k, h => (rn_fail h).elim
  | p :: ps, c :: cs, u :: us, e, s, G, hG, S0, hS, hc, rw, k, h => by
    obtain ⟨h1, h2⟩ := hc.tail
    obtain ⟨d, rw1, s1, e1, G1, S1, g, g1, g2, g3, g4, g5, g6, g7, g7a, g8, g9, g10, g11⟩ := lendC_ok hG hS h1 h
    obtain ⟨ds, rw2, s2, e2, G2, S2, r, r1, r2, r3, r4, r5, r6, r7, r7a, r8, r9, r10, r11⟩ := lendCs_ok g1 g3 (g2.cs h2) g
    refine ⟨d :: ds, rw2, s2, e2, G2, fun b => S1 b ∨ S2 b, r, r1, g2.trans r2, r3.of (fun b hb => by rcases hb with h | h | h; exact .inl (.inl h); exact .inl (.inr h); exact .inr h), fun b hb hb' => hb'.elim (g4 b hb) (r4 b (.inl hb)), r5.trans g5, r6.trans g6,
      fun r hr => ?_, fun r hr => ?_, fun r hr => r8 r (g8 r hr), fun r b hr h => r9 r b hr (g9 r b (fun x => hr (r8 r x)) h), OwnDs.cons g10 r10 (fun b hb hb' => r4 b (.inr hb) hb') (fun _ h => .inl h) (fun _ h => .inr h), g11 _ _ r11⟩
    · rcases r7 r hr with h | h
      · exact (g7 r h).imp id fun h => by simp [rootCs, h]
      · exact .inr (by simp [rootCs, h])
    · rcases r7a r hr with h | h
      · exact (g7a r h).imp id fun h => r8 r h
      · exact .inr h
end
end Go.Sm
end

section
set_option linter.unusedSimpArgs false
set_option linter.deprecated false
set_option linter.unusedSectionVars false
set_option linter.unusedVariables false
namespace Go.Sm
variable {T : Tbl} {α : Type}
section
variable {Ok : Nat → List (A T) → Res T → Prop} {s s' : St T} {a : α} {P : Program} {e e' : Env} {w w' W0 : World} {M0 : Gh} {tm : Array Value} {G : Nat → Prop}

/-- The objects that an argument lends. -/
def lentR : Mode → V T → List Nat
  | .rws, .one c => rootC c
  | .rws, .agg cs => rootCs cs
  | .rwp, .one (.ptr q _ _) => [q.r]
  | .rwv, .one (.ptr q _ _) => [q.r]
  | _, _ => []
def lentRs : List Mode → List (V T) → List Nat
  | m :: ms, v :: vs => lentR m v ++ lentRs ms vs
  | _, _ => []
def LentV : Mode → V T → A T → Prop
  | .rws, .one c, .val false ds => LentCs [c] ds
  | .rws, .agg cs, .val true ds => LentCs cs ds
  | .rws, _, _ => False
  | _, _, _ => True
def LentVs : List Mode → List (V T) → List (A T) → Prop
  | [], [], [] => True
  | m :: ms, v :: vs, a :: as => LentV m v a ∧ LentVs ms vs as
  | _, _, _ => False
theorem csD_rep {cs : List (C T)} {ds : List (D T.U)} (h : csD cs = some ds) {us : List Value} (hc : RelCs e s w cs us) : RepDs T w e.K ds us := by
  have := csD_get h
  subst this
  refine ⟨by simpa using hc.1, fun j d v hd hv => ?_⟩
  exact hc.2 j (.d d) v (by rw [List.getElem?_map, hd]; rfl) hv

theorem argM_ok (hT : TblOk P T) (hG : GoodG W0 M0 G e s tm w) {S0 : Nat → Prop} (hS : Loose W0 M0 e w S0) {ty : Nat} {m : Mode} {v : V T} {u : Value} (hv : RelV e s w v u) {rw : List Nat} (hGr : ∀ r, G r → r ∈ rw) {k : A T → List Nat → List Nat → M T α} (h : Rn Ok (argM ty m v rw k) s a s') :
    ∃ x ro rw' s1 e1 G1 S1, Rn Ok (k x ro rw') s1 a s' ∧ GoodG W0 M0 G1 e1 s1 tm w ∧ Keeps e s w e1 s1 w ∧ Loose W0 M0 e1 w (fun b => S0 b ∨ S1 b) ∧ (∀ b, S0 b → ¬ S1 b) ∧ e1.K = e.K ∧ s1.regs = s.regs ∧ (∀ r, G1 r → G r ∨ r ∈ lentR m v) ∧ (∀ r, G1 r → G r ∨ r ∈ rw') ∧ (∀ r, r ∈ rw → r ∈ rw') ∧
      (∀ r b, ¬ r ∈ rw' → e.fp r b → e1.fp r b) ∧ LentV m v x ∧ ((m = .ro ∧ (∀ b, ¬ S1 b) ∧ ((∀ r, r ∈ ro → ¬ G r) → ArgRo T w (e.RO ro) x u)) ∨ (m ≠ .ro ∧ ro = [] ∧ ArgRw T w e.K m x u S1)) := by
  have hS' : Loose W0 M0 e w (fun b => S0 b ∨ False) := hS.of fun b hb => hb.resolve_right id
  unfold argM at h
  split at h
  · -- functions
    rename_i f caps
    obtain ⟨us, rfl, hul, hus⟩ := hv
    have hX := capsM_ok (tm := tm) hT hul (fun j c u h1 h2 => by
      have := hus j c u h1 h2
      cases c with
      | fn f' c' => exact this.elim
      | _ => simpa only [RelC] using this) h
    clear h
    obtain ⟨as, ro, h, h1⟩ := hX
    exact ⟨_, _, _, s, e, G, fun _ => False, h, hG, .refl, hS', fun _ _ h => h, rfl, rfl, fun _ h => .inl h, fun _ h => .inl h, fun _ h => h, fun _ _ _ h => h, trivial, .inl ⟨rfl, fun _ h => h, fun hg => ⟨us, rfl, (h1 hG.rel hg).1, (h1 hG.rel hg).2⟩⟩⟩
  · rename_i c hne
    have hX := roC_ok (tm := tm) hT hv h
    clear h
    obtain ⟨x, ro, h, _, h1⟩ := hX
    exact ⟨_, _, _, s, e, G, fun _ => False, h, hG, .refl, hS', fun _ _ h => h, rfl, rfl, fun _ h => .inl h, fun _ h => .inl h, fun _ h => h, fun _ _ _ h => h, trivial, .inl ⟨rfl, fun _ h => h, fun hg => h1 hG.rel hg⟩⟩
  · rename_i cs
    obtain ⟨us, rfl, hc⟩ := hv
    have hX := viewCs_okG (tm := tm) hc h
    clear h
    obtain ⟨ds, h, h1⟩ := hX
    exact ⟨_, _, _, s, e, G, fun _ => False, h, hG, .refl, hS', fun _ _ h => h, rfl, rfl, fun _ h => .inl h, fun _ h => .inl h, fun _ h => h, fun _ _ _ h => h, trivial, .inl ⟨rfl, fun _ h => h, fun hg => ⟨us, rfl, (h1 hG.rel hg).fix ty⟩⟩⟩
  · rename_i c
    have hX := moveC_okG hG hS hv h
    clear h
    obtain ⟨d, own, s1, e1, S1, h, g1, g2, g3, g4, g5, g6, g7, g8, g9, g10, g11, g12⟩ := hX
    have hX := rn_cond h
    clear h
    obtain ⟨h0, h⟩ := hX
    subst h0
    exact ⟨_, _, _, s1, e1, G, S1, h, g1, g2, g3, g4, g5, g6, fun _ h => .inl h, fun _ h => .inl h, fun r hr => by simp [hr], fun r b hr h => g8 r b (fun h => hr (by simp [h])) h, trivial, .inr ⟨by simp, rfl, (OwnDs.cons (S1 := S1) (S2 := fun _ => False) (g11 rfl) .nil (fun _ _ h => h) (fun _ h => h) (fun _ h => h.elim)).fix ty⟩⟩
  · rename_i cs
    obtain ⟨us, rfl, hc⟩ := hv
    have hX := moveCs_okG hG hS hc h
    clear h
    obtain ⟨ds, own, s1, e1, S1, F, h, g1, g2, g3, g4, g5, g6, g7, g8, g9, g10, g11, g12, g13⟩ := hX
    have hX := rn_cond h
    clear h
    obtain ⟨h0, h⟩ := hX
    subst h0
    exact ⟨_, _, _, s1, e1, G, S1, h, g1, g2, g3, g4, g5, g6, fun _ h => .inl h, fun _ h => .inl h, fun r hr => by simp [hr], fun r b hr h => g8 r b (fun h => hr (by simp [h])) h, trivial, .inr ⟨by simp, rfl, ⟨us, rfl, (g11.toOwn g12 g13).fix ty⟩⟩⟩
  · rename_i c
    have hX := lendCs_ok (cs := [c]) (us := [u]) hG hS (.cons hv ⟨rfl, fun j c u h => by simp at h⟩) h
    clear h
    obtain ⟨ds, rw1, s1, e1, G1, S1, h, g1, g2, g3, g4, g5, g6, g7, g7a, g8, g9, g10, g11⟩ := hX
    exact ⟨_, _, _, s1, e1, G1, S1, h, g1, g2, g3, g4, g5, g6, fun r hr => (g7 r hr).imp id fun h => by simpa [rootCs, lentR] using h, g7a, g8, g9, g11, .inr ⟨by simp, rfl, g10⟩⟩
  · rename_i cs
    obtain ⟨us, rfl, hc⟩ := hv
    have hX := lendCs_ok hG hS hc h
    clear h
    obtain ⟨ds, rw1, s1, e1, G1, S1, h, g1, g2, g3, g4, g5, g6, g7, g7a, g8, g9, g10, g11⟩ := hX
    exact ⟨_, _, _, s1, e1, G1, S1, h, g1, g2, g3, g4, g5, g6, g7, g7a, g8, g9, g11, .inr ⟨by simp, rfl, ⟨us, rfl, g10⟩⟩⟩
  · rename_i q
    split at h
    · rename_i el hty
      replace h := rn_getO h
      split at h
      · rename_i cs ho
        have hX := rn_cond h
        clear h
        obtain ⟨h0, h⟩ := hX
        simp only [Bool.and_eq_true] at h0
        have hng : ¬ G q.r := fun hg => memb_not h0.1 (hGr _ hg)
        have hqn := memb_not h0.2
        obtain ⟨b, arr, el', k1, k2, k3, k4⟩ := hG.rel.objs _ _ hng ho
        obtain ⟨b', hb', rfl⟩ := hv.2.2.1 cs ho rfl
        rw [k1] at hb'
        simp only [Option.some.injEq, Addr.mk.injEq] at hb'
        obtain ⟨rfl, _⟩ := hb'
        have hX := moveCs_okG hG hS k4 h
        clear h
        obtain ⟨ds, own, s1, e1, S1, F, h, g1, g2, g3, g4, g5, g6, g7, g8, g9, g10, g11, g12, g13⟩ := hX
        have hX := rn_cond h
        clear h
        obtain ⟨hown, h⟩ := hX
        subst hown
        split at h
        · rename_i x hx
          have hdx := hT.get _ _ _ hx
          replace g11 := g11.fix el
          rw [← hdx] at g11
          have ho1 : s1.objs q.r = some (.var cs) := (g7 _ hqn).trans ho
          have hb1 := g8 _ _ hqn k2
          obtain ⟨m1, m2, m3⟩ := g1.lend ho1 (.inl ⟨cs, rfl, rfl⟩)
          have hs1 : s1.setO q.r (some (.var cs)) = s1 := by
            cases s1 with
            | mk regs objs =>
              simp only [St.setO, St.mk.injEq, true_and]
              funext u
              by_cases hu : u = q.r
              · subst hu; simp only [beq_self, cond_true]; exact ho1.symm
              · simp only [beq_ne hu, cond_false]
          rw [hs1] at m1 m2
          refine ⟨_, _, _, s1, _, _, fun b' => S1 b' ∨ e1.fp q.r b', h, m1, g2.trans m2, ?_, fun b' hb' hb2 => hb2.elim (g4 b' hb') (fun h => g3.notFp _ _ (.inl hb') h), g5, g6, fun r hr => hr.imp id fun h => by simp [lentR, h], fun r hr => hr.imp id fun h => by simp [h], fun r hr => by simp [hr], fun r b' hr h => ⟨fun h => hr (by simp [h]), g8 r b' (fun h => hr (by simp [h])) h⟩, trivial, .inr ⟨by simp, rfl, ?_⟩⟩
          · exact ((g3.drop _).or m3).of fun b' hb' => by rcases hb' with h | h | h; exact .inl (.inl h); exact .inl (.inr h); exact .inr h
          · refine ⟨_, arr, el', rfl, .inr hb1, k3, ?_⟩
            exact g11.toOwn (fun j b' hb' => ⟨.inl (g12 j b' hb'), fun h => by subst h; exact g3.notFp _ _ (.inr (g12 j _ hb')) hb1⟩) g13
        · exact (rn_fail h).elim
      · exact (rn_fail h).elim
    · exact (rn_fail h).elim
  · rename_i q
    split at h
    · rename_i el hty
      replace h := rn_getO h
      split at h
      · rename_i cs ho
        have hX := rn_cond h
        clear h
        obtain ⟨h0, h⟩ := hX
        have hng : ¬ G q.r := fun hg => memb_not h0 (hGr _ hg)
        obtain ⟨b, arr, el', k1, k2, k3, k4⟩ := hG.rel.objs _ _ hng ho
        obtain ⟨b', hb', rfl⟩ := hv.2.2.1 cs ho rfl
        rw [k1] at hb'
        simp only [Option.some.injEq, Addr.mk.injEq] at hb'
        obtain ⟨rfl, _⟩ := hb'
        split at h
        · rename_i ds hds
          split at h
          · rename_i x hx
            have hdx := hT.get _ _ _ hx
            have hrep := (csD_rep hds k4).fix el
            rw [← hdx] at hrep
            obtain ⟨m1, m2, m3⟩ := hG.lend ho (.inl ⟨cs, rfl, rfl⟩)
            have hs1 : s.setO q.r (some (.var cs)) = s := by
              cases s with
              | mk regs objs =>
                simp only [St.setO, St.mk.injEq, true_and]
                funext u
                by_cases hu : u = q.r
                · subst hu; simp only [beq_self, cond_true]; exact ho.symm
                · simp only [beq_ne hu, cond_false]
            rw [hs1] at m1 m2
            exact ⟨_, _, _, s, _, _, e.fp q.r, h, m1, m2, (hS.drop _).or m3, fun b' hb' hb2 => hS.notFp _ _ hb' hb2, rfl, rfl, fun r hr => hr.imp id fun h => by simp [lentR, h], fun r hr => hr.imp id fun h => by simp [h], fun r hr => by simp [hr], fun r b' hr h => ⟨fun h => hr (by simp [h]), h⟩, trivial, .inr ⟨by simp, rfl, ⟨_, arr, el', rfl, k2, k3, hrep⟩⟩⟩
          · exact (rn_fail h).elim
        · exact (rn_fail h).elim
      · exact (rn_fail h).elim
    · exact (rn_fail h).elim
  · exact (rn_fail h).elim

/-- The registers of a list of arguments. -/
def RelVs (e : Env) (s : St T) (w : World) : List (V T) → List Value → Prop
  | [], [] => True
  | v :: vs, u :: us => RelV e s w v u ∧ RelVs e s w vs us
  | _, _ => False
theorem Keeps.vs (h : Keeps e s w e' s' w') : ∀ {vs : List (V T)} {us : List Value}, RelVs e s w vs us → RelVs e' s' w' vs us
  | [], [], _ => trivial
  | [], _ :: _, h => h.elim
  | _ :: _, [], h => h.elim
  | v :: vs, u :: us, hc => ⟨h.v hc.1, Keeps.vs h hc.2⟩
theorem argsM_ok (hT : TblOk P T) : ∀ {tys : List Nat} {ms : List Mode} {vs : List (V T)} {us : List Value} {e : Env} {s : St T} {G : Nat → Prop} (hG : GoodG W0 M0 G e s tm w) {S0 : Nat → Prop} (hS : Loose W0 M0 e w S0) (hv : RelVs e s w vs us) {rw : List Nat} (hGr : ∀ r, G r → r ∈ rw)
    {k : List (A T) → List Nat → List Nat → M T α} (h : Rn Ok (argsM tys ms vs rw k) s a s'),
    ∃ as ro rw' s1 e1 G1 S1, Rn Ok (k as ro rw') s1 a s' ∧ GoodG W0 M0 G1 e1 s1 tm w ∧ Keeps e s w e1 s1 w ∧ Loose W0 M0 e1 w (fun b => S0 b ∨ S1 b) ∧ (∀ b, S0 b → ¬ S1 b) ∧ e1.K = e.K ∧ s1.regs = s.regs ∧ (∀ r, G1 r → G r ∨ r ∈ lentRs ms vs) ∧ (∀ r, G1 r → G r ∨ r ∈ rw') ∧ (∀ r, r ∈ rw → r ∈ rw') ∧
      (∀ r b, ¬ r ∈ rw' → e.fp r b → e1.fp r b) ∧ LentVs ms vs as ∧ (∀ r, r ∈ ro → ¬ r ∈ rw') ∧ ArgsOk T w (e1.RO ro) ms as us S1
  | [], [], [], us, e, s, G, hG, S0, hS, hv, rw, hGr, k, h => by
    cases us with
    | cons _ _ => exact hv.elim
    | nil => exact ⟨[], [], rw, s, e, G, fun _ => False, h, hG, .refl, hS.of fun b hb => hb.resolve_right id, fun _ _ h => h, rfl, rfl, fun _ h => .inl h, fun _ h => .inl h, fun _ h => h, fun _ _ _ h => h, trivial, fun _ h => (by cases h), .nil⟩
  | [], [], _ :: _, _, _, _, _, _, _, _, _, _, _, _, h => (rn_fail h).elim
  | [], _ :: _, _, _, _, _, _, _, _, _, _, _, _, _, h => (rn_fail h).elim
  | _ :: _, [], _, _, _, _, _, _, _, _, _, _, _, _, h => (rn_fail h).elim
  | _ :: _, _ :: _, [], _, _, _, _, _, _, _, _, _, _, _, h => (rn_fail h).elim
  | t :: ts, m :: ms, v :: vs, us, e, s, G, hG, S0, hS, hv, rw, hGr, k, h => by
    cases us with
    | nil => exact hv.elim
    | cons u us =>
      obtain ⟨hv1, hv2⟩ := hv
      obtain ⟨x, ro, rw1, s1, e1, G1, S1, g, g1, g2, g3, g4, g5, g6, g7, g7a, g8, g9, g10, g11⟩ := argM_ok hT hG hS hv1 hGr h
      obtain ⟨as, ro', rw2, s2, e2, G2, S2, r, r1, r2, r3, r4, r5, r6, r7, r7a, r8, r9, r10, r12, r11⟩ := argsM_ok hT g1 g3 (g2.vs hv2) (fun r hr => (g7a r hr).elim (fun h => g8 r (hGr r h)) id) g
      clear h g
      obtain ⟨hap, r⟩ := rn_cond r
      have hap := apartL_iff hap
      have hro : ∀ r, r ∈ ro → ¬ G r := fun r hr hg => hap r hr (r8 r (g8 r (hGr r hg)))
      have hfp : ∀ r b, r ∈ ro → e.fp r b → e2.fp r b := fun r b hr hb => r9 r b (hap r hr) (g9 r b (fun h => hap r hr (r8 r h)) hb)
      have hKm : ∀ b, e.RO ro b → e2.RO (ro ++ ro') b := Env.RO_mono (fun b hb => by rw [r5, g5]; exact hb) hfp fun r hr => by simp [hr]
      have hKm2 : ∀ b, e2.RO ro' b → e2.RO (ro ++ ro') b := Env.RO_mono (fun _ h => h) (fun _ _ _ h => h) fun r hr => by simp [hr]
      rcases g11 with ⟨hm, hS1, hro1⟩ | ⟨hm, hro0, hrw⟩
      · subst hm
        refine ⟨x :: as, ro ++ ro', rw2, s2, e2, G2, S2, r, r1, g2.trans r2, r3.of (fun b hb => hb.imp .inl id), fun b hb => r4 b (.inl hb), r5.trans g5, r6.trans g6, fun r hr => ?_, fun r hr => ?_, fun r hr => r8 r (g8 r hr), fun r b hr h => r9 r b hr (g9 r b (fun h => hr (r8 r h)) h), ⟨g10, r10⟩, fun r hr => ?_, .ro ((hro1 hro).mono hKm) (r11.mono hKm2)⟩
        · rcases r7 r hr with h | h
          · exact (g7 r h).imp id fun h => by simp [lentRs, h]
          · exact .inr (by simp [lentRs, h])
        · rcases r7a r hr with h | h
          · exact (g7a r h).imp id fun h => r8 r h
          · exact .inr h
        · rcases List.mem_append.1 hr with h | h
          · exact hap r h
          · exact r12 r h
      · subst hro0
        refine ⟨x :: as, [] ++ ro', rw2, s2, e2, G2, fun b => S1 b ∨ S2 b, r, r1, g2.trans r2, r3.of (fun b hb => by rcases hb with h | h | h; exact .inl (.inl h); exact .inl (.inr h); exact .inr h), fun b hb hb' => hb'.elim (g4 b hb) (r4 b (.inl hb)), r5.trans g5, r6.trans g6, fun r hr => ?_, fun r hr => ?_, fun r hr => r8 r (g8 r hr), fun r b hr h => r9 r b hr (g9 r b (fun h => hr (r8 r h)) h), ⟨g10, r10⟩, fun r hr => r12 r hr, .rw (hrw.mono fun b hb => .inl (by rw [r5, g5]; exact hb)) r11 fun b hb hb' => r4 b (.inr hb) hb'⟩
        · rcases r7 r hr with h | h
          · exact (g7 r h).imp id fun h => by simp [lentRs, h]
          · exact .inr (by simp [lentRs, h])
        · rcases r7a r hr with h | h
          · exact (g7a r h).imp id fun h => r8 r h
          · exact .inr h
end
end Go.Sm
end
