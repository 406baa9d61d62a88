import Derived.Test.YtakllmgiobpmgaaEngB
import Derived.Laws.Small
import Derived.Laws.Cover1
import Derived.Laws.IdiomStrings
import Derived.Laws.BytesArg
/- An evaluator over data for the code of the program, and its law: what it computes is what the model computes. Part 3 of 4. -/
set_option linter.unusedSimpArgs false
set_option linter.deprecated false
set_option linter.unusedSectionVars false
section
set_option linter.unusedVariables false
namespace Go.Sm
variable {T : Tbl} {α : Type}
section
variable {Ok : Nat → List (A T) → Res T → Prop} {s s' : St T} {a : α} {P : Program} {e e' : Env} {w w' W0 : World} {M0 : Gh} {tm : Array Value}

/-- A state some of whose objects are lent (G): of these only where they lie is known. -/
structure RelG (G : Nat → Prop) (e : Env) (s : St T) (tm : Array Value) (w : World) : Prop where
  regs : ∀ t, RelV e s w (s.regs t) (tm.getD t undef)
  objs : ∀ r o, ¬ G r → s.objs r = some o → RelO e s w r o
  dis : ∀ r r' b, e.fp r b → e.fp r' b → r = r'
  disK : ∀ r b, e.fp r b → ¬ e.K b
  lt : ∀ b, (e.K b ∨ ∃ r, e.fp r b) → b < w.heap.size
  gone : ∀ r b, G r → ¬ e.fp r b
  lent : ∀ r, G r → (∃ cs, s.objs r = some (.var cs)) ∨ (∃ t l ver nver pin, s.objs r = some (.arr t l ver nver (.upto 0) pin))
  lsz : ∀ r t l ver nver dep pin, G r → s.objs r = some (.arr t l ver nver dep pin) → l.length ≤ e.cap r ∧ (0 < e.cap r → ∃ b off cs el, e.adr r = some ⟨b, off, none⟩ ∧ w.heap[b]? = some (cellsE cs el) ∧ off + e.cap r * T.size t ≤ cs.size)
structure GoodG (W0 : World) (M0 : Gh) (G : Nat → Prop) (e : Env) (s : St T) (tm : Array Value) (w : World) : Prop where
  rel : RelG G e s tm w
  fr : Fr W0 M0 e w
  pin : PinOk M0 e s
theorem Good.toG (h : Good W0 M0 e s tm w) : GoodG W0 M0 (fun _ => False) e s tm w :=
  ⟨⟨h.rel.regs, fun r o _ => h.rel.objs r o, h.rel.dis, h.rel.disK, h.rel.lt, fun _ _ h => h.elim, fun _ h => h.elim, fun _ _ _ _ _ _ _ h => h.elim⟩, h.fr, h.pin⟩
theorem GoodG.toGood {G : Nat → Prop} (h : GoodG W0 M0 G e s tm w) (hG : ∀ r, ¬ G r) : Good W0 M0 e s tm w :=
  ⟨⟨h.rel.regs, fun r o => h.rel.objs r o (hG r), h.rel.dis, h.rel.disK, h.rel.lt⟩, h.fr, h.pin⟩
theorem GoodG.sub {G G' : Nat → Prop} (h : GoodG W0 M0 G e s tm w) (hG : ∀ r, G r ↔ G' r) : GoodG W0 M0 G' e s tm w :=
  ⟨⟨h.rel.regs, fun r o hr => h.rel.objs r o fun x => hr ((hG r).1 x), h.rel.dis, h.rel.disK, h.rel.lt, fun r b hr => h.rel.gone r b ((hG r).2 hr), fun r hr => h.rel.lent r ((hG r).2 hr), fun r t l ver nver dep pin hr => h.rel.lsz r t l ver nver dep pin ((hG r).2 hr)⟩, h.fr, h.pin⟩

/-- References to what is lent do not look into memory. -/
structure LentO (e : Env) (s : St T) (e' : Env) (s' : St T) (r : Nat) : Prop where
  obj : s'.objs r = s.objs r
  adr : e'.adr r = e.adr r
  cap : e'.cap r = e.cap r
  lent : (∃ cs, s.objs r = some (.var cs)) ∨ (∃ t l ver nver pin, s.objs r = some (.arr t l ver nver (.upto 0) pin))
theorem LentO.info {q : Ref} (h : LentO e s e' s' q.r) : refInfo s' q = refInfo s q := by unfold refInfo; rw [h.obj]
theorem LentO.live {q : Ref} (h : LentO e s e' s' q.r) (hl : Live s q) : Live s' q := by unfold Live at *; rw [h.obj]; exact hl
theorem LentO.at_ {q : Ref} (h : LentO e s e' s' q.r) {t : Nat} {l : List (T.U t)} (hi : refInfo s q = some ⟨t, l⟩) {A : Option Addr} {c : Nat} (hat : RefAt e s w q A c) : RefAt e' s' w' q A c := by
  unfold RefAt at *
  cases hp : q.p with
  | none => simp only [hp] at *; exact ⟨hat.1.trans h.adr.symm, hat.2.trans h.cap.symm⟩
  | some ic =>
    obtain ⟨i, col⟩ := ic
    simp only [hp] at hat ⊢
    obtain ⟨t1, l1, ver, nver, dep, pin, b, off, n, h1, h2, h3, h4⟩ := hat
    rcases h.lent with ⟨cs, hl⟩ | ⟨t2, l2, ver2, nver2, pin2, hl⟩
    · rw [h1] at hl; cases hl
    · rw [h1] at hl
      cases hl
      exact absurd h2 (Nat.not_lt_zero _)
theorem LentO.ref {q : Ref} (h : LentO e s e' s' q.r) {rng : Option (Nat × Nat)} {v : Value} (hr : RelRef e s w q rng v) : RelRef e' s' w' q rng v := by
  refine ⟨h.live hr.1, hr.2.1, fun t l hi => ?_⟩
  rw [h.info] at hi
  obtain ⟨A, c, h1, h2⟩ := hr.2.2 t l hi
  exact ⟨A, c, h.at_ hi h1, h2⟩
theorem LentO.ptr {q : Ref} (h : LentO e s e' s' q.r) {row col : Nat} {v : Value} (hr : RelPtr e s w q row col v) : RelPtr e' s' w' q row col v := by
  refine ⟨h.live hr.1, hr.2.1, fun cs hc hz => ?_, fun t l hi => ?_⟩
  · obtain ⟨b, h1, h2⟩ := hr.2.2.1 cs (h.obj.symm.trans hc) hz
    exact ⟨b, h.adr.trans h1, h2⟩
  · rw [h.info] at hi
    obtain ⟨b, off, c, h1, h2⟩ := hr.2.2.2 t l hi
    exact ⟨b, off, c, h.at_ hi h1, h2⟩
theorem LentO.map {r : Nat} (h : LentO e s e' s' r) {v : Value} (hr : RelC0 e s w (.map r : C T) v) : RelC0 e' s' w' (.map r : C T) v := by
  refine ⟨by rw [h.obj]; exact hr.1, hr.2.1, fun kt et l hm => ?_⟩
  obtain ⟨b, h1, h2⟩ := hr.2.2 kt et l (h.obj.symm.trans hm)
  exact ⟨b, h.adr.trans h1, h2⟩

theorem RelG.upd {G G' : Nat → Prop} (hR : RelG G e s tm w) (hF : Fr W0 M0 e w) {S : Nat → Prop} (hS : Loose W0 M0 e w S) {r : Nat} {x : Root T} (hGG : ∀ r', r' ≠ r → (G' r' ↔ G r')) (hu : EnvUpd e e' r)
    (hK : ∀ b, e.K b → e'.K b) (hK' : ∀ b, e'.K b → e.K b ∨ ((e.fp r b ∨ S b) ∧ ¬ e'.fp r b))
    (hsz : w.heap.size ≤ w'.heap.size) (hw : ∀ b, b < w.heap.size → ¬ e.fp r b → ¬ S b → w'.heap[b]? = w.heap[b]?)
    (hos : w'.os = w.os) (htape : w'.tape = w.tape) (hout : Oth w w')
    (hfp : ∀ b, e'.fp r b → (e.fp r b ∨ S b ∨ w.heap.size ≤ b) ∧ b < w'.heap.size)
    (href : ∀ q rng v, q.r = r → RelRef e s w q rng v → RelRef e' (s.setO r (some x)) w' q rng v)
    (hptr : ∀ q row col v, q.r = r → RelPtr e s w q row col v → RelPtr e' (s.setO r (some x)) w' q row col v)
    (hmap : ∀ v, RelC0 e s w (.map r : C T) v → RelC0 e' (s.setO r (some x)) w' (.map r : C T) v)
    (hgone : G' r → ∀ b, ¬ e'.fp r b) (hlent : G' r → (∃ cs, x = .var cs) ∨ (∃ t l ver nver pin, x = .arr t l ver nver (.upto 0) pin))
    (hlsz : G' r → ∀ t l ver nver dep pin, x = .arr t l ver nver dep pin → l.length ≤ e'.cap r ∧ (0 < e'.cap r → ∃ b off cs el, e'.adr r = some ⟨b, off, none⟩ ∧ w'.heap[b]? = some (cellsE cs el) ∧ off + e'.cap r * T.size t ≤ cs.size)) :
    Keeps e s w e' (s.setO r (some x)) w' ∧ Fr W0 M0 e' w' ∧ ((¬ G' r → RelO e' (s.setO r (some x)) w' r x) → RelG G' e' (s.setO r (some x)) tm w') := by
  have hobj : ∀ r', r' ≠ r → (s.setO r (some x)).objs r' = s.objs r' := fun r' hr => by simp only [St.setO, beq_ne hr, cond_false]
  have hblkK : ∀ b, e.K b → w'.heap[b]? = w.heap[b]? := fun b hb => hw b (hR.lt b (.inl hb)) (fun h => hR.disK _ _ h hb) (fun h => hS.notK _ h hb)
  have hsame : ∀ r', r' ≠ r → SameO e s w e' (s.setO r (some x)) w' r' := fun r' hr =>
    ⟨hobj r' hr, hu.adr r' hr, hu.cap r' hr, fun b => hu.fp r' b hr, fun b hb => hw b (hR.lt b (.inr ⟨_, hb⟩)) (fun h => hr (hR.dis _ _ _ hb h)) (fun h => hS.notFp _ _ h hb)⟩
  have hl : ∀ r', r' ≠ r → G r' → LentO e s e' (s.setO r (some x)) r' := fun r' hr hg => ⟨hobj r' hr, hu.adr r' hr, hu.cap r' hr, hR.lent r' hg⟩
  have hk : Keeps e s w e' (s.setO r (some x)) w' := by
    refine ⟨hout, hK, hblkK, fun q rng v hq => ?_, fun q row col v hq => ?_, fun r' v hq => ?_⟩
    · by_cases h : q.r = r
      · exact href q rng v h hq
      · by_cases hg : G q.r
        · exact (hl _ h hg).ref hq
        · exact (hsame _ h).ref (fun o => hR.objs _ o hg) hq
    · by_cases h : q.r = r
      · exact hptr q row col v h hq
      · by_cases hg : G q.r
        · exact (hl _ h hg).ptr hq
        · exact (hsame _ h).ptr (fun o => hR.objs _ o hg) hq
    · by_cases h : r' = r
      · subst h; exact hmap v hq
      · exact (hsame _ h).map hq
  have hfp' : ∀ r' b, e'.fp r' b → (r' = r ∧ (e.fp r b ∨ S b ∨ w.heap.size ≤ b)) ∨ (r' ≠ r ∧ e.fp r' b) := by
    intro r' b hb
    by_cases h : r' = r
    · subst h; exact .inl ⟨rfl, (hfp b hb).1⟩
    · exact .inr ⟨h, (hu.fp r' b h).1 hb⟩
  have hFr : Fr W0 M0 e' w' := by
    refine ⟨Nat.le_trans hF.size hsz, hos.trans hF.os, htape.trans hF.tape, hF.output.trans hout, fun b hb hM => ?_, fun r' b hb hlt => ?_, fun b hb hlt => ?_⟩
    · rw [hw b (Nat.lt_of_lt_of_le hb hF.size) (fun h => hM (hF.own _ _ h hb)) (fun h => hM (hS.own _ h hb))]
      exact hF.block b hb hM
    · rcases hfp' r' b hb with ⟨_, h⟩ | ⟨_, h⟩
      · rcases h with h | h | h
        · exact hF.own _ _ h hlt
        · exact hS.own _ h hlt
        · have := hF.size; omega
      · exact hF.own _ _ h hlt
    · rcases hK' b hb with h | ⟨h | h, _⟩
      · exact hF.know b h hlt
      · exact .inr (hF.own _ _ h hlt)
      · exact .inr (hS.own _ h hlt)
  refine ⟨hk, hFr, fun hx => ⟨fun t => hk.v (hR.regs t), fun r' o hg ho => ?_, fun r1 r2 b h1 h2 => ?_, fun r1 b h1 h2 => ?_, fun b hb => ?_, fun r1 b hg hb => ?_, fun r1 hg => ?_, fun r1 t1 l1 ver1 nver1 dep1 pin1 hg ho => ?_⟩⟩
  · by_cases h : r' = r
    · subst h
      simp only [St.setO, beq_self, cond_true, Option.some.injEq] at ho
      subst ho
      exact hx hg
    · rw [hobj r' h] at ho
      exact (hsame _ h).relO hk (hR.objs _ _ (fun x => hg ((hGG r' h).2 x)) ho)
  · rcases hfp' r1 b h1 with ⟨e1, g1⟩ | ⟨e1, g1⟩ <;> rcases hfp' r2 b h2 with ⟨e2, g2⟩ | ⟨e2, g2⟩
    · rw [e1, e2]
    · rcases g1 with g | g | g
      · exact absurd (hR.dis _ _ _ g2 g) e2
      · exact absurd g2 (hS.notFp _ _ g)
      · have := hR.lt b (.inr ⟨_, g2⟩); omega
    · rcases g2 with g | g | g
      · exact absurd (hR.dis _ _ _ g1 g) e1
      · exact absurd g1 (hS.notFp _ _ g)
      · have := hR.lt b (.inr ⟨_, g1⟩); omega
    · exact hR.dis _ _ _ g1 g2
  · rcases hK' b h2 with hK0 | ⟨hK1, hK2⟩
    · rcases hfp' r1 b h1 with ⟨e1, g1⟩ | ⟨e1, g1⟩
      · rcases g1 with g | g | g
        · exact hR.disK _ _ g hK0
        · exact hS.notK _ g hK0
        · have := hR.lt b (.inl hK0); omega
      · exact hR.disK _ _ g1 hK0
    · rcases hfp' r1 b h1 with ⟨e1, g1⟩ | ⟨e1, g1⟩
      · subst e1; exact hK2 h1
      · rcases hK1 with g | g
        · exact e1 (hR.dis _ _ _ g1 g)
        · exact hS.notFp _ _ g g1
  · rcases hb with hb | ⟨r1, hb⟩
    · rcases hK' b hb with h | ⟨h, _⟩
      · exact Nat.lt_of_lt_of_le (hR.lt b (.inl h)) hsz
      · rcases h with h | h
        · exact Nat.lt_of_lt_of_le (hR.lt b (.inr ⟨_, h⟩)) hsz
        · exact Nat.lt_of_lt_of_le (hS.lt b h) hsz
    · rcases hfp' r1 b hb with ⟨e1, _⟩ | ⟨e1, g1⟩
      · subst e1; exact (hfp b hb).2
      · exact Nat.lt_of_lt_of_le (hR.lt b (.inr ⟨_, g1⟩)) hsz
  · by_cases h : r1 = r
    · subst h; exact hgone hg b hb
    · exact hR.gone r1 b ((hGG r1 h).1 hg) ((hu.fp r1 b h).1 hb)
  · by_cases h : r1 = r
    · subst h
      rw [setO_objs]
      rcases hlent hg with ⟨cs, rfl⟩ | ⟨t, l, ver, nver, pin, rfl⟩
      · exact .inl ⟨_, rfl⟩
      · exact .inr ⟨_, _, _, _, _, rfl⟩
    · rw [hobj r1 h]
      exact hR.lent r1 ((hGG r1 h).1 hg)
  · by_cases h : r1 = r
    · subst h
      rw [setO_objs] at ho
      exact hlsz hg _ _ _ _ _ _ (Option.some.inj ho)
    · rw [hobj r1 h] at ho
      rw [hu.adr r1 h, hu.cap r1 h]
      have hz := hR.lsz r1 t1 l1 ver1 nver1 dep1 pin1 ((hGG r1 h).1 hg) ho
      refine ⟨hz.1, fun hc => ?_⟩
      obtain ⟨b, off, cs, el, h1, h2, h3⟩ := hz.2 hc
      obtain ⟨cs', h4, h5⟩ := hout.bszE h2
      exact ⟨b, off, cs', el, h1, h4, by rw [h5]; exact h3⟩

/-- The world changes, in loose blocks alone; some blocks join those that never change. -/
theorem GoodG.world {G : Nat → Prop} (h : GoodG W0 M0 G e s tm w) {S K' : Nat → Prop} (hS : Loose W0 M0 e w S) (hsz : w.heap.size ≤ w'.heap.size) (hw : ∀ b, b < w.heap.size → ¬ S b → w'.heap[b]? = w.heap[b]?)
    (hos : w'.os = w.os) (htape : w'.tape = w.tape) (hout : Oth w w') (hK : ∀ b, e.K b → K' b) (hK' : ∀ b, K' b → (e.K b ∨ S b ∨ w.heap.size ≤ b) ∧ b < w'.heap.size) :
    GoodG W0 M0 G { e with K := K' } s tm w' ∧ Keeps e s w { e with K := K' } s w' := by
  obtain ⟨hR, hF, hP⟩ := h
  have hsame : ∀ r', SameO e s w { e with K := K' } s w' r' := fun r' => ⟨rfl, rfl, rfl, fun _ => Iff.rfl, fun b hb => hw b (hR.lt b (.inr ⟨_, hb⟩)) (fun h => hS.notFp _ _ h hb)⟩
  have hl : ∀ r', G r' → LentO e s { e with K := K' } s r' := fun r' hg => ⟨rfl, rfl, rfl, hR.lent r' hg⟩
  have hk : Keeps e s w { e with K := K' } s w' := by
    refine ⟨hout, hK, fun b hb => hw b (hR.lt b (.inl hb)) (fun h => hS.notK _ h hb), fun q rng v hq => ?_, fun q row col v hq => ?_, fun r' v hq => (hsame r').map hq⟩
    · by_cases hg : G q.r
      · exact (hl _ hg).ref hq
      · exact (hsame _).ref (fun o => hR.objs _ o hg) hq
    · by_cases hg : G q.r
      · exact (hl _ hg).ptr hq
      · exact (hsame _).ptr (fun o => hR.objs _ o hg) hq
  refine ⟨⟨⟨fun t => hk.v (hR.regs t), fun r o hg ho => (hsame r).relO hk (hR.objs r o hg ho), hR.dis, fun r b h1 h2 => ?_, fun b hb => ?_, hR.gone, hR.lent, fun r1 t1 l1 ver1 nver1 dep1 pin1 hg ho => ⟨(hR.lsz r1 t1 l1 ver1 nver1 dep1 pin1 hg ho).1, fun hc => by
      obtain ⟨b, off, cs, el, h1, h2, h3⟩ := (hR.lsz r1 t1 l1 ver1 nver1 dep1 pin1 hg ho).2 hc
      obtain ⟨cs', h4, h5⟩ := hout.bszE h2
      exact ⟨b, off, cs', el, h1, h4, by rw [h5]; exact h3⟩⟩⟩, ⟨Nat.le_trans hF.size hsz, hos.trans hF.os, htape.trans hF.tape, hF.output.trans hout, fun b hb hM => ?_, hF.own, fun b hb hlt => (hK' b hb).1.elim (fun h => hF.know b h hlt) fun h => h.elim (fun h => .inr (hS.own b h hlt)) fun h => absurd hlt (Nat.not_lt.2 (Nat.le_trans hF.size h))⟩, hP.same rfl rfl⟩, hk⟩
  · rcases (hK' b h2).1 with h | h | h
    · exact hR.disK _ _ h1 h
    · exact hS.notFp _ _ h h1
    · have := hR.lt b (.inr ⟨_, h1⟩); omega
  · rcases hb with hb | ⟨r, hb⟩
    · exact (hK' b hb).2
    · exact Nat.lt_of_lt_of_le (hR.lt b (.inr ⟨r, hb⟩)) hsz
  · rw [hw b (Nat.lt_of_lt_of_le hb hF.size) (fun h => hM (hS.own _ h hb))]
    exact hF.block b hb hM
end
end Go.Sm
end

section
set_option linter.unusedVariables false
namespace Go.Sm
variable {T : Tbl} {α : Type}
section
variable {Ok : Nat → List (A T) → Res T → Prop} {s s' : St T} {a : α} {P : Program} {e e' : Env} {w w' W0 : World} {M0 : Gh} {tm : Array Value} {G : Nat → Prop}

theorem RelG.notLent (h : RelG G e s tm w) {r t : Nat} {l : List (T.U t)} {ver : Nat} {nver : NV} {pin : Bool} (ho : s.objs r = some (.arr t l ver nver .all pin)) : ¬ G r := fun hg => by
  rcases h.lent r hg with ⟨cs, hx⟩ | ⟨_, _, _, _, _, hx⟩ <;> rw [ho] at hx <;> cases hx
theorem GoodG.kill (hG : GoodG W0 M0 G e s tm w) {r : Nat} {o : Root T} (ho : s.objs r = some o) (hr : ¬ G r) : GoodG W0 M0 G (e.drop r) (s.setO r (some .dead)) tm w ∧ Keeps e s w (e.drop r) (s.setO r (some .dead)) w ∧ Loose W0 M0 (e.drop r) w (e.fp r) := by
  obtain ⟨hR, hF, hP⟩ := hG
  have hd : ∀ q : Ref, q.r = r → (s.setO r (some .dead)).objs q.r = some .dead := fun q h => by rw [h]; exact setO_objs _ _ _
  obtain ⟨h1, h2, h3⟩ := RelG.upd (e' := e.drop r) (x := .dead) hR hF Loose.none (fun _ _ => Iff.rfl) ⟨fun _ _ => rfl, fun _ _ => rfl, fun r' b h => ⟨fun x => x.2, fun x => ⟨h, x⟩⟩⟩ (fun _ h => h) (fun _ h => .inl h) (Nat.le_refl _) (fun _ _ _ _ => rfl) rfl rfl (Oth.refl _)
    (fun b h => absurd rfl h.1)
    (fun q rng v hq h => ⟨⟨_, hd q hq, fun _ _ _ _ _ _ h => by cases h⟩, h.2.1, fun t l hi => by rw [info_dead (hd q hq)] at hi; cases hi⟩)
    (fun q row col v hq h => ⟨⟨_, hd q hq, fun _ _ _ _ _ _ h => by cases h⟩, h.2.1, (fun cs hc => by rw [hd q hq] at hc; cases hc), fun t l hi => by rw [info_dead (hd q hq)] at hi; cases hi⟩)
    (fun v h => ⟨⟨_, setO_objs _ _ _⟩, h.2.1, fun kt et l hm => by rw [setO_objs] at hm; cases hm⟩) (fun hg => absurd hg hr) (fun hg => absurd hg hr) (fun hg => absurd hg hr)
  refine ⟨⟨h3 fun _ => trivial, h2, hP.upd (fun _ _ => rfl) (fun _ _ => rfl) ⟨fun _ _ _ _ _ h => (by cases h), fun _ _ h => (by cases h)⟩⟩, h1, fun b hb => hR.disK _ _ hb, fun r' b hb h => h.1 (hR.dis _ _ _ h.2 hb), fun b hb => hR.lt b (.inr ⟨_, hb⟩), fun b hb => hF.own _ _ hb⟩
/-- An object is put aside: it is lent. -/
theorem GoodG.lend (hG : GoodG W0 M0 G e s tm w) {r : Nat} {o x : Root T} (ho : s.objs r = some o) (hx : (∃ cs, o = .var cs ∧ x = o) ∨ (∃ t l ver nver pin, o = .arr t l ver nver .all pin ∧ x = .arr t l ver nver.kill (.upto 0) pin)) :
    GoodG W0 M0 (fun r' => G r' ∨ r' = r) (e.drop r) (s.setO r (some x)) tm w ∧ Keeps e s w (e.drop r) (s.setO r (some x)) w ∧ Loose W0 M0 (e.drop r) w (e.fp r) := by
  obtain ⟨hR, hF, hP⟩ := hG
  have hlive : ∀ q : Ref, q.r = r → Live s q → Live (s.setO r (some x)) q := fun q hq hl => by
    subst hq
    obtain ⟨o', h1, h2⟩ := hl
    rw [ho] at h1
    cases h1
    refine ⟨_, setO_objs _ _ _, fun t2 l2 ver2 nver2 dep2 pin2 he => ?_⟩
    rcases hx with ⟨cs, rfl, rfl⟩ | ⟨t, l, ver, nver, pin, rfl, rfl⟩
    · cases he
    · cases he
      have h2 := h2 _ _ _ _ _ _ rfl
      revert h2; cases q.p <;> (simp only [NV.kill]; omega)
  have hinf : ∀ q : Ref, q.r = r → Live s q → ∀ t2 l2, refInfo (s.setO r (some x)) q = some ⟨t2, l2⟩ → q.p = none ∧ refInfo s q = some ⟨t2, l2⟩ := fun q hq hl t2 l2 hi => by
    subst hq
    obtain ⟨o', h1, h2⟩ := hl
    rw [ho] at h1
    cases h1
    rcases hx with ⟨cs, rfl, rfl⟩ | ⟨t, l, ver, nver, pin, rfl, rfl⟩
    · unfold refInfo at hi; rw [setO_objs] at hi; cases hi
    · have h2 := h2 _ _ _ _ _ _ rfl
      cases hp : q.p with
      | none =>
        refine ⟨rfl, ?_⟩
        unfold refInfo at hi ⊢
        rw [setO_objs] at hi
        rw [ho]
        simp only [hp] at hi ⊢
        exact hi
      | some ic =>
        unfold refInfo at hi
        rw [setO_objs] at hi
        simp only [hp] at hi h2
        rw [if_neg (NV.has_kill (by omega))] at hi
        cases hi
  obtain ⟨h1, h2, h3⟩ := RelG.upd (e' := e.drop r) (x := x) (G' := fun r' => G r' ∨ r' = r) hR hF Loose.none (fun r' h => ⟨fun x => x.resolve_right h, .inl⟩) ⟨fun _ _ => rfl, fun _ _ => rfl, fun r' b h => ⟨fun x => x.2, fun x => ⟨h, x⟩⟩⟩ (fun _ h => h) (fun _ h => .inl h) (Nat.le_refl _) (fun _ _ _ _ => rfl) rfl rfl (Oth.refl _)
    (fun b h => absurd rfl h.1)
    (fun q rng v hq h => ⟨hlive q hq h.1, h.2.1, fun t l hi => by
      obtain ⟨hp, hi⟩ := hinf q hq h.1 t l hi
      obtain ⟨A, c, k1, k2⟩ := h.2.2 t l hi
      refine ⟨A, c, ?_, k2⟩
      unfold RefAt at *
      simp only [hp] at *
      exact k1⟩)
    (fun q row col v hq h => ⟨hlive q hq h.1, h.2.1, (fun cs hc hz => by
      rw [hq, setO_objs] at hc
      rcases hx with ⟨cs', rfl, rfl⟩ | ⟨t, l, ver, nver, pin, rfl, rfl⟩
      · exact h.2.2.1 cs' (by rw [hq]; exact ho) hz
      · cases hc), fun t l hi => by
      obtain ⟨hp, hi⟩ := hinf q hq h.1 t l hi
      obtain ⟨A, c, c2, k1, k2⟩ := h.2.2.2 t l hi
      refine ⟨A, c, c2, ?_, k2⟩
      unfold RefAt at *
      simp only [hp] at *
      exact k1⟩)
    (fun v h => ⟨⟨_, setO_objs _ _ _⟩, h.2.1, fun kt et l hm => by
      rw [setO_objs] at hm
      rcases hx with ⟨cs', rfl, rfl⟩ | ⟨t, l, ver, nver, pin, rfl, rfl⟩ <;> cases hm⟩) (fun _ b hb => hb.1 rfl) (fun _ => by
      rcases hx with ⟨cs', rfl, rfl⟩ | ⟨t, l, ver, nver, pin, rfl, rfl⟩
      · exact .inl ⟨_, rfl⟩
      · exact .inr ⟨_, _, _, _, _, rfl⟩)
    (fun hg t2 l2 ver2 nver2 dep2 pin2 he => by
      rcases hx with ⟨cs', rfl, rfl⟩ | ⟨t, l, ver, nver, pin, rfl, rfl⟩
      · cases he
      · cases he
        have hng : ¬ G r := fun hg => by
          rcases hR.lent r hg with ⟨cs, hx⟩ | ⟨_, _, _, _, _, hx⟩ <;> rw [ho] at hx <;> cases hx
        obtain ⟨vals, F, hA⟩ := hR.objs _ _ hng ho
        refine ⟨hA.hc, fun hc => ?_⟩
        obtain ⟨b, off, cs, el, h1, h2, h3, h4⟩ := hA.hblk hc
        exact ⟨b, off, cs, el, h1, h3, h4⟩)
  refine ⟨⟨h3 fun hg => absurd (.inr rfl) hg, h2, hP.upd (fun _ _ => rfl) (fun _ _ => rfl) ⟨fun t2 l2 ver2 nver2 dep2 he => (by
    rcases hx with ⟨cs', rfl, rfl⟩ | ⟨t, l, ver, nver, pin, rfl, rfl⟩
    · cases he
    · cases he; exact hP.arr _ _ _ _ _ _ ho), fun cs2 a he hv => (by
    rcases hx with ⟨cs', rfl, rfl⟩ | ⟨t, l, ver, nver, pin, rfl, rfl⟩
    · exact hP.var _ _ _ ho hv
    · cases he)⟩⟩, h1, fun b hb => hR.disK _ _ hb, fun r' b hb h => h.1 (hR.dis _ _ _ h.2 hb), fun b hb => hR.lt b (.inr ⟨_, hb⟩), fun b hb => hF.own _ _ hb⟩
theorem Loose.or {S S' : Nat → Prop} (h : Loose W0 M0 e w S) (h' : Loose W0 M0 e w S') : Loose W0 M0 e w fun b => S b ∨ S' b :=
  ⟨fun b hb => hb.elim (h.notK b) (h'.notK b), fun r b hb => hb.elim (h.notFp r b) (h'.notFp r b), fun b hb => hb.elim (h.lt b) (h'.lt b), fun b hb => hb.elim (h.own b) (h'.own b)⟩
theorem Loose.of {S S' : Nat → Prop} (h : Loose W0 M0 e w S) (hs : ∀ b, S' b → S b) : Loose W0 M0 e w S' :=
  ⟨fun b hb => h.notK b (hs b hb), fun r b hb => h.notFp r b (hs b hb), fun b hb => h.lt b (hs b hb), fun b hb => h.own b (hs b hb)⟩
theorem Loose.drop {S : Nat → Prop} (h : Loose W0 M0 e w S) (r : Nat) : Loose W0 M0 (e.drop r) w S := ⟨h.notK, fun r' b hb x => h.notFp r' b hb x.2, h.lt, h.own⟩

/-- 'moveC' in a state some of whose objects are lent. -/
theorem moveC_okG (hG : GoodG W0 M0 G e s tm w) {S0 : Nat → Prop} (hS : Loose W0 M0 e w S0) {c : C T} {u : Value} (hc : RelC e s w c u) {k : D T.U → Bool → M T α} (h : Rn Ok (moveC c k) s a s') :
    ∃ d own s1 e1 S1, Rn Ok (k d own) s1 a s' ∧ GoodG W0 M0 G e1 s1 tm w ∧ Keeps e s w e1 s1 w ∧ Loose W0 M0 e1 w (fun b => S0 b ∨ S1 b) ∧ (∀ b, S0 b → ¬ S1 b) ∧ e1.K = e.K ∧ s1.regs = s.regs ∧ (∀ r, ¬ r ∈ rootC c → s1.objs r = s.objs r) ∧
      (∀ r b, ¬ r ∈ rootC c → e.fp r b → e1.fp r b) ∧ e1.adr = e.adr ∧ e1.cap = e.cap ∧ (own = true → OwnD T w d u S1) ∧ (own = false → RepD T w e.K d u) := by
  have hS' : Loose W0 M0 e w (fun b => S0 b ∨ False) := hS.of fun b hb => hb.resolve_right id
  unfold moveC at h
  split at h
  · exact ⟨_, false, s, e, fun _ => False, h, hG, .refl, hS', fun _ _ h => h, rfl, rfl, fun _ _ => rfl, fun _ _ _ h => h, rfl, rfl, fun h => (by cases h), fun _ => hc⟩
  · exact ⟨_, false, s, e, fun _ => False, h, hG, .refl, hS', fun _ _ h => h, rfl, rfl, fun _ _ => rfl, fun _ _ _ h => h, rfl, rfl, fun h => (by cases h), fun _ => hc⟩
  · rename_i x hx hx2
    exact ⟨_, true, s, e, fun _ => False, h, hG, .refl, hS', fun _ _ h => h, rfl, rfl, fun _ _ => rfl, fun _ _ _ h => h, rfl, rfl, fun _ => (by
      cases hc with
      | bool b => exact .bool _ _
      | int k n => exact .int _ _ _
      | str s => exact .str _ _
      | nil => exact .nil _
      | arr t l => exact absurd rfl (hx t l)
      | fn t x => exact absurd rfl (hx2 t x)), fun h => (by cases h)⟩
  · obtain ⟨A, rfl, hr⟩ := hc
    exact ⟨_, false, s, e, fun _ => False, h, hG, .refl, hS', fun _ _ h => h, rfl, rfl, fun _ _ => rfl, fun _ _ _ h => h, rfl, rfl, fun h => (by cases h), fun _ => hr⟩
  · rename_i f caps
    obtain ⟨hfb, h⟩ := rn_cond h
    rw [Nat.blt_eq] at hfb
    split at h
    · rename_i cs hcs
      split at h
      · rename_i x hx
        exact ⟨_, false, s, e, fun _ => False, h, hG, .refl, hS', fun _ _ h => h, rfl, rfl, fun _ _ => rfl, fun _ _ _ h => h, rfl, rfl, fun h => (by cases h), fun _ => fnD_rep hfb hc hcs x⟩
      · exact (rn_fail h).elim
    · exact (rn_fail h).elim
  · rename_i q t0 rng ex
    have h := rn_getO h
    split at h
    · rename_i t l ver nver ho hp
      obtain ⟨h1, h⟩ := rn_cond h
      obtain ⟨l', h2, h⟩ := rn_cut h
      have h := rn_setO h
      have hng := hG.rel.notLent ho
      obtain ⟨k1, k2, k3⟩ := hG.kill ho hng
      obtain ⟨vals, F, hA⟩ := hG.rel.objs _ _ hng ho
      have hi : refInfo s q = some ⟨t, l⟩ := by unfold refInfo; simp only [ho, hp]; rw [if_pos (nbeq h1)]
      obtain ⟨A, cc, hat, hsl⟩ := hc.2.2 _ _ hi
      unfold RefAt at hat
      simp only [hp] at hat
      obtain ⟨rfl, rfl⟩ := hat
      have hown : OwnD T w (.arr t l) (.slice (e.adr q.r) l.length (e.cap q.r)) (e.fp q.r) := (OwnD.arr_iff e.K).2 ⟨_, _, vals, F, rfl, hA⟩
      refine ⟨_, true, _, e.drop q.r, e.fp q.r, h, k1, k2, (hS.drop _).or k3, fun b hb hb' => hS.notFp _ _ hb hb', rfl, rfl, fun r hr => setO_ne _ _ fun h => hr (by simp [rootC, h]), fun r b hr h => ⟨fun h => hr (by simp [rootC, h]), h⟩, rfl, rfl, fun _ => hown.cut h2 hsl, fun h => (by cases h)⟩
    · exact (rn_fail h).elim
  · exact (rn_fail h).elim
theorem moveCs_okG : ∀ {cs : List (C T)} {vs : List Value} {e : Env} {s : St T} (hG : GoodG W0 M0 G e s tm w) {S0 : Nat → Prop} (hS : Loose W0 M0 e w S0) (hc : RelCs e s w cs vs) {k : List (D T.U) → Bool → M T α} (h : Rn Ok (moveCs cs k) s a s'),
    ∃ (ds : List (D T.U)) (own : Bool) (s1 : St T) (e1 : Env) (S1 : Nat → Prop) (F : Nat → Nat → Prop), Rn Ok (k ds own) s1 a s' ∧ GoodG W0 M0 G e1 s1 tm w ∧ Keeps e s w e1 s1 w ∧ Loose W0 M0 e1 w (fun b => S0 b ∨ S1 b) ∧ (∀ b, S0 b → ¬ S1 b) ∧ e1.K = e.K ∧ s1.regs = s.regs ∧ (∀ r, ¬ r ∈ rootCs cs → s1.objs r = s.objs r) ∧
      (∀ r b, ¬ r ∈ rootCs cs → e.fp r b → e1.fp r b) ∧ e1.adr = e.adr ∧ e1.cap = e.cap ∧ Moved T w e.K ds vs own F ∧ (∀ j b, F j b → S1 b) ∧ (∀ i j b, F i b → F j b → i = j)
  | [], vs, e, s, hG, S0, hS, hc, k, h => by
    have hl := hc.1
    simp at hl
    subst hl
    exact ⟨[], true, s, e, fun _ => False, fun _ _ => False, h, hG, .refl, hS.of fun b hb => hb.resolve_right id, fun _ _ h => h, rfl, rfl, fun _ _ => rfl, fun _ _ _ h => h, rfl, rfl, ⟨rfl, fun j d v hd => by simp at hd⟩, fun _ _ h => h.elim, fun _ _ _ h => h.elim⟩
  | c :: cs, [], e, s, hG, S0, hS, hc, k, h => by have := hc.1; simp at this
  | c :: cs, v :: vs, e, s, hG, S0, hS, hc, k, h => by
    obtain ⟨h1, h2⟩ := hc.tail
    obtain ⟨d, own, s1, e1, S1, g, g1, g2, g3, g4, g5, g6, g7, g8, g8a, g8c, g9, g10⟩ := moveC_okG hG hS h1 h
    obtain ⟨ds, owns, s2, e2, S2, F, r, r1, r2, r3, r4, r5, r6, r7, r8, r8a, r8c, r9, r10, r11⟩ := moveCs_okG g1 g3 (g2.cs h2) g
    refine ⟨d :: ds, own && owns, s2, e2, fun b => S1 b ∨ S2 b, fun j b => match j with | 0 => S1 b | j + 1 => F j b, r, r1, g2.trans r2, r3.of (fun b hb => by rcases hb with h | h | h; exact .inl (.inl h); exact .inl (.inr h); exact .inr h),
      fun b hb hb' => hb'.elim (g4 b hb) (r4 b (.inl hb)), r5.trans g5, r6.trans g6, fun r hr => ?_, fun r b hr h => ?_, r8a.trans g8a, r8c.trans g8c, ⟨by have := r9.1; simp [this], fun j x u hx hu => ?_⟩, fun j b hb => ?_, fun i j b hb hb' => ?_⟩
    · simp only [rootCs, List.mem_append, not_or] at hr
      rw [r7 r hr.2, g7 r hr.1]
    · simp only [rootCs, List.mem_append, not_or] at hr
      exact r8 r b hr.2 (g8 r b hr.1 h)
    · cases j with
      | zero =>
        simp only [List.getElem?_cons_zero, Option.some.injEq] at hx hu
        subst hx; subst hu
        cases own with
        | true => exact .inl (g9 rfl)
        | false => exact .inr ⟨rfl, g10 rfl⟩
      | succ j =>
        simp only [List.getElem?_cons_succ] at hx hu
        rcases r9.2 j x u hx hu with h | ⟨h, h'⟩
        · exact .inl h
        · exact .inr ⟨by simp [h], by rw [g5] at h'; exact h'⟩
    · cases j with
      | zero => exact .inl hb
      | succ j => exact .inr (r10 j b hb)
    · cases i with
      | zero =>
        cases j with
        | zero => rfl
        | succ j => exact absurd (r10 j b hb') (r4 b (.inr hb))
      | succ i =>
        cases j with
        | zero => exact absurd (r10 i b hb) (r4 b (.inr hb'))
        | succ j => rw [r11 i j b hb hb']
theorem Moved.toOwn {K : Nat → Prop} {ds : List (D T.U)} {vs : List Value} {F : Nat → Nat → Prop} {S : Nat → Prop} (h : Moved T w K ds vs true F) (hF : ∀ j b, F j b → S b) (hd : ∀ i j b, F i b → F j b → i = j) : OwnDs T w ds vs S :=
  ⟨h.1, F, fun j d v h1 h2 => h.own h1 h2, hF, hd⟩

/-! ### What is only read -/
/-- Blocks that never change, and those of some objects. -/
def Env.RO (e : Env) (ro : List Nat) : Nat → Prop := fun b => e.K b ∨ ∃ r, r ∈ ro ∧ e.fp r b
theorem ref_repG (hR : RelG G e s tm w) {q : Ref} (hq : ¬ G q.r) {rng : Option (Nat × Nat)} {v : Value} (hr : RelRef e s w q rng v) {t : Nat} {l : List (T.U t)} (hi : refInfo s q = some ⟨t, l⟩)
    (hd : (q.p = none → ∃ ver nver dep pin, s.objs q.r = some (.arr t l ver nver dep pin) ∧ depView dep = true) ∧ NoHole s q) :
    ∃ A c, RepD T w (e.RO [q.r]) (.arr t l) (.slice A l.length c) ∧ SlOf A c l.length (T.size t) rng v := by
  obtain ⟨A, c, hat, hsl⟩ := hr.2.2 t l hi
  refine ⟨A, c, ?_, hsl⟩
  unfold RefAt at hat
  cases hp : q.p with
  | none =>
    simp only [hp] at hat
    obtain ⟨rfl, rfl⟩ := hat
    obtain ⟨ver, nver, dep, pin, ho, hv⟩ := hd.1 hp
    obtain ⟨vals, F, hA⟩ := hR.objs _ _ hq ho
    exact (hA.rep hv).mono (fun b hb => hb.imp id fun x => ⟨_, by simp, x⟩) fun _ _ => rfl
  | some ic =>
    obtain ⟨i, col⟩ := ic
    simp only [hp] at hat
    obtain ⟨t3, l3, ver3, nver3, dep3, pin3, b3, off3, n3, k1, k2, k3, k4⟩ := hat
    obtain ⟨_, hi0, hn⟩ := info_nonempty hp k1 hi
    obtain ⟨vals, F, hA⟩ := hR.objs _ _ hq k1
    have hsub := hA.hsub i col _ hi0 hn
    have hcell := hA.vals_at k3 hi0 hn
    rw [k4] at hcell
    have hown : OwnD T w (.arr t l) (vals i col) (F i col) := by
      cases dep3 with
      | all => exact hsub
      | upto m => exact hsub.elim (fun x => x.2) fun x => by have : i < m := k2; omega
      | hole m => exact hsub.elim (fun x => absurd x.1 (hd.2 _ _ hp _ _ _ _ _ _ k1)) id
    have hrep := hown.rep
    simp only [Option.some.injEq] at hcell
    rw [← hcell] at hrep
    have hn3 : n3 = l.length := by
      obtain ⟨A', c', vals', F', he, hA'⟩ := (OwnD.arr_iff e.K).1 hown
      rw [he] at hcell
      simp only [Value.slice.injEq] at hcell
      exact hcell.2.1
    subst hn3
    exact hrep.mono (fun b hb => .inr ⟨_, by simp, (hA.hF i col b hb).1⟩) fun _ _ => rfl
theorem viewC_okG {c : C T} {u : Value} (hc : RelC e s w c u) {k : D T.U → M T α} (h : Rn Ok (viewC c k) s a s') :
    ∃ d, Rn Ok (k d) s a s' ∧ ∀ {G : Nat → Prop}, RelG G e s tm w → (∀ r, r ∈ rootC c → ¬ G r) → RepD T w (e.RO (rootC c)) d u := by
  unfold viewC at h
  split at h
  · exact ⟨_, h, fun _ _ => hc.mono (fun b hb => .inl hb) fun _ _ => rfl⟩
  · obtain ⟨A, rfl, hr⟩ := hc
    exact ⟨_, h, fun _ _ => hr.mono (fun b hb => .inl hb) fun _ _ => rfl⟩
  · rename_i q t0 rng ex
    obtain ⟨t', l, h1, h2, h⟩ := rn_refView h
    obtain ⟨l', h3, h⟩ := rn_cut h
    refine ⟨_, h, fun hR hq => ?_⟩
    obtain ⟨A, c, h4, h5⟩ := ref_repG hR (hq q.r (by simp [rootC])) hc h1 h2
    exact h4.cut h3 h5
  · exact (rn_fail h).elim
theorem viewCs_okG : ∀ {cs : List (C T)} {vs : List Value} (hc : RelCs e s w cs vs) {k : List (D T.U) → M T α} (h : Rn Ok (viewCs cs k) s a s'),
    ∃ ds, Rn Ok (k ds) s a s' ∧ ∀ {G : Nat → Prop}, RelG G e s tm w → (∀ r, r ∈ rootCs cs → ¬ G r) → RepDs T w (e.RO (rootCs cs)) ds vs
  | [], vs, hc, k, h => ⟨[], h, fun _ _ => by have := hc.1; exact ⟨by simpa using this, fun j d v hd => by simp at hd⟩⟩
  | c :: cs, [], hc, k, h => by have := hc.1; simp at this
  | c :: cs, v :: vs, hc, k, h => by
    obtain ⟨h1, h2⟩ := hc.tail
    obtain ⟨d, h, h3⟩ := viewC_okG (tm := tm) h1 h
    obtain ⟨ds, h, h4⟩ := viewCs_okG h2 h
    refine ⟨_, h, fun hR hq => ?_⟩
    have k3 := h3 hR fun r hr => hq r (by simp [rootCs, hr])
    have k4 := h4 hR fun r hr => hq r (by simp [rootCs, hr])
    refine RepDs.cons (k3.mono (fun b hb => hb.imp id fun ⟨r, hr, x⟩ => ⟨r, by simp [rootCs, hr], x⟩) fun _ _ => rfl) ⟨k4.1, fun j d v hd hv => (k4.2 j d v hd hv).mono (fun b hb => hb.imp id fun ⟨r, hr, x⟩ => ⟨r, by simp [rootCs, hr], x⟩) fun _ _ => rfl⟩
end
end Go.Sm
end

section
set_option linter.unusedVariables false
namespace Go.Sm
variable {T : Tbl} {α : Type}
theorem memb_iff {r : Nat} {l : List Nat} : memb r l = true ↔ r ∈ l := by
  unfold memb
  rw [List.any_eq_true]
  exact ⟨fun ⟨x, h, e⟩ => by rw [Nat.eq_of_beq_eq_true e]; exact h, fun h => ⟨r, h, beq_self r⟩⟩
theorem memb_not {r : Nat} {l : List Nat} (h : (!memb r l) = true) : ¬ r ∈ l := fun x => by rw [memb_iff.2 x] at h; cases h
theorem apartL_iff {a b : List Nat} (h : apartL a b = true) : ∀ r ∈ a, ¬ r ∈ b := by
  unfold apartL at h
  rw [List.all_eq_true] at h
  exact fun r hr => memb_not (h r hr)
theorem Env.RO_mono {e e1 : Env} {ro ro' : List Nat} (hK : ∀ b, e.K b → e1.K b) (hf : ∀ r b, r ∈ ro → e.fp r b → e1.fp r b) (hr : ∀ r, r ∈ ro → r ∈ ro') : ∀ b, e.RO ro b → e1.RO ro' b :=
  fun b hb => hb.imp (hK b) fun ⟨r, h1, h2⟩ => ⟨r, hr r h1, hf r b h1 h2⟩
theorem RepDs.mono {w : World} {K K' : Nat → Prop} {ds : List (D T.U)} {vs : List Value} (hK : ∀ b, K b → K' b) (h : RepDs T w K ds vs) : RepDs T w K' ds vs := ⟨h.1, fun j d v hd hv => (h.2 j d v hd hv).mono hK fun _ _ => rfl⟩
theorem PtrRo.mono {w : World} {K K' : Nat → Prop} {t : Nat} {x : T.U t} {v : Value} (hK : ∀ b, K b → K' b) (h : PtrRo T w K t x v) : PtrRo T w K' t x v := by
  obtain ⟨b, off, vals, e1, e2⟩ := h
  exact ⟨b, off, vals, e1, fun j d hj => by obtain ⟨h1, h2, h3⟩ := e2 j d hj; exact ⟨hK b h1, h2, h3.mono hK fun _ _ => rfl⟩⟩
theorem CapRo.mono {w : World} {K K' : Nat → Prop} {a : A T} {v : Value} (hK : ∀ b, K b → K' b) (h : CapRo T w K a v) : CapRo T w K' a v := by
  unfold CapRo at *
  split at h
  · exact RepDs.mono hK h
  · exact PtrRo.mono hK h
  · exact h.elim
theorem ArgRo.mono {w : World} {K K' : Nat → Prop} {a : A T} {v : Value} (hK : ∀ b, K b → K' b) (h : ArgRo T w K a v) : ArgRo T w K' a v := by
  unfold ArgRo at *
  split at h
  · obtain ⟨vs, e1, e2⟩ := h; exact ⟨vs, e1, RepDs.mono hK e2⟩
  · exact RepDs.mono hK h
  · exact PtrRo.mono hK h
  · exact h
  · exact h
  · rcases h with ⟨h0, vs, e1, e2, e3⟩ | ⟨h0, e1, b, e2, e3⟩
    · exact .inl ⟨h0, vs, e1, e2, fun j c u h1 h2 => (e3 j c u h1 h2).mono hK⟩
    · exact .inr ⟨h0, e1, b, e2, hK b e3⟩
theorem ArgRw.mono {w : World} {K K' : Nat → Prop} {m : Mode} {a : A T} {v : Value} {S : Nat → Prop} (hK : ∀ b, K b → K' b) (h : ArgRw T w K m a v S) : ArgRw T w K' m a v S := by
  unfold ArgRw at *
  split at h
  · exact h
  · exact h
  · exact h
  · exact h
  · exact h
  · exact h
  · obtain ⟨b, arr, el, h1, h2, h3, h4⟩ := h; exact ⟨b, arr, el, h1, h2, h3, RepDs.mono hK h4⟩
  · exact h.elim
theorem ArgsOk.mono {w : World} {K K' : Nat → Prop} {ms : List Mode} {as : List (A T)} {vs : List Value} {S : Nat → Prop} (hK : ∀ b, K b → K' b) (h : ArgsOk T w K ms as vs S) : ArgsOk T w K' ms as vs S := by
  induction h with
  | nil => exact .nil
  | ro h1 _ ih => exact .ro (h1.mono hK) ih
  | rw h1 _ h3 ih => exact .rw (h1.mono hK) ih h3

section
variable {Ok : Nat → List (A T) → Res T → Prop} {s s' : St T} {a : α} {P : Program} {e e' : Env} {w w' W0 : World} {M0 : Gh} {tm : Array Value} {G : Nat → Prop}

theorem ptrView_ok (hT : TblOk P T) {el : Nat} {c : C T} {u : Value} (hc : RelC e s w c u) {k : T.U el → List Nat → M T α} (h : Rn Ok (ptrView el c k) s a s') :
    ∃ x ro, Rn Ok (k x ro) s a s' ∧ ∀ {G : Nat → Prop}, RelG G e s tm w → (∀ r, r ∈ ro → ¬ G r) → PtrRo T w (e.RO ro) el x u := by
  unfold ptrView at h
  split at h
  · rename_i t x col
    have hX := rn_cond h
    clear h
    obtain ⟨h0, h⟩ := hX
    have h0 := nbeq h0
    subst h0
    have hX := rn_withU h
    clear h
    obtain ⟨rfl, h⟩ := hX
    refine ⟨_, _, h, fun _ _ => ?_⟩
    obtain ⟨b, off, vals, rfl, h2⟩ := hc
    exact ⟨b, off, vals, rfl, fun j d hj => by obtain ⟨k1, k2, k3⟩ := h2 j d hj; exact ⟨.inl k1, k2, k3.mono (fun b hb => .inl hb) fun _ _ => rfl⟩⟩
  · rename_i q row col
    replace h := rn_getO h
    split at h
    · rename_i cs ho
      have hX := rn_cond h
      clear h
      obtain ⟨h0, h⟩ := hX
      simp only [Bool.and_eq_true] at h0
      have hr0 := nbeq h0.1
      have hfit := nble h0.2
      obtain ⟨b, hb, rfl⟩ := hc.2.2.1 cs ho hr0
      have hrel : ∀ {G : Nat → Prop}, RelG G e s tm w → ¬ G q.r → ∃ arr el', w.heap[b]? = some (cellsE arr el') ∧ e.fp q.r b ∧ RelCs e s w cs arr.toList := fun hR hg => by
        obtain ⟨b', arr, el', g1, g2, g3, g4⟩ := hR.objs _ _ hg ho
        rw [hb] at g1
        simp only [Option.some.injEq, Addr.mk.injEq] at g1
        obtain ⟨rfl, _⟩ := g1
        exact ⟨arr, el', g3, g2, g4⟩
      -- the values come with the relation
      by_cases hex : ∃ arr el', w.heap[b]? = some (cellsE arr el') ∧ RelCs e s w cs arr.toList
      · obtain ⟨arr, el', g3, g4⟩ := hex
        have hal := g4.1
        have hct : RelCs e s w (takeAt cs col (T.size el)) (takeAt arr.toList col (T.size el)) := by
          refine ⟨by rw [takeAt_length, takeAt_length, hal], fun j c u h1 h2 => ?_⟩
          have hj : j < T.size el := by have := (List.getElem?_eq_some_iff.1 h1).1; rw [takeAt_length] at this; omega
          rw [takeAt_get _ _ _ _ hj] at h1 h2
          exact g4.2 _ _ _ h1 h2
        have hX := viewCs_okG (tm := tm) hct h
        clear h
        obtain ⟨ds, h, h1⟩ := hX
        split at h
        · rename_i x hx
          have hdx := hT.get _ _ _ hx
          refine ⟨_, _, h, fun hR hg => ?_⟩
          have h2 := (h1 hR fun r hr => hg r (by simp [hr])).fix el
          rw [← hdx] at h2
          obtain ⟨arr', el2, g5, g6, g7⟩ := hrel hR (hg q.r (by simp))
          refine ⟨b, col, fun j => (takeAt arr.toList col (T.size el)).getD j (.tuple #[]), rfl, fun j d hj => ?_⟩
          have hjl : j < (takeAt arr.toList col (T.size el)).length := by rw [h2.1]; exact (List.getElem?_eq_some_iff.1 hj).1
          have hv : (takeAt arr.toList col (T.size el))[j]? = some ((takeAt arr.toList col (T.size el)).getD j (.tuple #[])) := by rw [List.getD_eq_getElem?_getD, List.getElem?_eq_getElem hjl]; rfl
          have hjs : j < T.size el := by rw [takeAt_length] at hjl; omega
          refine ⟨.inr ⟨q.r, by simp, g6⟩, ?_, (h2.2 j d _ hj hv).mono (fun b hb => hb.imp id fun ⟨r, hr, x⟩ => ⟨r, by simp [hr], x⟩) fun _ _ => rfl⟩
          rw [takeAt_get _ _ _ _ hjs] at hv
          simp only [World.cell?, g3]
          simpa using hv
        · exact (rn_fail h).elim
      · -- no state of the kind that is asked for: nothing to show, but the run goes on all the same
        have hrun : ∀ {cs : List (C T)} {k : List (D T.U) → M T α}, Rn Ok (viewCs cs k) s a s' → ∃ ds, Rn Ok (k ds) s a s' := by
          intro cs
          induction cs with
          | nil => intro k h; exact ⟨_, h⟩
          | cons c cs ih =>
            intro k h
            have hv : ∀ {k : D T.U → M T α}, Rn Ok (viewC c k) s a s' → ∃ d, Rn Ok (k d) s a s' := by
              intro k h
              unfold viewC at h
              split at h
              · exact ⟨_, h⟩
              · exact ⟨_, h⟩
              · obtain ⟨t', l, h1, h2, h⟩ := rn_refView h
                obtain ⟨l', h3, h⟩ := rn_cut h
                exact ⟨_, h⟩
              · exact (rn_fail h).elim
            obtain ⟨d, h⟩ := hv h
            obtain ⟨ds, h⟩ := ih h
            exact ⟨_, h⟩
        obtain ⟨ds, h⟩ := hrun h
        split at h
        · rename_i x hx
          refine ⟨_, _, h, fun hR hg => ?_⟩
          obtain ⟨arr', el2, g5, g6, g7⟩ := hrel hR (hg q.r (by simp))
          exact absurd ⟨arr', el2, g5, g7⟩ hex
        · exact (rn_fail h).elim
    · rename_i t l ver nver dep pin ho hp
      have hX := rn_cond h
      clear h
      obtain ⟨h0, h⟩ := hX
      simp only [Bool.and_eq_true] at h0
      have hver := nbeq h0.1
      have hc0 := nbeq h0.2
      subst hc0
      have hX := rn_must h
      clear h
      obtain ⟨hrow, h⟩ := hX
      have hX := rn_cond h
      clear h
      obtain ⟨hf, h⟩ := hX
      have hX := rn_withU h
      clear h
      obtain ⟨rfl, h⟩ := hX
      refine ⟨_, _, h, fun hR hg => ?_⟩
      have hi : refInfo s q = some ⟨t, l⟩ := by unfold refInfo; simp only [ho, hp]; rw [if_pos hver]
      obtain ⟨b, off, c, hat, rfl⟩ := hc.2.2.2 _ _ hi
      unfold RefAt at hat
      simp only [hp] at hat
      obtain ⟨had, rfl⟩ := hat
      obtain ⟨vals, F, hA⟩ := hR.objs _ _ (hg q.r (by simp)) ho
      obtain ⟨b', off', cs, el', e1, e2, e3, e4⟩ := hA.hblk (Nat.lt_of_lt_of_le (Nat.lt_of_le_of_lt (Nat.zero_le _) hrow) hA.hc)
      rw [← had] at e1
      simp only [Option.some.injEq, Addr.mk.injEq] at e1
      obtain ⟨rfl, rfl, _⟩ := e1
      refine ⟨b, off + row * T.size t, vals row, by simp, fun j d hj => ?_⟩
      have hj' : (Go.Sm.row T t l row)[j]? = some d := hj
      obtain ⟨b2, off2, k1, k2⟩ := hA.hcell row j d hrow hj'
      rw [← had] at k1
      simp only [Option.some.injEq, Addr.mk.injEq] at k1
      obtain ⟨rfl, rfl, _⟩ := k1
      exact ⟨.inr ⟨q.r, by simp, e2⟩, k2, (hA.hsub row j d hrow hj').flat (flat_row hT hf hj)⟩
    · exact (rn_fail h).elim
  · exact (rn_fail h).elim
theorem roC_ok (hT : TblOk P T) {ty : Nat} {c : C T} {u : Value} (hc : RelC e s w c u) {k : A T → List Nat → M T α} (h : Rn Ok (roC ty c k) s a s') :
    ∃ x ro, Rn Ok (k x ro) s a s' ∧ (c ≠ .nptr → (∃ ds, x = .val false ds) ∨ ∃ t y, x = .ptr t y) ∧ ∀ {G : Nat → Prop}, RelG G e s tm w → (∀ r, r ∈ ro → ¬ G r) → ArgRo T w (e.RO ro) x u := by
  unfold roC at h
  split at h
  · rename_i el hty
    split at h
    · exact ⟨_, _, h, fun hn => absurd rfl hn, fun _ _ => hc⟩
    · obtain ⟨x, ro, h, h1⟩ := ptrView_ok (tm := tm) hT hc h
      exact ⟨_, _, h, fun _ => .inr ⟨_, _, rfl⟩, fun hR hg => h1 hR hg⟩
  · obtain ⟨d, h, h1⟩ := viewC_okG (tm := tm) hc h
    exact ⟨_, _, h, fun _ => .inl ⟨_, rfl⟩, fun hR hg => (RepDs.cons (h1 hR hg) ⟨rfl, fun j d v hd => by simp at hd⟩).fix ty⟩
theorem capsM_ok (hT : TblOk P T) : ∀ {ts : List Nat} {cs : List (C T)} {us : List Value} (hl : us.length = cs.length) (hc : ∀ (j : Nat) (c : C T) (u : Value), cs[j]? = some c → us[j]? = some u → RelC e s w c u) {k : List (A T) → List Nat → M T α} (h : Rn Ok (capsM ts cs k) s a s'),
    ∃ as ro, Rn Ok (k as ro) s a s' ∧ ∀ {G : Nat → Prop}, RelG G e s tm w → (∀ r, r ∈ ro → ¬ G r) → us.length = as.length ∧ ∀ (j : Nat) (c : A T) (u : Value), as[j]? = some c → us[j]? = some u → CapRo T w (e.RO ro) c u
  | [], [], us, hl, hc, k, h => ⟨[], [], h, fun _ _ => ⟨hl, fun j c u hj => by simp at hj⟩⟩
  | [], c :: cs, us, hl, hc, k, h => (rn_fail h).elim
  | t :: ts, [], us, hl, hc, k, h => (rn_fail h).elim
  | t :: ts, c :: cs, [], hl, hc, k, h => by simp at hl
  | t :: ts, c :: cs, u :: us, hl, hc, k, h => by
    have h1 : c ≠ .nptr ∧ Rn Ok (roC t c fun a ro => capsM ts cs fun as ro' => k (a :: as) (ro ++ ro')) s a s' := by
      unfold capsM at h
      split at h
      · exact (rn_fail h).elim
      · rename_i hne
        exact ⟨fun h => hne h, h⟩
    obtain ⟨x, ro, h2, h3, h4⟩ := roC_ok (tm := tm) hT (hc 0 c u rfl rfl) h1.2
    obtain ⟨as, ro', h5, h6⟩ := capsM_ok hT (by simpa using hl) (fun j c u h h' => hc (j + 1) c u (by simpa using h) (by simpa using h')) h2
    refine ⟨_, _, h5, fun hR hg => ?_⟩
    have g1 := h4 hR fun r hr => hg r (by simp [hr])
    obtain ⟨g2, g3⟩ := h6 hR fun r hr => hg r (by simp [hr])
    have m1 : ∀ b, e.RO ro b → e.RO (ro ++ ro') b := Env.RO_mono (fun _ h => h) (fun _ _ _ h => h) fun r hr => by simp [hr]
    have m2 : ∀ b, e.RO ro' b → e.RO (ro ++ ro') b := Env.RO_mono (fun _ h => h) (fun _ _ _ h => h) fun r hr => by simp [hr]
    refine ⟨by simp [g2], fun j c' u' hj hu => ?_⟩
    cases j with
    | zero =>
      simp at hj hu
      subst hj; subst hu
      rcases h3 h1.1 with ⟨ds, rfl⟩ | ⟨t', y, rfl⟩
      · exact RepDs.mono m1 g1
      · exact PtrRo.mono m1 g1
    | succ j => exact (g3 j c' u' (by simpa using hj) (by simpa using hu)).mono m2

theorem RelCs.cons {c : C T} {cs : List (C T)} {v : Value} {vs : List Value} (h : RelC e s w c v) (k : RelCs e s w cs vs) : RelCs e s w (c :: cs) (v :: vs) :=
  ⟨by simp [k.1], fun j x u hx hu => by
    cases j with
    | zero => simp at hx hu; subst hx; subst hu; exact h
    | succ j => exact k.2 j x u (by simpa using hx) (by simpa using hu)⟩
/-! ### What is lent -/
def LentCs : List (C T) → List (D T.U) → Prop
  | [], [] => True
  | .own _ _ none _ :: cs, .arr _ _ :: ds => LentCs cs ds
  | .d .nil :: cs, .arr _ _ :: ds => LentCs cs ds
  | .d d :: cs, d' :: ds => d = d' ∧ d.isArr = false ∧ LentCs cs ds
  | _, _ => False
/-- What a row leads to is lent. -/
theorem GoodG.hole (hG : GoodG W0 M0 G e s tm w) {r t i col : Nat} {l : List (T.U t)} {ver : Nat} {nver : NV} {pin : Bool} (ho : s.objs r = some (.arr t l ver nver .all pin)) (hi : i < l.length) {d : D T.U} (hd : (row T t l i)[col]? = some d)
    {b0 off0 : Nat} (had : e.adr r = some ⟨b0, off0, none⟩) {v : Value} (hv : w.cell? ⟨b0, off0 + i * T.size t + col, none⟩ = some v) :
    ∃ e1 S, GoodG W0 M0 G e1 (s.setO r (some (.arr t l ver nver (.hole i) pin))) tm w ∧ Keeps e s w e1 (s.setO r (some (.arr t l ver nver (.hole i) pin))) w ∧ e1.K = e.K ∧ Loose W0 M0 e1 w S ∧ OwnD T w d v S ∧
      (∀ b, S b → e.fp r b) ∧ (∀ r' b, e1.fp r' b → e.fp r' b) ∧ (∀ r' b, r' ≠ r → e.fp r' b → e1.fp r' b) := by
  have hng := hG.rel.notLent ho
  obtain ⟨vals, F, hA⟩ := hG.rel.objs _ _ hng ho
  have hvv : v = vals i col := by
    have := hA.vals_at had hi hd
    rw [hv] at this
    exact Option.some.inj this
  have hown : OwnD T w d v (F i col) := by rw [hvv]; exact hA.hsub i col d hi hd
  let e1 : Env := { e with fp := fun r' b => e.fp r' b ∧ ¬ (r' = r ∧ F i col b) }
  have hrefI : ∀ q : Ref, q.r = r → refInfo (s.setO r (some (.arr t l ver nver (.hole i) pin))) q = refInfo s q := fun q hq => by
    subst hq
    unfold refInfo
    rw [setO_objs, ho]
  have hat : ∀ q : Ref, q.r = r → ∀ A c, RefAt e s w q A c → RefAt e1 (s.setO r (some (.arr t l ver nver (.hole i) pin))) w q A c := fun q hq A c h => by
    subst hq
    unfold RefAt at *
    cases hp : q.p with
    | none => simp only [hp] at *; exact h
    | some ic =>
      simp only [hp] at *
      obtain ⟨t1, l1, ver1, nver1, dep1, pin1, b, off, n, h1, h2, h3, h4⟩ := h
      rw [ho] at h1
      cases h1
      exact ⟨_, _, _, _, _, _, b, off, n, setO_objs _ _ _, trivial, h3, h4⟩
  have hlive : ∀ q : Ref, q.r = r → Live s q → Live (s.setO r (some (.arr t l ver nver (.hole i) pin))) q := fun q hq hl => by
    subst hq
    obtain ⟨o, h1, h2⟩ := hl
    have h2 := h2 _ _ _ _ _ _ (Option.some.inj (h1.symm.trans ho))
    exact ⟨_, setO_objs _ _ _, fun _ _ _ _ _ _ hx => by cases hx; exact h2⟩
  obtain ⟨k1, k2, k3⟩ := RelG.upd (e' := e1) (w' := w) (x := .arr t l ver nver (.hole i) pin) hG.rel hG.fr Loose.none (r := r) (fun _ _ => Iff.rfl) ⟨fun _ _ => rfl, fun _ _ => rfl, fun r' b h => ⟨fun x => x.1, fun x => ⟨x, fun y => h y.1⟩⟩⟩ (fun _ h => h) (fun _ h => .inl h) (Nat.le_refl _) (fun _ _ _ _ => rfl) rfl rfl (Oth.refl _)
    (fun b hb => ⟨.inl hb.1, hG.rel.lt b (.inr ⟨_, hb.1⟩)⟩)
    (fun q rng v hq h => by
      refine ⟨hlive q hq h.1, h.2.1, fun t' l' hi' => ?_⟩
      rw [hrefI q hq] at hi'
      obtain ⟨A, c, h1, h2⟩ := h.2.2 t' l' hi'
      exact ⟨A, c, hat q hq A c h1, h2⟩)
    (fun q row col v hq h => by
      refine ⟨hlive q hq h.1, h.2.1, (fun cs hc => by rw [hq, setO_objs] at hc; cases hc), fun t' l' hi' => ?_⟩
      rw [hrefI q hq] at hi'
      obtain ⟨A, c, c2, h1, h2⟩ := h.2.2.2 t' l' hi'
      exact ⟨A, c, c2, hat q hq _ _ h1, h2⟩)
    (fun v h => relMap_arr (t := t) (l := l) (ver := ver) (nver := nver) (dep := .all) (pin := pin) h) (fun hg => absurd hg hng) (fun hg => absurd hg hng) (fun hg => absurd hg hng)
  refine ⟨e1, F i col, ⟨k3 fun _ => ⟨vals, fun i' j' b => ¬ (i' = i ∧ j' = col) ∧ F i' j' b, ?_⟩, k2, hG.pin.upd (fun _ _ => rfl) (fun _ _ => rfl) ⟨fun _ _ _ _ _ h => (by cases h; exact hG.pin.arr _ _ _ _ _ _ ho), fun _ _ h => (by cases h)⟩⟩, k1, rfl, ⟨fun b hb => hG.rel.disK _ _ (hA.hF _ _ _ hb).1, fun r' b hb h => ?_, fun b hb => hG.rel.lt b (.inr ⟨_, (hA.hF _ _ _ hb).1⟩), fun b hb => hG.fr.own _ _ (hA.hF _ _ _ hb).1⟩, hown,
    fun b hb => (hA.hF _ _ _ hb).1, fun r' b h => h.1, fun r' b hr h => ⟨h, fun x => hr x.1⟩⟩
  · refine ⟨hA.hc, hA.hA, fun hp => ?_, hA.hcell, fun i' j' d' hi' hd' => ?_, fun i' j' b hb => ?_, fun i' j' i2 j2 b h1 h2 => hA.hdis _ _ _ _ _ h1.2 h2.2⟩
    · obtain ⟨b, off, cs, el, e1, e2, e3, e4⟩ := hA.hblk hp
      exact ⟨b, off, cs, el, e1, ⟨e2, fun ⟨_, hF⟩ => (hA.hF _ _ _ hF).2 _ _ e1 rfl⟩, e3, e4⟩
    · have h1 : OwnD T w d' (vals i' j') (F i' j') := hA.hsub i' j' d' hi' hd'
      by_cases h : i' = i
      · cases hd2 : d'.isArr with
        | true => exact .inl ⟨h, hd2, h1.header hd2⟩
        | false => exact .inr (flat_own h1.rep hd2)
      · exact .inr (OwnD.wider h1 fun b hb => ⟨fun x => h x.1, hb⟩)
    · exact ⟨⟨(hA.hF _ _ _ hb.2).1, fun ⟨_, hF⟩ => hb.1 (hA.hdis _ _ _ _ _ hb.2 hF)⟩, (hA.hF _ _ _ hb.2).2⟩
  · have hr' := hG.rel.dis _ _ _ h.1 (hA.hF _ _ _ hb).1
    exact h.2 ⟨hr', hb⟩
theorem lendC_ok (hG : GoodG W0 M0 G e s tm w) {S0 : Nat → Prop} (hS : Loose W0 M0 e w S0) {p : D T.U} {c : C T} {u : Value} (hc : RelC e s w c u) {rw : List Nat} {k : D T.U → List Nat → M T α} (h : Rn Ok (lendC p c rw k) s a s') :
    ∃ d rw' s1 e1 G1 S1, Rn Ok (k d rw') s1 a s' ∧ GoodG W0 M0 G1 e1 s1 tm w ∧ Keeps e s w e1 s1 w ∧ Loose W0 M0 e1 w (fun b => S0 b ∨ S1 b) ∧ (∀ b, S0 b → ¬ S1 b) ∧ e1.K = e.K ∧ s1.regs = s.regs ∧ (∀ r, G1 r → G r ∨ r ∈ rootC c) ∧ (∀ r, G1 r → G r ∨ r ∈ rw') ∧ (∀ r, r ∈ rw → r ∈ rw') ∧
      (∀ r b, ¬ r ∈ rw' → e.fp r b → e1.fp r b) ∧ OwnD T w d u S1 ∧ (∀ cs ds, LentCs cs ds → LentCs (c :: cs) (d :: ds)) := by
  have hS' : Loose W0 M0 e w (fun b => S0 b ∨ False) := hS.of fun b hb => hb.resolve_right id
  unfold lendC at h
  split at h
  · split at h
    · exact ⟨_, rw, s, e, G, fun _ => False, h, hG, .refl, hS', fun _ _ h => h, rfl, rfl, fun r h => .inl h, fun r h => .inl h, fun _ h => h, fun _ _ _ h => h, (by cases hc; exact OwnD.ofNil (.nil _) _), fun cs ds h => h⟩
    · exact (rn_fail h).elim
  · rename_i q t0 ex
    replace h := rn_getO h
    split at h
    · rename_i t l ver nver pin ho hp
      obtain ⟨h0, h⟩ := rn_cond h
      simp only [Bool.and_eq_true] at h0
      have hver := nbeq h0.1
      replace h := rn_setO h
      have hng := hG.rel.notLent ho
      obtain ⟨vals, F, hA⟩ := hG.rel.objs _ _ hng ho
      obtain ⟨k1, k2, k3⟩ := hG.lend ho (.inr ⟨t, l, ver, nver, pin, rfl, rfl⟩)
      have hi : refInfo s q = some ⟨t, l⟩ := by unfold refInfo; simp only [ho, hp]; rw [if_pos hver]
      obtain ⟨A, cc, hat, hsl⟩ := hc.2.2 _ _ hi
      unfold RefAt at hat
      simp only [hp] at hat
      obtain ⟨rfl, rfl⟩ := hat
      have hown : OwnD T w (.arr t l) (.slice (e.adr q.r) l.length (e.cap q.r)) (e.fp q.r) := (OwnD.arr_iff e.K).2 ⟨_, _, vals, F, rfl, hA⟩
      have hu : u = .slice (e.adr q.r) l.length (e.cap q.r) := hsl
      refine ⟨_, _, _, _, _, e.fp q.r, h, k1, k2, (hS.drop _).or k3, fun b hb hb' => hS.notFp _ _ hb hb', rfl, rfl, fun r hr => hr.imp id fun h => by simp [rootC, h], fun r hr => hr.imp id fun h => by simp [h], fun r hr => by simp [hr], fun r b hr h => ⟨fun h => hr (by simp [h]), h⟩, by rw [hu]; exact hown, fun cs ds h => h⟩
    · rename_i t l ver nver pin i c ho hp
      obtain ⟨h0, h⟩ := rn_cond h
      simp only [Bool.and_eq_true] at h0
      have hver := nbeq h0.1.1
      obtain ⟨hi, h⟩ := rn_must h
      split at h
      · rename_i t2 l2 hd
        replace h := rn_setO h
        have hinf : refInfo s q = some ⟨t2, l2⟩ := by
          unfold refInfo
          simp only [ho, hp]
          rw [if_pos (NV.has_of hver), if_pos hi]
          change (match (Go.Sm.row T t l i)[c]? with | some (.arr t' l') => some (⟨t', l'⟩ : (t : Nat) × List (T.U t)) | _ => none) = _
          rw [show (Go.Sm.row T t l i)[c]? = some (.arr t2 l2) from hd]
        obtain ⟨A, cc, hat, hsl⟩ := hc.2.2 _ _ hinf
        unfold RefAt at hat
        simp only [hp] at hat
        obtain ⟨t3, l3, ver3, nver3, dep3, pin3, b, off, n3, k1, k2, k3, k4⟩ := hat
        rw [ho] at k1
        cases k1
        obtain ⟨e1, S1, q1, q2, q3, q4, q5, q6, q7, q8⟩ := hG.hole ho hi (d := .arr t2 l2) hd k3 k4
        have hu : u = .slice A l2.length cc := hsl
        have hn : n3 = l2.length := by
          obtain ⟨A', c', _, _, he, _⟩ := (OwnD.arr_iff e.K).1 q5
          simp only [Value.slice.injEq] at he
          exact he.2.1
        refine ⟨_, _, _, e1, G, S1, h, q1, q2, ?_, fun b hb hb' => hS.notFp _ _ hb (q6 b hb'), q3, rfl, fun r hr => .inl hr, fun r hr => .inl hr, fun r hr => by simp [hr], fun r b hr h => q8 r b (fun x => hr (by simp [x])) h, by rw [hu, ← hn]; exact q5, fun cs ds h => h⟩
        exact (⟨fun b hb => by rw [q3]; exact hS.notK b hb, fun r b hb h => hS.notFp r b hb (q7 r b h), hS.lt, hS.own⟩ : Loose W0 M0 e1 w S0).or q4
      · exact (rn_fail h).elim
    · exact (rn_fail h).elim
  · exact (rn_fail h).elim
  · exact (rn_fail h).elim
  · exact (rn_fail h).elim
  · exact (rn_fail h).elim
  · rename_i d hd0 hd hd2
    exact ⟨d, rw, s, e, G, fun _ => False, h, hG, .refl, hS', fun _ _ h => h, rfl, rfl, fun r h => .inl h, fun r h => .inl h, fun _ h => h, fun _ _ _ h => h, by
      cases hc with
      | bool b => exact .bool _ _
      | int k n => exact .int _ _ _
      | str s => exact .str _ _
      | nil => exact .nil _
      | arr t l => exact absurd rfl (hd t l)
      | fn t x => exact absurd rfl (hd2 t x), fun cs ds hl => by
      cases d with
      | arr t l => exact absurd rfl (hd t l)
      | fn t x => exact absurd rfl (hd2 t x)
      | nil => exact absurd rfl hd0
      | _ => exact ⟨rfl, rfl, hl⟩⟩
  · exact (rn_fail h).elim
theorem OwnDs.fix {ds : List (D T.U)} {vs : List Value} {S : Nat → Prop} (h : OwnDs T w ds vs S) (t : Nat) : OwnDs T w (T.fix t ds) vs S := by
  obtain ⟨hl, F, g1, g2, g3⟩ := h
  refine ⟨by unfold Tbl.fix; rw [fixNil_length]; exact hl, F, fun j d v hd hv => ?_, g2, g3⟩
  obtain ⟨d0, h1, rfl | ⟨rfl, t', rfl⟩⟩ := fixNil_get _ _ _ _ hd
  · exact g1 j _ v h1 hv
  · exact (g1 j _ v h1 hv).ofNil t'
theorem OwnDs.cons {d : D T.U} {ds : List (D T.U)} {v : Value} {vs : List Value} {S1 S2 S : Nat → Prop} (h : OwnD T w d v S1) (k : OwnDs T w ds vs S2) (hd : ∀ b, S1 b → ¬ S2 b) (h1 : ∀ b, S1 b → S b) (h2 : ∀ b, S2 b → S b) : OwnDs T w (d :: ds) (v :: vs) S := by
  obtain ⟨hl, F, g1, g2, g3⟩ := k
  refine ⟨by simp [hl], fun j b => match j with | 0 => S1 b | j + 1 => F j b, fun j x u hx hu => ?_, fun j b hb => ?_, fun i j b hb hb' => ?_⟩
  · cases j with
    | zero => simp at hx hu; subst hx; subst hu; exact h
    | succ j => exact g1 j x u (by simpa using hx) (by simpa using hu)
  · cases j with
    | zero => exact h1 b hb
    | succ j => exact h2 b (g2 j b hb)
  · cases i with
    | zero =>
      cases j with
      | zero => rfl
      | succ j => exact absurd (g2 j b hb') (hd b hb)
    | succ i =>
      cases j with
      | zero => exact absurd (g2 i b hb) (hd b hb')
      | succ j => rw [g3 i j b hb hb']
theorem OwnDs.nil {S : Nat → Prop} : OwnDs T w [] [] S := ⟨rfl, fun _ _ => False, fun j d v hd => by simp at hd, fun _ _ h => h.elim, fun _ _ _ h => h.elim⟩
theorem lendCs_ok : ∀ {ps : List (D T.U)} {cs : List (C T)} {us : List Value} {e : Env} {s : St T} {G : Nat → Prop} (hG : GoodG W0 M0 G e s tm w) {S0 : Nat → Prop} (hS : Loose W0 M0 e w S0) (hc : RelCs e s w cs us) {rw : List Nat} {k : List (D T.U) → List Nat → M T α} (h : Rn Ok (lendCs ps cs rw k) s a s'),
    ∃ ds rw' s1 e1 G1 S1, Rn Ok (k ds rw') s1 a s' ∧ GoodG W0 M0 G1 e1 s1 tm w ∧ Keeps e s w e1 s1 w ∧ Loose W0 M0 e1 w (fun b => S0 b ∨ S1 b) ∧ (∀ b, S0 b → ¬ S1 b) ∧ e1.K = e.K ∧ s1.regs = s.regs ∧ (∀ r, G1 r → G r ∨ r ∈ rootCs cs) ∧ (∀ r, G1 r → G r ∨ r ∈ rw') ∧ (∀ r, r ∈ rw → r ∈ rw') ∧
      (∀ r b, ¬ r ∈ rw' → e.fp r b → e1.fp r b) ∧ OwnDs T w ds us S1 ∧ LentCs cs ds
  | ps, [], us, e, s, G, hG, S0, hS, hc, rw, k, h => by
    have h : Rn Ok (k [] rw) s a s' := by cases ps <;> exact h
    have hl := hc.1
    simp at hl
    subst hl
    exact ⟨[], rw, s, e, G, fun _ => False, h, hG, .refl, hS.of fun b hb => hb.resolve_right id, fun _ _ h => h, rfl, rfl, fun _ h => .inl h, fun _ h => .inl h, fun _ h => h, fun _ _ _ h => h, .nil, trivial⟩
  | _, c :: cs, [], e, s, G, hG, S0, hS, hc, rw, k, h => by have := hc.1; simp at this
  | [], c :: cs, u :: us, e, s, G, hG, S0, hS, hc, rw, k, h => (rn_fail h).elim
  | p :: ps, c :: cs, u :: us, e, s, G, hG, S0, hS, hc, rw, k, h => by
    obtain ⟨h1, h2⟩ := hc.tail
    obtain ⟨d, rw1, s1, e1, G1, S1, g, g1, g2, g3, g4, g5, g6, g7, g7a, g8, g9, g10, g11⟩ := lendC_ok hG hS h1 h
    obtain ⟨ds, rw2, s2, e2, G2, S2, r, r1, r2, r3, r4, r5, r6, r7, r7a, r8, r9, r10, r11⟩ := lendCs_ok g1 g3 (g2.cs h2) g
    refine ⟨d :: ds, rw2, s2, e2, G2, fun b => S1 b ∨ S2 b, r, r1, g2.trans r2, r3.of (fun b hb => by rcases hb with h | h | h; exact .inl (.inl h); exact .inl (.inr h); exact .inr h), fun b hb hb' => hb'.elim (g4 b hb) (r4 b (.inl hb)), r5.trans g5, r6.trans g6,
      fun r hr => ?_, fun r hr => ?_, fun r hr => r8 r (g8 r hr), fun r b hr h => r9 r b hr (g9 r b (fun x => hr (r8 r x)) h), OwnDs.cons g10 r10 (fun b hb hb' => r4 b (.inr hb) hb') (fun _ h => .inl h) (fun _ h => .inr h), g11 _ _ r11⟩
    · rcases r7 r hr with h | h
      · exact (g7 r h).imp id fun h => by simp [rootCs, h]
      · exact .inr (by simp [rootCs, h])
    · rcases r7a r hr with h | h
      · exact (g7a r h).imp id fun h => r8 r h
      · exact .inr h
end
end Go.Sm
end

section
set_option linter.unusedVariables false
namespace Go.Sm
variable {T : Tbl} {α : Type}
section
variable {Ok : Nat → List (A T) → Res T → Prop} {s s' : St T} {a : α} {P : Program} {e e' : Env} {w w' W0 : World} {M0 : Gh} {tm : Array Value} {G : Nat → Prop}

def ptrR : C T → List Nat
  | .ptr q _ _ => [q.r]
  | _ => []
/-- The objects that an argument lends. -/
def lentR : Mode → V T → List Nat
  | .rws, .one c => ptrR c ++ rootC c
  | .rws, .agg cs => rootCs cs
  | .rwp, .one (.ptr q _ _) => [q.r]
  | .rwv, .one (.ptr q _ _) => [q.r]
  | _, _ => []
def lentRs : List Mode → List (V T) → List Nat
  | m :: ms, v :: vs => lentR m v ++ lentRs ms vs
  | _, _ => []
def LentV : Mode → V T → A T → Prop
  | .rws, v, .pix _ _ i => (match v with
    | .one (.ptr _ row 0) => row = i
    | _ => False)
  | .rws, .one c, .val false ds => LentCs [c] ds
  | .rws, .agg cs, .val true ds => LentCs cs ds
  | .rws, _, _ => False
  | _, _, _ => True
def LentVs : List Mode → List (V T) → List (A T) → Prop
  | [], [], [] => True
  | m :: ms, v :: vs, a :: as => LentV m v a ∧ LentVs ms vs as
  | _, _, _ => False
theorem csD_rep {cs : List (C T)} {ds : List (D T.U)} (h : csD cs = some ds) {us : List Value} (hc : RelCs e s w cs us) : RepDs T w e.K ds us := by
  have := csD_get h
  subst this
  refine ⟨by simpa using hc.1, fun j d v hd hv => ?_⟩
  exact hc.2 j (.d d) v (by rw [List.getElem?_map, hd]; rfl) hv

theorem argM_ok (hT : TblOk P T) (hG : GoodG W0 M0 G e s tm w) {S0 : Nat → Prop} (hS : Loose W0 M0 e w S0) {ty : Nat} {m : Mode} {v : V T} {u : Value} (hv : RelV e s w v u) {rw : List Nat} (hGr : ∀ r, G r → r ∈ rw) {k : A T → List Nat → List Nat → M T α} (h : Rn Ok (argM ty m v rw k) s a s') :
    ∃ x ro rw' s1 e1 G1 S1, Rn Ok (k x ro rw') s1 a s' ∧ GoodG W0 M0 G1 e1 s1 tm w ∧ Keeps e s w e1 s1 w ∧ Loose W0 M0 e1 w (fun b => S0 b ∨ S1 b) ∧ (∀ b, S0 b → ¬ S1 b) ∧ e1.K = e.K ∧ s1.regs = s.regs ∧ (∀ r, G1 r → G r ∨ r ∈ lentR m v) ∧ (∀ r, G1 r → G r ∨ r ∈ rw') ∧ (∀ r, r ∈ rw → r ∈ rw') ∧
      (∀ r b, ¬ r ∈ rw' → e.fp r b → e1.fp r b) ∧ LentV m v x ∧ ((m = .ro ∧ (∀ b, ¬ S1 b) ∧ ((∀ r, r ∈ ro → ¬ G r) → ArgRo T w (e.RO ro) x u)) ∨ (m ≠ .ro ∧ ro = [] ∧ ArgRw T w e.K m x u S1)) := by
  have hS' : Loose W0 M0 e w (fun b => S0 b ∨ False) := hS.of fun b hb => hb.resolve_right id
  unfold argM at h
  split at h
  · -- functions
    rename_i f caps
    obtain ⟨us, hfv, hul, hus⟩ := hv
    cases hfb : Nat.blt f SLF with
    | false =>
      rw [hfb, cond_false] at h
      obtain ⟨hfp, h⟩ := rn_cond h
      have hfp := nble hfp
      obtain ⟨hlt3, h⟩ := rn_cond h
      rw [Nat.blt_eq] at hlt3
      refine ⟨_, _, _, s, e, G, fun _ => False, h, hG, .refl, hS', fun _ _ h => h, rfl, rfl, fun _ h => .inl h, fun _ h => .inl h, fun _ h => h, fun _ _ _ h => h, trivial, .inl ⟨rfl, fun _ h => h, fun hg => ?_⟩⟩
      rcases hfv with ⟨hlt, _⟩ | ⟨_, b, g, g0, g1, g2, g3, ⟨_, hlt, _⟩ | ⟨rfl, rfl⟩⟩ | ⟨e3, _⟩
      case inr.inr => exact absurd hlt3 (Nat.not_lt.2 e3)
      · exact absurd hlt (by simp only [SLF, SLP] at hfp ⊢; omega)
      · exact absurd hlt (Nat.not_lt.2 hfp)
      · exact .inr ⟨hfp, rfl, b, rfl, .inl g2⟩
    | true =>
    rw [hfb, cond_true] at h
    rw [Nat.blt_eq] at hfb
    have hfv := hfv.plain hfb
    subst hfv
    have hX := capsM_ok (tm := tm) hT hul (fun j c u h1 h2 => by
      have := hus j c u h1 h2
      cases c with
      | fn f' c' => exact this.elim
      | _ => simpa only [RelC] using this) h
    clear h
    obtain ⟨as, ro, h, h1⟩ := hX
    exact ⟨_, _, _, s, e, G, fun _ => False, h, hG, .refl, hS', fun _ _ h => h, rfl, rfl, fun _ h => .inl h, fun _ h => .inl h, fun _ h => h, fun _ _ _ h => h, trivial, .inl ⟨rfl, fun _ h => h, fun hg => .inl ⟨hfb, us, rfl, (h1 hG.rel hg).1, (h1 hG.rel hg).2⟩⟩⟩
  · rename_i c hne
    have hX := roC_ok (tm := tm) hT hv h
    clear h
    obtain ⟨x, ro, h, _, h1⟩ := hX
    exact ⟨_, _, _, s, e, G, fun _ => False, h, hG, .refl, hS', fun _ _ h => h, rfl, rfl, fun _ h => .inl h, fun _ h => .inl h, fun _ h => h, fun _ _ _ h => h, trivial, .inl ⟨rfl, fun _ h => h, fun hg => h1 hG.rel hg⟩⟩
  · rename_i cs
    obtain ⟨us, rfl, hc⟩ := hv
    have hX := viewCs_okG (tm := tm) hc h
    clear h
    obtain ⟨ds, h, h1⟩ := hX
    exact ⟨_, _, _, s, e, G, fun _ => False, h, hG, .refl, hS', fun _ _ h => h, rfl, rfl, fun _ h => .inl h, fun _ h => .inl h, fun _ h => h, fun _ _ _ h => h, trivial, .inl ⟨rfl, fun _ h => h, fun hg => ⟨us, rfl, (h1 hG.rel hg).fix ty⟩⟩⟩
  · rename_i c
    have hX := moveC_okG hG hS hv h
    clear h
    obtain ⟨d, own, s1, e1, S1, h, g1, g2, g3, g4, g5, g6, g7, g8, g9, g10, g11, g12⟩ := hX
    have hX := rn_cond h
    clear h
    obtain ⟨h0, h⟩ := hX
    subst h0
    exact ⟨_, _, _, s1, e1, G, S1, h, g1, g2, g3, g4, g5, g6, fun _ h => .inl h, fun _ h => .inl h, fun r hr => by simp [hr], fun r b hr h => g8 r b (fun h => hr (by simp [h])) h, trivial, .inr ⟨by simp, rfl, (OwnDs.cons (S1 := S1) (S2 := fun _ => False) (g11 rfl) .nil (fun _ _ h => h) (fun _ h => h) (fun _ h => h.elim)).fix ty⟩⟩
  · rename_i cs
    obtain ⟨us, rfl, hc⟩ := hv
    have hX := moveCs_okG hG hS hc h
    clear h
    obtain ⟨ds, own, s1, e1, S1, F, h, g1, g2, g3, g4, g5, g6, g7, g8, g9, g10, g11, g12, g13⟩ := hX
    have hX := rn_cond h
    clear h
    obtain ⟨h0, h⟩ := hX
    subst h0
    exact ⟨_, _, _, s1, e1, G, S1, h, g1, g2, g3, g4, g5, g6, fun _ h => .inl h, fun _ h => .inl h, fun r hr => by simp [hr], fun r b hr h => g8 r b (fun h => hr (by simp [h])) h, trivial, .inr ⟨by simp, rfl, ⟨us, rfl, (g11.toOwn g12 g13).fix ty⟩⟩⟩
  · rename_i q row
    split at h
    · rename_i el hty
      replace h := rn_getO h
      split at h
      · rename_i t l ver nver pin ho hp
        have hX := rn_cond h
        clear h
        obtain ⟨h0, h⟩ := hX
        simp only [Bool.and_eq_true] at h0
        have hver := nbeq h0.1.1
        have hX := rn_must h
        clear h
        obtain ⟨hrow, h⟩ := hX
        replace h := rn_setO h
        have hng := hG.rel.notLent ho
        obtain ⟨vals, F, hA⟩ := hG.rel.objs _ _ hng ho
        obtain ⟨k1, k2, k3⟩ := hG.lend ho (.inr ⟨t, l, ver, nver, pin, rfl, rfl⟩)
        have hi : refInfo s q = some ⟨t, l⟩ := by unfold refInfo; simp only [ho, hp]; rw [if_pos hver]
        obtain ⟨b0, off0, c0, hat, hu0⟩ := hv.2.2.2 _ _ hi
        unfold RefAt at hat
        simp only [hp] at hat
        obtain ⟨had, rfl⟩ := hat
        have hown : OwnD T w (.arr t l) (.slice (e.adr q.r) l.length (e.cap q.r)) (e.fp q.r) := (OwnD.arr_iff e.K).2 ⟨_, _, vals, F, rfl, hA⟩
        exact ⟨_, _, _, _, _, _, e.fp q.r, h, k1, k2, (hS.drop _).or k3, fun b hb hb' => hS.notFp _ _ hb hb', rfl, rfl, fun r hr => hr.imp id fun h => by simp [lentR, ptrR, h], fun r hr => hr.imp id fun h => by simp [h], fun r hr => by simp [hr], fun r b hr h => ⟨fun h => hr (by simp [h]), h⟩, rfl, .inr ⟨by simp, rfl, b0, off0, e.cap q.r, by simpa using hu0, hrow, by rw [had]; exact hown⟩⟩
      · exact (rn_fail h).elim
    · exact (rn_fail h).elim
  · rename_i c hnp
    have hX := lendCs_ok (cs := [c]) (us := [u]) hG hS (.cons hv ⟨rfl, fun j c u h => by simp at h⟩) h
    clear h
    obtain ⟨ds, rw1, s1, e1, G1, S1, h, g1, g2, g3, g4, g5, g6, g7, g7a, g8, g9, g10, g11⟩ := hX
    exact ⟨_, _, _, s1, e1, G1, S1, h, g1, g2, g3, g4, g5, g6, fun r hr => (g7 r hr).imp id fun h => by simp only [rootCs, List.append_nil] at h; simp [lentR, h], g7a, g8, g9, g11, .inr ⟨by simp, rfl, g10⟩⟩
  · rename_i cs
    obtain ⟨us, rfl, hc⟩ := hv
    have hX := lendCs_ok hG hS hc h
    clear h
    obtain ⟨ds, rw1, s1, e1, G1, S1, h, g1, g2, g3, g4, g5, g6, g7, g7a, g8, g9, g10, g11⟩ := hX
    exact ⟨_, _, _, s1, e1, G1, S1, h, g1, g2, g3, g4, g5, g6, g7, g7a, g8, g9, g11, .inr ⟨by simp, rfl, ⟨us, rfl, g10⟩⟩⟩
  · rename_i q
    split at h
    · rename_i el hty
      replace h := rn_getO h
      split at h
      · rename_i cs ho
        have hX := rn_cond h
        clear h
        obtain ⟨h0, h⟩ := hX
        simp only [Bool.and_eq_true] at h0
        have hng : ¬ G q.r := fun hg => memb_not h0.1 (hGr _ hg)
        have hqn := memb_not h0.2
        obtain ⟨b, arr, el', k1, k2, k3, k4⟩ := hG.rel.objs _ _ hng ho
        obtain ⟨b', hb', rfl⟩ := hv.2.2.1 cs ho rfl
        rw [k1] at hb'
        simp only [Option.some.injEq, Addr.mk.injEq] at hb'
        obtain ⟨rfl, _⟩ := hb'
        have hX := moveCs_okG hG hS k4 h
        clear h
        obtain ⟨ds, own, s1, e1, S1, F, h, g1, g2, g3, g4, g5, g6, g7, g8, g9, g10, g11, g12, g13⟩ := hX
        have hX := rn_cond h
        clear h
        obtain ⟨hown, h⟩ := hX
        subst hown
        split at h
        · rename_i x hx
          have hdx := hT.get _ _ _ hx
          replace g11 := g11.fix el
          rw [← hdx] at g11
          have ho1 : s1.objs q.r = some (.var cs) := (g7 _ hqn).trans ho
          have hb1 := g8 _ _ hqn k2
          obtain ⟨m1, m2, m3⟩ := g1.lend ho1 (.inl ⟨cs, rfl, rfl⟩)
          have hs1 : s1.setO q.r (some (.var cs)) = s1 := by
            cases s1 with
            | mk regs objs =>
              simp only [St.setO, St.mk.injEq, true_and]
              funext u
              by_cases hu : u = q.r
              · subst hu; simp only [beq_self, cond_true]; exact ho1.symm
              · simp only [beq_ne hu, cond_false]
          rw [hs1] at m1 m2
          refine ⟨_, _, _, s1, _, _, fun b' => S1 b' ∨ e1.fp q.r b', h, m1, g2.trans m2, ?_, fun b' hb' hb2 => hb2.elim (g4 b' hb') (fun h => g3.notFp _ _ (.inl hb') h), g5, g6, fun r hr => hr.imp id fun h => by simp [lentR, h], fun r hr => hr.imp id fun h => by simp [h], fun r hr => by simp [hr], fun r b' hr h => ⟨fun h => hr (by simp [h]), g8 r b' (fun h => hr (by simp [h])) h⟩, trivial, .inr ⟨by simp, rfl, ?_⟩⟩
          · exact ((g3.drop _).or m3).of fun b' hb' => by rcases hb' with h | h | h; exact .inl (.inl h); exact .inl (.inr h); exact .inr h
          · refine ⟨_, arr, el', rfl, .inr hb1, k3, ?_⟩
            exact g11.toOwn (fun j b' hb' => ⟨.inl (g12 j b' hb'), fun h => by subst h; exact g3.notFp _ _ (.inr (g12 j _ hb')) hb1⟩) g13
        · exact (rn_fail h).elim
      · exact (rn_fail h).elim
    · exact (rn_fail h).elim
  · rename_i q
    split at h
    · rename_i el hty
      replace h := rn_getO h
      split at h
      · rename_i cs ho
        have hX := rn_cond h
        clear h
        obtain ⟨h0, h⟩ := hX
        have hng : ¬ G q.r := fun hg => memb_not h0 (hGr _ hg)
        obtain ⟨b, arr, el', k1, k2, k3, k4⟩ := hG.rel.objs _ _ hng ho
        obtain ⟨b', hb', rfl⟩ := hv.2.2.1 cs ho rfl
        rw [k1] at hb'
        simp only [Option.some.injEq, Addr.mk.injEq] at hb'
        obtain ⟨rfl, _⟩ := hb'
        split at h
        · rename_i ds hds
          split at h
          · rename_i x hx
            have hdx := hT.get _ _ _ hx
            have hrep := (csD_rep hds k4).fix el
            rw [← hdx] at hrep
            obtain ⟨m1, m2, m3⟩ := hG.lend ho (.inl ⟨cs, rfl, rfl⟩)
            have hs1 : s.setO q.r (some (.var cs)) = s := by
              cases s with
              | mk regs objs =>
                simp only [St.setO, St.mk.injEq, true_and]
                funext u
                by_cases hu : u = q.r
                · subst hu; simp only [beq_self, cond_true]; exact ho.symm
                · simp only [beq_ne hu, cond_false]
            rw [hs1] at m1 m2
            exact ⟨_, _, _, s, _, _, e.fp q.r, h, m1, m2, (hS.drop _).or m3, fun b' hb' hb2 => hS.notFp _ _ hb' hb2, rfl, rfl, fun r hr => hr.imp id fun h => by simp [lentR, h], fun r hr => hr.imp id fun h => by simp [h], fun r hr => by simp [hr], fun r b' hr h => ⟨fun h => hr (by simp [h]), h⟩, trivial, .inr ⟨by simp, rfl, ⟨_, arr, el', rfl, k2, k3, hrep⟩⟩⟩
          · exact (rn_fail h).elim
        · exact (rn_fail h).elim
      · exact (rn_fail h).elim
    · exact (rn_fail h).elim
  · exact (rn_fail h).elim

/-- The registers of a list of arguments. -/
def RelVs (e : Env) (s : St T) (w : World) : List (V T) → List Value → Prop
  | [], [] => True
  | v :: vs, u :: us => RelV e s w v u ∧ RelVs e s w vs us
  | _, _ => False
theorem Keeps.vs (h : Keeps e s w e' s' w') : ∀ {vs : List (V T)} {us : List Value}, RelVs e s w vs us → RelVs e' s' w' vs us
  | [], [], _ => trivial
  | [], _ :: _, h => h.elim
  | _ :: _, [], h => h.elim
  | v :: vs, u :: us, hc => ⟨h.v hc.1, Keeps.vs h hc.2⟩
theorem argsM_ok (hT : TblOk P T) : ∀ {tys : List Nat} {ms : List Mode} {vs : List (V T)} {us : List Value} {e : Env} {s : St T} {G : Nat → Prop} (hG : GoodG W0 M0 G e s tm w) {S0 : Nat → Prop} (hS : Loose W0 M0 e w S0) (hv : RelVs e s w vs us) {rw : List Nat} (hGr : ∀ r, G r → r ∈ rw)
    {k : List (A T) → List Nat → List Nat → M T α} (h : Rn Ok (argsM tys ms vs rw k) s a s'),
    ∃ as ro rw' s1 e1 G1 S1, Rn Ok (k as ro rw') s1 a s' ∧ GoodG W0 M0 G1 e1 s1 tm w ∧ Keeps e s w e1 s1 w ∧ Loose W0 M0 e1 w (fun b => S0 b ∨ S1 b) ∧ (∀ b, S0 b → ¬ S1 b) ∧ e1.K = e.K ∧ s1.regs = s.regs ∧ (∀ r, G1 r → G r ∨ r ∈ lentRs ms vs) ∧ (∀ r, G1 r → G r ∨ r ∈ rw') ∧ (∀ r, r ∈ rw → r ∈ rw') ∧
      (∀ r b, ¬ r ∈ rw' → e.fp r b → e1.fp r b) ∧ LentVs ms vs as ∧ (∀ r, r ∈ ro → ¬ r ∈ rw') ∧ ArgsOk T w (e1.RO ro) ms as us S1
  | [], [], [], us, e, s, G, hG, S0, hS, hv, rw, hGr, k, h => by
    cases us with
    | cons _ _ => exact hv.elim
    | nil => exact ⟨[], [], rw, s, e, G, fun _ => False, h, hG, .refl, hS.of fun b hb => hb.resolve_right id, fun _ _ h => h, rfl, rfl, fun _ h => .inl h, fun _ h => .inl h, fun _ h => h, fun _ _ _ h => h, trivial, fun _ h => (by cases h), .nil⟩
  | [], [], _ :: _, _, _, _, _, _, _, _, _, _, _, _, h => (rn_fail h).elim
  | [], _ :: _, _, _, _, _, _, _, _, _, _, _, _, _, h => (rn_fail h).elim
  | _ :: _, [], _, _, _, _, _, _, _, _, _, _, _, _, h => (rn_fail h).elim
  | _ :: _, _ :: _, [], _, _, _, _, _, _, _, _, _, _, _, h => (rn_fail h).elim
  | t :: ts, m :: ms, v :: vs, us, e, s, G, hG, S0, hS, hv, rw, hGr, k, h => by
    cases us with
    | nil => exact hv.elim
    | cons u us =>
      obtain ⟨hv1, hv2⟩ := hv
      obtain ⟨x, ro, rw1, s1, e1, G1, S1, g, g1, g2, g3, g4, g5, g6, g7, g7a, g8, g9, g10, g11⟩ := argM_ok hT hG hS hv1 hGr h
      obtain ⟨as, ro', rw2, s2, e2, G2, S2, r, r1, r2, r3, r4, r5, r6, r7, r7a, r8, r9, r10, r12, r11⟩ := argsM_ok hT g1 g3 (g2.vs hv2) (fun r hr => (g7a r hr).elim (fun h => g8 r (hGr r h)) id) g
      clear h g
      obtain ⟨hap, r⟩ := rn_cond r
      have hap := apartL_iff hap
      have hro : ∀ r, r ∈ ro → ¬ G r := fun r hr hg => hap r hr (r8 r (g8 r (hGr r hg)))
      have hfp : ∀ r b, r ∈ ro → e.fp r b → e2.fp r b := fun r b hr hb => r9 r b (hap r hr) (g9 r b (fun h => hap r hr (r8 r h)) hb)
      have hKm : ∀ b, e.RO ro b → e2.RO (ro ++ ro') b := Env.RO_mono (fun b hb => by rw [r5, g5]; exact hb) hfp fun r hr => by simp [hr]
      have hKm2 : ∀ b, e2.RO ro' b → e2.RO (ro ++ ro') b := Env.RO_mono (fun _ h => h) (fun _ _ _ h => h) fun r hr => by simp [hr]
      rcases g11 with ⟨hm, hS1, hro1⟩ | ⟨hm, hro0, hrw⟩
      · subst hm
        refine ⟨x :: as, ro ++ ro', rw2, s2, e2, G2, S2, r, r1, g2.trans r2, r3.of (fun b hb => hb.imp .inl id), fun b hb => r4 b (.inl hb), r5.trans g5, r6.trans g6, fun r hr => ?_, fun r hr => ?_, fun r hr => r8 r (g8 r hr), fun r b hr h => r9 r b hr (g9 r b (fun h => hr (r8 r h)) h), ⟨g10, r10⟩, fun r hr => ?_, .ro ((hro1 hro).mono hKm) (r11.mono hKm2)⟩
        · rcases r7 r hr with h | h
          · exact (g7 r h).imp id fun h => by simp [lentRs, h]
          · exact .inr (by simp [lentRs, h])
        · rcases r7a r hr with h | h
          · exact (g7a r h).imp id fun h => r8 r h
          · exact .inr h
        · rcases List.mem_append.1 hr with h | h
          · exact hap r h
          · exact r12 r h
      · subst hro0
        refine ⟨x :: as, [] ++ ro', rw2, s2, e2, G2, fun b => S1 b ∨ S2 b, r, r1, g2.trans r2, r3.of (fun b hb => by rcases hb with h | h | h; exact .inl (.inl h); exact .inl (.inr h); exact .inr h), fun b hb hb' => hb'.elim (g4 b hb) (r4 b (.inl hb)), r5.trans g5, r6.trans g6, fun r hr => ?_, fun r hr => ?_, fun r hr => r8 r (g8 r hr), fun r b hr h => r9 r b hr (g9 r b (fun h => hr (r8 r h)) h), ⟨g10, r10⟩, fun r hr => r12 r hr, .rw (hrw.mono fun b hb => .inl (by rw [r5, g5]; exact hb)) r11 fun b hb hb' => r4 b (.inr hb) hb'⟩
        · rcases r7 r hr with h | h
          · exact (g7 r h).imp id fun h => by simp [lentRs, h]
          · exact .inr (by simp [lentRs, h])
        · rcases r7a r hr with h | h
          · exact (g7a r h).imp id fun h => r8 r h
          · exact .inr h
end
end Go.Sm
end

section
set_option linter.unusedVariables false
namespace Go.Sm
variable {T : Tbl} {α : Type}
section
variable {Ok : Nat → List (A T) → Res T → Prop} {s s' : St T} {a : α} {P : Program} {e e' : Env} {w w' W0 : World} {M0 : Gh} {tm : Array Value} {G : Nat → Prop}

theorem Loose.put {S S0 F : Nat → Prop} (h : Loose W0 M0 e w S) (hs : ∀ b, S0 b → S b) (hd : ∀ b, S0 b → ¬ F b) (r : Nat) (ad : Option Addr) (c : Nat) : Loose W0 M0 (e.put r ad c F) w S0 :=
  ⟨fun b hb => h.notK b (hs b hb), fun r' b hb x => by
    by_cases hr : r' = r
    · subst hr; rw [Env.put_fp] at x; exact hd b hb x
    · exact h.notFp r' b (hs b hb) ((((Env.put_upd e r ad c F).fp r' b hr)).1 x), fun b hb => h.lt b (hs b hb), fun b hb => h.own b (hs b hb)⟩
/-- A lent array comes back. -/
theorem GoodG.resume (hG : GoodG W0 M0 G e s tm w) {S F : Nat → Prop} (hS : Loose W0 M0 e w S) (hF : ∀ b, F b → S b) {r t : Nat} {l l' : List (T.U t)} {ver : Nat} {nver : NV} {dep : Dep} {pin : Bool} (ho : s.objs r = some (.arr t l ver nver dep pin))
    (hA : OwnD T w (.arr t l') (.slice (e.adr r) l.length (e.cap r)) F) :
    GoodG W0 M0 (fun r' => G r' ∧ r' ≠ r) (e.put r (e.adr r) (e.cap r) F) (s.setO r (some (.arr t l' ver nver.kill .all pin))) tm w ∧ Keeps e s w (e.put r (e.adr r) (e.cap r) F) (s.setO r (some (.arr t l' ver nver.kill .all pin))) w := by
  obtain ⟨A, c, vals, F2, he, hA⟩ := (OwnD.arr_iff e.K).1 hA
  simp only [Value.slice.injEq] at he
  obtain ⟨rfl, hl, rfl⟩ := he
  have hlive : ∀ q : Ref, q.r = r → Live s q → Live (s.setO r (some (.arr t l' ver nver.kill .all pin))) q ∧ ∀ t2 l2, refInfo (s.setO r (some (.arr t l' ver nver.kill .all pin))) q = some ⟨t2, l2⟩ → q.p = none ∧ ∃ e1 : t = t2, refInfo s q = some ⟨t, l⟩ ∧ e1 ▸ l' = l2 := fun q hq hlv => by
    subst hq
    obtain ⟨o, h1, h2⟩ := hlv
    have h2 := h2 _ _ _ _ _ _ (Option.some.inj (h1.symm.trans ho))
    refine ⟨⟨_, setO_objs _ _ _, fun _ _ _ _ _ _ hx => by cases hx; revert h2; cases q.p <;> (simp only [NV.kill]; omega)⟩, fun t2 l2 hi => ?_⟩
    unfold refInfo at hi
    rw [setO_objs] at hi
    cases hp : q.p with
    | none =>
      simp only [hp] at hi
      split at hi
      · rename_i hv
        simp only [Option.some.injEq, Sigma.mk.injEq] at hi
        obtain ⟨rfl, hi⟩ := hi
        cases hi
        refine ⟨rfl, rfl, ?_, rfl⟩
        unfold refInfo
        simp only [ho, hp]
        rw [if_pos hv]
      · cases hi
    | some ic =>
      simp only [hp] at hi h2
      rw [if_neg (NV.has_kill (by omega))] at hi
      cases hi
  obtain ⟨h1, h2, h3⟩ := RelG.upd (e' := e.put r (e.adr r) (e.cap r) F) (w' := w) (x := .arr t l' ver nver.kill .all pin) (G' := fun r' => G r' ∧ r' ≠ r) hG.rel hG.fr hS (fun r' h => ⟨fun x => x.1, fun x => ⟨x, h⟩⟩) (Env.put_upd ..) (fun _ h => h) (fun _ h => .inl h) (Nat.le_refl _) (fun _ _ _ _ => rfl) rfl rfl (Oth.refl _)
    (fun b hb => by rw [Env.put_fp] at hb; exact ⟨.inr (.inl (hF b hb)), hS.lt b (hF b hb)⟩)
    (fun q rng v hq h => by
      obtain ⟨k1, k2⟩ := hlive q hq h.1
      refine ⟨k1, h.2.1, fun t2 l2 hi => ?_⟩
      obtain ⟨hp, rfl, k3, rfl⟩ := k2 t2 l2 hi
      obtain ⟨A, c, k4, k5⟩ := h.2.2 _ _ k3
      refine ⟨A, c, ?_, hl ▸ k5⟩
      unfold RefAt at *
      simp only [hp, hq] at *
      rw [Env.put_adr, Env.put_cap]
      exact k4)
    (fun q row col v hq h => by
      obtain ⟨k1, k2⟩ := hlive q hq h.1
      refine ⟨k1, h.2.1, (fun cs hc => by rw [hq, setO_objs] at hc; cases hc), fun t2 l2 hi => ?_⟩
      obtain ⟨hp, rfl, k3, rfl⟩ := k2 t2 l2 hi
      obtain ⟨A, c, c2, k4, k5⟩ := h.2.2.2 _ _ k3
      refine ⟨A, c, c2, ?_, k5⟩
      unfold RefAt at *
      simp only [hp, hq] at *
      rw [Env.put_adr, Env.put_cap]
      exact k4)
    (fun v h => relMap_arr (t := t) (l := l) (ver := ver) (nver := nver) (dep := dep) (pin := pin) h) (fun h => absurd rfl h.2) (fun h => absurd rfl h.2) (fun h => absurd rfl h.2)
  exact ⟨⟨h3 fun _ => ⟨vals, F2, by rw [Env.put_adr, Env.put_cap, Env.put_fp_eq]; exact hA⟩, h2, hG.pin.upd (Env.put_upd ..).adr (Env.put_upd ..).cap ⟨fun _ _ _ _ _ he => (by
    cases he
    rw [Env.put_adr, Env.put_cap, ← hl]
    exact hG.pin.arr _ _ _ _ _ _ ho), fun _ _ h => (by cases h)⟩⟩, h1⟩
/-- What a row leads to comes back. -/
theorem GoodG.fill (hT : TblOk P T) (hG : GoodG W0 M0 G e s tm w) {S F : Nat → Prop} (hS : Loose W0 M0 e w S) (hF : ∀ b, F b → S b) {r t i c t2 : Nat} {l : List (T.U t)} {l2 l2' : List (T.U t2)} {ver : Nat} {nver : NV} {pin : Bool}
    (ho : s.objs r = some (.arr t l ver nver (.hole i) pin)) (hi : i < l.length) (hd : (row T t l i)[c]? = some (.arr t2 l2)) (hcnt : arrCount T t = 1) (hlen : l2'.length = l2.length) {b0 off0 : Nat} (had : e.adr r = some ⟨b0, off0, none⟩) {u : Value}
    (hcell : w.cell? ⟨b0, off0 + i * T.size t + c, none⟩ = some u) (hA : OwnD T w (.arr t2 l2') u F) {x : T.U t} (hx : T.dget t x = putAt (row T t l i) c [.arr t2 l2']) :
    GoodG W0 M0 G (e.put r (e.adr r) (e.cap r) fun b => e.fp r b ∨ F b) (s.setO r (some (.arr t (l.set i x) ver nver .all pin))) tm w ∧ Keeps e s w (e.put r (e.adr r) (e.cap r) fun b => e.fp r b ∨ F b) (s.setO r (some (.arr t (l.set i x) ver nver .all pin))) w := by
  have hng : ¬ G r := fun hg => by
    rcases hG.rel.lent r hg with ⟨cs, hx⟩ | ⟨_, _, _, _, _, hx⟩ <;> rw [ho] at hx <;> cases hx
  obtain ⟨vals, F0, hO⟩ := hG.rel.objs _ _ hng ho
  have hc1 : c < (row T t l i).length := (List.getElem?_eq_some_iff.1 hd).1
  have hput : ∀ j, (T.dget t x)[j]? = if j = c then some (.arr t2 l2') else (row T t l i)[j]? := fun j => by
    rw [hx, putAt_get _ _ _ (by simp; omega)]
    by_cases h : j = c
    · subst h; simp
    · rw [if_neg h]
      by_cases h2 : j < c
      · rw [if_pos h2]
      · rw [if_neg h2, if_neg (by simp; omega)]
  have hrow : ∀ j k, (row T t (l.set i x) j)[k]? = if j = i ∧ k = c then some (.arr t2 l2') else (row T t l j)[k]? := fun j k => by
    by_cases h : j = i
    · subst h
      rw [row_set _ _ _ _ hi, hput]
      by_cases h2 : k = c <;> simp [h2]
    · rw [row_set_ne _ _ _ _ _ h, if_neg fun x => h x.1]
  have hu : u = vals i c := by
    have := hO.vals_at had hi hd
    rw [hcell] at this
    exact Option.some.inj this
  have hlive : ∀ q : Ref, q.r = r → Live s q → Live (s.setO r (some (.arr t (l.set i x) ver nver .all pin))) q := fun q hq hl => by
    subst hq
    obtain ⟨o, h1, h2⟩ := hl
    have h2 := h2 _ _ _ _ _ _ (Option.some.inj (h1.symm.trans ho))
    exact ⟨_, setO_objs _ _ _, fun _ _ _ _ _ _ hx => by cases hx; exact h2⟩
  have hinf : ∀ q : Ref, q.r = r → ∀ t4 l4, refInfo (s.setO r (some (.arr t (l.set i x) ver nver .all pin))) q = some ⟨t4, l4⟩ → ∃ l5 : List (T.U t4), refInfo s q = some ⟨t4, l5⟩ ∧ l5.length = l4.length := fun q hq t4 l4 h => by
    subst hq
    unfold refInfo at h ⊢
    rw [setO_objs] at h
    rw [ho]
    cases hp : q.p with
    | none =>
      simp only [hp] at h ⊢
      split at h
      · rename_i hv
        rw [if_pos hv]
        simp only [Option.some.injEq, Sigma.mk.injEq] at h
        obtain ⟨rfl, h⟩ := h
        cases h
        exact ⟨_, rfl, by simp⟩
      · cases h
    | some ic =>
      obtain ⟨i', c'⟩ := ic
      simp only [hp] at h ⊢
      split at h
      · rename_i hv
        rw [if_pos hv]
        split at h
        · rename_i hlt
          rw [if_pos (by simpa using hlt)]
          rw [hrow i' c'] at h
          by_cases hic : i' = i ∧ c' = c
          · rw [if_pos hic] at h
            obtain ⟨rfl, rfl⟩ := hic
            simp only [Option.some.injEq, Sigma.mk.injEq] at h
            obtain ⟨rfl, h⟩ := h
            cases h
            rw [hd]
            exact ⟨_, rfl, hlen.symm⟩
          · rw [if_neg hic] at h
            exact ⟨_, h, rfl⟩
        · cases h
      · cases h
  have hat : ∀ q : Ref, q.r = r → ∀ A cc, RefAt e s w q A cc → RefAt (e.put r (e.adr r) (e.cap r) fun b => e.fp r b ∨ F b) (s.setO r (some (.arr t (l.set i x) ver nver .all pin))) w q A cc := fun q hq A cc h => by
    subst hq
    unfold RefAt at *
    cases hp : q.p with
    | none => simp only [hp] at *; rw [Env.put_adr, Env.put_cap]; exact h
    | some ic =>
      simp only [hp] at *
      obtain ⟨t1, l1, ver1, nver1, dep1, pin1, b, off, n, h1, h2, h3, h4⟩ := h
      rw [ho] at h1
      cases h1
      exact ⟨_, _, _, _, _, _, b, off, n, setO_objs _ _ _, trivial, by rw [Env.put_adr]; exact h3, h4⟩
  obtain ⟨h1, h2, h3⟩ := RelG.upd (e' := e.put r (e.adr r) (e.cap r) fun b => e.fp r b ∨ F b) (w' := w) (x := .arr t (l.set i x) ver nver .all pin) (G' := G) hG.rel hG.fr hS (fun r' h => Iff.rfl) (Env.put_upd ..) (fun _ h => h) (fun _ h => .inl h) (Nat.le_refl _) (fun _ _ _ _ => rfl) rfl rfl (Oth.refl _)
    (fun b hb => by
      rw [Env.put_fp] at hb
      rcases hb with hb | hb
      · exact ⟨.inl hb, hG.rel.lt b (.inr ⟨_, hb⟩)⟩
      · exact ⟨.inr (.inl (hF b hb)), hS.lt b (hF b hb)⟩)
    (fun q rng v hq h => ⟨hlive q hq h.1, h.2.1, fun t4 l4 hi4 => by
      obtain ⟨l5, k1, k2⟩ := hinf q hq t4 l4 hi4
      obtain ⟨A, cc, k3, k4⟩ := h.2.2 _ _ k1
      exact ⟨A, cc, hat q hq A cc k3, k2 ▸ k4⟩⟩)
    (fun q row col v hq h => ⟨hlive q hq h.1, h.2.1, (fun cs hc => by rw [hq, setO_objs] at hc; cases hc), fun t4 l4 hi4 => by
      obtain ⟨l5, k1, k2⟩ := hinf q hq t4 l4 hi4
      obtain ⟨b, off, cc, k3, k4⟩ := h.2.2.2 _ _ k1
      exact ⟨b, off, cc, hat q hq _ cc k3, k4⟩⟩)
    (fun v h => relMap_arr (t := t) (l := l) (ver := ver) (nver := nver) (dep := .hole i) (pin := pin) h) (fun hg => absurd hg hng) (fun hg => absurd hg hng) (fun hg => absurd hg hng)
  refine ⟨⟨h3 fun _ => ⟨vals, fun j k b => (¬ (j = i ∧ k = c) ∧ F0 j k b) ∨ (j = i ∧ k = c ∧ F b), ?_⟩, h2, hG.pin.upd (Env.put_upd ..).adr (Env.put_upd ..).cap ⟨fun _ _ _ _ _ he => (by
    cases he
    rw [Env.put_adr, Env.put_cap, List.length_set]
    exact hG.pin.arr _ _ _ _ _ _ ho), fun _ _ h => (by cases h)⟩⟩, h1⟩
  rw [Env.put_adr, Env.put_cap, Env.put_fp_eq]
  have hold : ∀ j k d, j < l.length → (row T t (l.set i x) j)[k]? = some d → ∃ d0, (row T t l j)[k]? = some d0 ∧ ((j = i ∧ k = c ∧ d = .arr t2 l2') ∨ (¬ (j = i ∧ k = c) ∧ d0 = d)) := fun j k d hj h => by
    rw [hrow] at h
    by_cases hic : j = i ∧ k = c
    · rw [if_pos hic] at h
      obtain ⟨rfl, rfl⟩ := hic
      exact ⟨_, hd, .inl ⟨rfl, rfl, (Option.some.inj h).symm⟩⟩
    · rw [if_neg hic] at h
      exact ⟨d, h, .inr ⟨hic, rfl⟩⟩
  refine ⟨by rw [List.length_set]; exact hO.hc, fun hne => hO.hA fun e => hne (by rw [e]; rfl), fun hp => ?_, fun j k d hj hd' => ?_, fun j k d hj hd' => ?_, fun j k b hb => ?_, fun j k j' k' b hb hb' => ?_⟩
  · obtain ⟨b, off, cs, el, e1, e2, e3, e4⟩ := hO.hblk hp
    exact ⟨b, off, cs, el, e1, .inl e2, e3, e4⟩
  · rw [List.length_set] at hj
    obtain ⟨d0, k1, _⟩ := hold j k d hj hd'
    exact hO.hcell j k d0 hj k1
  · rw [List.length_set] at hj
    obtain ⟨d0, k1, k2⟩ := hold j k d hj hd'
    show OwnD T w d (vals j k) _
    rcases k2 with ⟨rfl, rfl, rfl⟩ | ⟨hne, rfl⟩
    · rw [← hu]
      exact hA.wider fun b hb => .inr ⟨rfl, rfl, hb⟩
    · rcases hO.hsub j k d0 hj k1 with ⟨rfl, ha, _⟩ | h
      · exact absurd ⟨rfl, count_one hT hcnt _ k1 hd ha rfl⟩ hne
      · exact h.wider fun b hb => .inl ⟨hne, hb⟩
  · rcases hb with ⟨_, hb⟩ | ⟨_, _, hb⟩
    · exact ⟨.inl (hO.hF j k b hb).1, (hO.hF j k b hb).2⟩
    · refine ⟨.inr hb, fun b' off he heq => ?_⟩
      subst heq
      have hpos : 0 < e.cap r := Nat.lt_of_lt_of_le (Nat.lt_of_le_of_lt (Nat.zero_le _) hi) hO.hc
      obtain ⟨b2, off2, cs, el, e1, e2, _⟩ := hO.hblk hpos
      rw [he] at e1
      cases e1
      exact hS.notFp _ _ (hF _ hb) e2
  · rcases hb with ⟨hn, hb⟩ | ⟨rfl, rfl, hb⟩ <;> rcases hb' with ⟨hn', hb'⟩ | ⟨rfl, rfl, hb'⟩
    · exact hO.hdis _ _ _ _ _ hb hb'
    · exact absurd (hO.hF _ _ _ hb).1 (hS.notFp _ _ (hF _ hb'))
    · exact absurd (hO.hF _ _ _ hb').1 (hS.notFp _ _ (hF _ hb))
    · exact ⟨rfl, rfl⟩
/-- A lent variable comes back. -/
theorem GoodG.resumeVar (hG : GoodG W0 M0 G e s tm w) {S : Nat → Prop} (hS : Loose W0 M0 e w S) {r b : Nat} {el : Nat × Bool} (hb : S b) {cs0 cs : List (C T)} (ho : s.objs r = some (.var cs0)) (had : e.adr r = some ⟨b, 0, none⟩) {arr : Array Value} (hh : w.heap[b]? = some (cellsE arr el))
    (hc : RelCs e s w cs arr.toList) :
    GoodG W0 M0 (fun r' => G r' ∧ r' ≠ r) (e.put r (e.adr r) (e.cap r) fun b' => b' = b) (s.setO r (some (.var cs))) tm w ∧ Keeps e s w (e.put r (e.adr r) (e.cap r) fun b' => b' = b) (s.setO r (some (.var cs))) w := by
  obtain ⟨h1, h2, h3⟩ := RelG.upd (e' := e.put r (e.adr r) (e.cap r) fun b' => b' = b) (w' := w) (x := .var cs) (G' := fun r' => G r' ∧ r' ≠ r) hG.rel hG.fr hS (fun r' h => ⟨fun x => x.1, fun x => ⟨x, h⟩⟩) (Env.put_upd ..) (fun _ h => h) (fun _ h => .inl h) (Nat.le_refl _) (fun _ _ _ _ => rfl) rfl rfl (Oth.refl _)
    (fun b' hb' => by rw [Env.put_fp] at hb'; subst hb'; exact ⟨.inr (.inl hb), hS.lt _ hb⟩)
    (fun q rng v hq h => ⟨⟨_, by rw [hq]; exact setO_objs _ _ _, fun _ _ _ _ _ _ hx => by cases hx⟩, h.2.1, fun t2 l2 hi => by unfold refInfo at hi; rw [hq, setO_objs] at hi; cases hi⟩)
    (fun q row col v hq h => ⟨⟨_, by rw [hq]; exact setO_objs _ _ _, fun _ _ _ _ _ _ hx => by cases hx⟩, h.2.1, (fun cs' hc' hz => by
      obtain ⟨b', k1, k2⟩ := h.2.2.1 cs0 (by rw [hq]; exact ho) hz
      exact ⟨b', by rw [hq] at k1 ⊢; rw [Env.put_adr]; exact k1, k2⟩), fun t2 l2 hi => by unfold refInfo at hi; rw [hq, setO_objs] at hi; cases hi⟩)
    (fun v h => ⟨⟨_, setO_objs _ _ _⟩, h.2.1, fun kt et l hm => by rw [setO_objs] at hm; cases hm⟩) (fun h => absurd rfl h.2) (fun h => absurd rfl h.2) (fun h => absurd rfl h.2)
  exact ⟨⟨h3 fun _ => ⟨b, arr, el, by rw [Env.put_adr]; exact had, by rw [Env.put_fp], hh, h1.cs hc⟩, h2, hG.pin.upd (Env.put_upd ..).adr (Env.put_upd ..).cap (.old hG.pin ho (Env.put_adr ..))⟩, h1⟩
/-- A new object out of loose blocks, the world as it is. -/
theorem GoodG.install (hG : GoodG W0 M0 G e s tm w) {S F : Nat → Prop} (hS : Loose W0 M0 e w S) (hF : ∀ b, F b → S b) {r : Nat} (hr : s.objs r = none) (x : Root T) (ad : Option Addr) (c : Nat) (hp : PinX M0 r x ad c := by exact ⟨fun _ _ _ _ _ h => (by cases h), fun _ _ h => (by cases h)⟩) :
    Keeps e s w (e.put r ad c F) (s.setO r (some x)) w ∧ (RelO (e.put r ad c F) (s.setO r (some x)) w r x → GoodG W0 M0 G (e.put r ad c F) (s.setO r (some x)) tm w) := by
  have hng : ¬ G r := fun hg => by rcases hG.rel.lent r hg with ⟨cs, hx⟩ | ⟨_, _, _, _, _, hx⟩ <;> rw [hr] at hx <;> cases hx
  have hno : ∀ q : Ref, q.r = r → ¬ Live s q := fun q hq ⟨o, ho, _⟩ => by rw [hq, hr] at ho; cases ho
  obtain ⟨h1, h2, h3⟩ := RelG.upd (w' := w) (x := x) hG.rel hG.fr hS (fun _ _ => Iff.rfl) (Env.put_upd e r ad c F) (fun _ h => h) (fun _ h => .inl h) (Nat.le_refl _) (fun _ _ _ _ => rfl) rfl rfl (Oth.refl _)
    (fun b hb => by rw [Env.put_fp] at hb; exact ⟨.inr (.inl (hF b hb)), hS.lt b (hF b hb)⟩)
    (fun q rng v hq h => absurd h.1 (hno q hq)) (fun q row col v hq h => absurd h.1 (hno q hq)) (fun v h => by obtain ⟨⟨o, ho⟩, _⟩ := h; rw [hr] at ho; cases ho) (fun hg => absurd hg hng) (fun hg => absurd hg hng) (fun hg => absurd hg hng)
  exact ⟨h1, fun hx => ⟨h3 fun _ => hx, h2, hG.pin.upd (Env.put_upd ..).adr (Env.put_upd ..).cap (by rw [Env.put_adr, Env.put_cap]; exact hp)⟩⟩

/-! ### What comes back -/
def CellRk (T : Tbl) (w : World) (K : Nat → Prop) (rk : RK) (d : D T.U) (v : Value) (S : Nat → Prop) : Prop :=
  match rk with
  | .own => OwnD T w d v S
  | .shal => ShalD T w K d v S
  | .ro => RepD T w K d v
theorem CellsRk.len {K S : Nat → Prop} {rk : RK} {ds : List (D T.U)} {vs : List Value} (h : CellsRk T w K rk ds vs S) : vs.length = ds.length := by
  cases rk <;> exact h.1
theorem CellsRk.uncons {K R : Nat → Prop} {rk : RK} {d : D T.U} {ds : List (D T.U)} {v : Value} {vs : List Value} (h : CellsRk T w K rk (d :: ds) (v :: vs) R) :
    ∃ R1 R2, CellRk T w K rk d v R1 ∧ CellsRk T w K rk ds vs R2 ∧ (∀ b, R1 b → R b) ∧ (∀ b, R2 b → R b) ∧ ∀ b, R1 b → ¬ R2 b := by
  cases rk with
  | own =>
    obtain ⟨hl, F, g1, g2, g3⟩ := h
    exact ⟨F 0, fun b => ∃ j, F (j + 1) b, g1 0 d v rfl rfl, ⟨by simpa using hl, fun j => F (j + 1), fun j d v hd hv => g1 (j + 1) d v (by simpa using hd) (by simpa using hv), fun j b hb => ⟨j, hb⟩, fun i j b h h' => by have := g3 _ _ _ h h'; omega⟩, fun b hb => g2 0 b hb, fun b ⟨j, hb⟩ => g2 _ b hb, fun b hb ⟨j, hb'⟩ => by have := g3 _ _ _ hb hb'; omega⟩
  | shal =>
    obtain ⟨hl, F, g1, g2, g3⟩ := h
    exact ⟨F 0, fun b => ∃ j, F (j + 1) b, g1 0 d v rfl rfl, ⟨by simpa using hl, fun j => F (j + 1), fun j d v hd hv => g1 (j + 1) d v (by simpa using hd) (by simpa using hv), fun j b hb => ⟨j, hb⟩, fun i j b h h' => by have := g3 _ _ _ h h'; omega⟩, fun b hb => g2 0 b hb, fun b ⟨j, hb⟩ => g2 _ b hb, fun b hb ⟨j, hb'⟩ => by have := g3 _ _ _ hb hb'; omega⟩
  | ro =>
    exact ⟨fun _ => False, fun _ => False, h.2 0 d v rfl rfl, ⟨by simpa using h.1, fun j d v hd hv => h.2 (j + 1) d v (by simpa using hd) (by simpa using hv)⟩, fun _ h => h.elim, fun _ h => h.elim, fun _ h => h.elim⟩
theorem backCs_ok {d : Nat} {rk : RK} : ∀ {ds : List (D T.U)} {vs : List Value} {n : Nat} {e : Env} {s : St T} (hG : GoodG W0 M0 G e s tm w) {S0 R : Nat → Prop} (hS : Loose W0 M0 e w (fun b => S0 b ∨ R b)) (hd : ∀ b, S0 b → ¬ R b) (hc : CellsRk T w e.K rk ds vs R)
    {k : List (C T) → Nat → M T α} (h : Rn Ok (backCs d rk ds n k) s a s'),
    ∃ cs n' s1 e1, Rn Ok (k cs n') s1 a s' ∧ GoodG W0 M0 G e1 s1 tm w ∧ Keeps e s w e1 s1 w ∧ Loose W0 M0 e1 w S0 ∧ e1.K = e.K ∧ s1.regs = s.regs ∧ (∀ r o, s.objs r = some o → s1.objs r = some o ∧ e1.adr r = e.adr r) ∧ RelCs e1 s1 w cs vs
  | [], vs, n, e, s, hG, S0, R, hS, hd, hc, k, h => by
    have hl := hc.len
    simp at hl
    subst hl
    exact ⟨[], n, s, e, h, hG, .refl, hS.of fun b hb => .inl hb, rfl, rfl, fun _ _ h => ⟨h, rfl⟩, ⟨rfl, fun j c u hj => by simp at hj⟩⟩
  | x :: ds, [], n, e, s, hG, S0, R, hS, hd, hc, k, h => by have := hc.len; simp at this
  | x :: ds, v :: vs, n, e, s, hG, S0, R, hS, hd, hc, k, h => by
    obtain ⟨R1, R2, c1, c2, hr1, hr2, hr12⟩ := hc.uncons
    by_cases hx : ∃ t l, x = .arr t l
    · obtain ⟨t, l, rfl⟩ := hx
      cases rk with
      | ro =>
        obtain ⟨cs, n', s1, e1, g, g1, g2, g3, g4, g5, g6, g7⟩ := backCs_ok (R := R2) hG (hS.of fun b hb => hb.imp id (hr2 b)) (fun b hb hb' => hd b hb (hr2 b hb')) c2 h
        exact ⟨_, n', s1, e1, g, g1, g2, g3, g4, g5, g6, .cons (g2.c (c := .d (.arr t l)) c1) g7⟩
      | own =>
        obtain ⟨⟨h0, h0b⟩, h⟩ := rn_newO h
        obtain ⟨A, c, vals, F, rfl, hA⟩ := (OwnD.arr_iff e.K).1 c1
        obtain ⟨k1, k2⟩ := hG.install hS (F := R1) (fun b hb => .inr (hr1 b hb)) h0 (.arr t l 0 0 .all false) A c
        have k3 := k2 ⟨vals, F, by rw [Env.put_adr, Env.put_cap, Env.put_fp_eq]; exact hA⟩
        have hL : Loose W0 M0 (e.put (8 * d + n) A c R1) w (fun b => S0 b ∨ R2 b) := hS.put (fun b hb => hb.imp id (hr2 b)) (fun b hb hb' => hb.elim (fun h => hd b h (hr1 b hb')) (fun h => hr12 b hb' h)) _ _ _
        obtain ⟨cs, n', s1, e1, g, g1, g2, g3, g4, g5, g6, g7⟩ := backCs_ok (R := R2) k3 hL (fun b hb hb' => hd b hb (hr2 b hb')) c2 h
        refine ⟨_, n', s1, e1, g, g1, k1.trans g2, g3, g4, g5, fun r o ho => ?_, .cons (g2.c (own_rel (setO_objs _ _ _) t (Env.put_adr ..) (Env.put_cap ..))) g7⟩
        have hne : r ≠ 8 * d + n := fun h => by subst h; rw [h0] at ho; cases ho
        obtain ⟨q1, q2⟩ := g6 r o (by rw [setO_ne _ _ hne]; exact ho)
        exact ⟨q1, q2.trans ((Env.put_upd ..).adr r hne)⟩
      | shal =>
        obtain ⟨⟨h0, h0b⟩, h⟩ := rn_newO h
        obtain ⟨A, c, vals, F, rfl, hA⟩ := c1
        obtain ⟨k1, k2⟩ := hG.install hS (F := R1) (fun b hb => .inr (hr1 b hb)) h0 (.arr t l 0 0 (.upto 0) false) A c
        have k3 := k2 ⟨vals, F, by rw [Env.put_adr, Env.put_cap, Env.put_fp_eq]; exact hA⟩
        have hL : Loose W0 M0 (e.put (8 * d + n) A c R1) w (fun b => S0 b ∨ R2 b) := hS.put (fun b hb => hb.imp id (hr2 b)) (fun b hb hb' => hb.elim (fun h => hd b h (hr1 b hb')) (fun h => hr12 b hb' h)) _ _ _
        obtain ⟨cs, n', s1, e1, g, g1, g2, g3, g4, g5, g6, g7⟩ := backCs_ok (R := R2) k3 hL (fun b hb hb' => hd b hb (hr2 b hb')) c2 h
        refine ⟨_, n', s1, e1, g, g1, k1.trans g2, g3, g4, g5, fun r o ho => ?_, .cons (g2.c (own_rel (setO_objs _ _ _) t (Env.put_adr ..) (Env.put_cap ..))) g7⟩
        have hne : r ≠ 8 * d + n := fun h => by subst h; rw [h0] at ho; cases ho
        obtain ⟨q1, q2⟩ := g6 r o (by rw [setO_ne _ _ hne]; exact ho)
        exact ⟨q1, q2.trans ((Env.put_upd ..).adr r hne)⟩
    · have hrel : RelC e s w (.d x) v := by
        show RepD T w e.K x v
        cases rk with
        | own => exact OwnD.plain c1 fun t l he => hx ⟨t, l, he⟩
        | shal =>
          cases x with
          | arr t l => exact absurd ⟨t, l, rfl⟩ hx
          | _ => exact c1
        | ro => exact c1
      have h' : Rn Ok (backCs d rk ds n fun cs n' => k (.d x :: cs) n') s a s' := by
        cases x with
        | arr t l => exact absurd ⟨t, l, rfl⟩ hx
        | _ => exact h
      obtain ⟨cs, n', s1, e1, g, g1, g2, g3, g4, g5, g6, g7⟩ := backCs_ok (R := R2) hG (hS.of fun b hb => hb.imp id (hr2 b)) (fun b hb hb' => hd b hb (hr2 b hb')) c2 h'
      exact ⟨_, n', s1, e1, g, g1, g2, g3, g4, g5, g6, .cons (g2.c hrel) g7⟩
end
end Go.Sm
end

section
set_option linter.unusedVariables false
namespace Go.Sm
variable {T : Tbl} {α : Type}
section
variable {Ok : Nat → List (A T) → Res T → Prop} {s s' : St T} {a : α} {P : Program} {e e' : Env} {w w' W0 : World} {M0 : Gh} {tm : Array Value} {G : Nat → Prop}

theorem gotCs_ok (hT : TblOk P T) : ∀ {cs : List (C T)} {ds ds' : List (D T.U)} {us : List Value} {e : Env} {s : St T} {G : Nat → Prop} (hG : GoodG W0 M0 G e s tm w) {S0 R : Nat → Prop} (hS : Loose W0 M0 e w (fun b => S0 b ∨ R b)) (hd : ∀ b, S0 b → ¬ R b)
    (hc : RelCs e s w cs us) (hl : LentCs cs ds) (hsh : Shape ds ds') (ho : OwnDs T w ds' us R) {os : List (Out T)} {k : List (Out T) → M T α} (h : Rn Ok (gotCs cs (slOuts ds' ++ os) k) s a s'),
    ∃ s1 e1 G1, Rn Ok (k os) s1 a s' ∧ GoodG W0 M0 G1 e1 s1 tm w ∧ Keeps e s w e1 s1 w ∧ Loose W0 M0 e1 w S0 ∧ e1.K = e.K ∧ s1.regs = s.regs ∧ ∀ r, G1 r → G r ∧ ¬ r ∈ rootCs cs
  | [], [], [], us, e, s, G, hG, S0, R, hS, hd, hc, hl, hsh, ho, os, k, h => ⟨s, e, G, h, hG, .refl, hS.of fun b hb => .inl hb, rfl, rfl, fun r h => ⟨h, fun h => by cases h⟩⟩
  | [], _ :: _, _, _, _, _, _, _, _, _, _, _, _, hl, _, _, _, _, _ => hl.elim
  | [], [], _ :: _, _, _, _, _, _, _, _, _, _, _, _, hsh, _, _, _, _ => hsh.elim
  | c :: cs, [], _, _, _, _, _, _, _, _, _, _, _, hl, _, _, _, _, _ => by
    cases c with
    | own q t rng ex => cases rng <;> exact hl.elim
    | d d0 => cases d0 <;> exact hl.elim
    | _ => exact hl.elim
  | c :: cs, d :: ds, [], us, _, _, _, _, _, _, _, _, _, hl, hsh, _, _, _, _ => by cases d <;> exact hsh.elim
  | c :: cs, d :: ds, d' :: ds', [], e, s, G, hG, S0, R, hS, hd, hc, hl, hsh, ho, os, k, h => by have := hc.1; simp at this
  | c :: cs, d :: ds, d' :: ds', u :: us, e, s, G, hG, S0, R, hS, hd, hc, hl, hsh, ho, os, k, h => by
    obtain ⟨hc1, hc2⟩ := hc.tail
    obtain ⟨R1, R2, c1, c2, hr1, hr2, hr12⟩ := CellsRk.uncons (K := e.K) (rk := .own) (show CellsRk T w e.K .own (d' :: ds') (u :: us) R from ho)
    cases c with
    | own q t0 rng ex =>
      cases rng with
      | some x => exact hl.elim
      | none =>
        cases d with
        | arr t l =>
          cases d' with
          | arr t' l' =>
            obtain ⟨rfl, hsh⟩ := hsh
            have h2 : Rn Ok (gotC (.own q t0 none ex) (.sl t l' :: (slOuts ds' ++ os)) fun os => gotCs cs os k) s a s' := h
            clear h
            unfold gotC at h2
            replace h2 := rn_getO h2
            split at h2
            · rename_i t1 l0 ver nver dep pin ho' hp
              have hX := rn_cond h2
              clear h2
              obtain ⟨h0, h⟩ := hX
              simp only [Bool.and_eq_true] at h0
              have ht := nbeq h0.1
              have hver := nbeq h0.2
              subst ht
              replace h := rn_setO h
              have hi : refInfo s q = some ⟨t1, l0⟩ := by unfold refInfo; simp only [ho', hp]; rw [if_pos hver]
              obtain ⟨A, cc, hat, hsl⟩ := hc1.2.2 _ _ hi
              unfold RefAt at hat
              simp only [hp] at hat
              obtain ⟨rfl, rfl⟩ := hat
              have hu : u = .slice (e.adr q.r) l0.length (e.cap q.r) := hsl
              subst hu
              obtain ⟨k1, k2⟩ := hG.resume (F := R1) hS (fun b hb => .inr (hr1 b hb)) ho' c1
              have hL : Loose W0 M0 (e.put q.r (e.adr q.r) (e.cap q.r) R1) w (fun b => S0 b ∨ R2 b) := hS.put (fun b hb => hb.imp id (hr2 b)) (fun b hb hb' => hb.elim (fun h => hd b h (hr1 b hb')) (fun h => hr12 b hb' h)) _ _ _
              obtain ⟨s1, e1, G1, g, g1, g2, g3, g4, g5, g6⟩ := gotCs_ok hT (R := R2) k1 hL (fun b hb hb' => hd b hb (hr2 b hb')) (k2.cs hc2) hl hsh c2 h
              exact ⟨s1, e1, G1, g, g1, k2.trans g2, g3, g4, g5, fun r hr => ⟨(g6 r hr).1.1, fun hx => by
                simp only [rootCs, rootC, List.singleton_append, List.mem_cons] at hx
                exact hx.elim (g6 r hr).1.2 (g6 r hr).2⟩⟩
            · rename_i t1 l0 ver nver hh pin i c ho' hp
              have hX := rn_cond h2
              clear h2
              obtain ⟨h0, h⟩ := hX
              simp only [Bool.and_eq_true] at h0
              have hver := nbeq h0.1
              have hcnt := nbeq h0.2
              have hX := rn_must h
              clear h
              obtain ⟨rfl, h⟩ := hX
              have hX := rn_must h
              clear h
              obtain ⟨hi, h⟩ := hX
              split at h
              · rename_i t2 l2 hd2
                have hX := rn_cond h
                clear h
                obtain ⟨ht, h⟩ := hX
                have ht := nbeq ht
                subst ht
                split at h
                · rename_i x hx
                  replace h := rn_setO h
                  have hinf : refInfo s q = some ⟨t2, l2⟩ := by
                    unfold refInfo
                    simp only [ho', hp]
                    rw [if_pos (NV.has_of hver), if_pos hi]
                    change (match (Go.Sm.row T t1 l0 i)[c]? with | some (.arr t' l') => some (⟨t', l'⟩ : (t : Nat) × List (T.U t)) | _ => none) = _
                    rw [show (Go.Sm.row T t1 l0 i)[c]? = some (.arr t2 l2) from hd2]
                  obtain ⟨A, cc, hat, hsl⟩ := hc1.2.2 _ _ hinf
                  unfold RefAt at hat
                  simp only [hp] at hat
                  obtain ⟨t3, l3, ver3, nver3, dep3, pin3, b, off, n3, j1, j2, j3, j4⟩ := hat
                  rw [ho'] at j1
                  cases j1
                  have hu : u = .slice A l2.length cc := hsl
                  obtain ⟨A', c', vals', F', he, hA'⟩ := (OwnD.arr_iff e.K).1 (show OwnD T w (.arr t2 l') u R1 from c1)
                  rw [hu] at he
                  simp only [Value.slice.injEq] at he
                  have hn : n3 = l2.length := by
                    have hng : ¬ G q.r := fun hg => by
                      rcases hG.rel.lent q.r hg with ⟨cs, hx⟩ | ⟨_, _, _, _, _, hx⟩ <;> rw [ho'] at hx <;> cases hx
                    obtain ⟨vals, F0, hO⟩ := hG.rel.objs _ _ hng ho'
                    have hcell := hO.vals_at j3 hi hd2
                    rw [j4] at hcell
                    rcases hO.hsub i c _ hi hd2 with ⟨_, _, A2, n2, c2, e2, e3⟩ | h
                    · rw [e2] at hcell
                      simp only [Option.some.injEq, Value.slice.injEq] at hcell
                      rw [hcell.2.1]
                      exact e3 _ _ rfl
                    · obtain ⟨A2, c2, _, _, e2, _⟩ := (OwnD.arr_iff e.K).1 h
                      rw [e2] at hcell
                      simp only [Option.some.injEq, Value.slice.injEq] at hcell
                      exact hcell.2.1
                  obtain ⟨k1, k2⟩ := hG.fill hT (F := R1) (u := u) hS (fun b hb => .inr (hr1 b hb)) ho' hi hd2 hcnt he.2.1.symm j3 (by rw [hu, ← hn]; exact j4) c1 (hT.get _ _ _ hx)
                  have hL : Loose W0 M0 (e.put q.r (e.adr q.r) (e.cap q.r) fun b => e.fp q.r b ∨ R1 b) w (fun b => S0 b ∨ R2 b) :=
                    hS.put (fun b hb => hb.imp id (hr2 b)) (fun b hb hb' => hb'.elim (fun h => hS.notFp _ _ (hb.imp id (hr2 b)) h) fun h' => hb.elim (fun h => hd b h (hr1 b h')) (fun h => hr12 b h' h)) _ _ _
                  obtain ⟨s1, e1, G1, g, g1, g2, g3, g4, g5, g6⟩ := gotCs_ok hT (R := R2) k1 hL (fun b hb hb' => hd b hb (hr2 b hb')) (k2.cs hc2) hl hsh c2 h
                  exact ⟨s1, e1, G1, g, g1, k2.trans g2, g3, g4, g5, fun r hr => ⟨(g6 r hr).1, fun hx => by
                    simp only [rootCs, rootC, List.singleton_append, List.mem_cons] at hx
                    rcases hx with rfl | hx
                    · rcases hG.rel.lent _ (g6 _ hr).1 with ⟨cs, hx⟩ | ⟨_, _, _, _, _, hx⟩ <;> rw [ho'] at hx <;> cases hx
                    · exact (g6 r hr).2 hx⟩⟩
                · exact (rn_fail h).elim
              · exact (rn_fail h).elim
            · exact (rn_fail h2).elim
          | _ => exact hsh.elim
        | _ => exact hl.elim
    | d d0 =>
      by_cases hnil : d0 = .nil ∧ ∃ t l, d = .arr t l
      · obtain ⟨rfl, t, l, rfl⟩ := hnil
        cases d' with
        | arr t' l' =>
          obtain ⟨rfl, hsh⟩ := hsh
          have h2 : Rn Ok (gotCs cs (slOuts ds' ++ os) k) s a s' := h
          obtain ⟨s1, e1, G1, g, g1, g2, g3, g4, g5, g6⟩ := gotCs_ok hT (R := R2) hG (hS.of fun b hb => hb.imp id (hr2 b)) (fun b hb hb' => hd b hb (hr2 b hb')) hc2 hl hsh c2 h2
          exact ⟨s1, e1, G1, g, g1, g2, g3, g4, g5, fun r hr => ⟨(g6 r hr).1, fun hx => by
            simp only [rootCs, rootC, List.nil_append] at hx
            exact (g6 r hr).2 hx⟩⟩
        | _ => exact hsh.elim
      have hlen : d0 = d ∧ d0.isArr = false ∧ LentCs cs ds := by
        cases d0 with
        | nil =>
          cases d with
          | arr t l => exact absurd ⟨rfl, t, l, rfl⟩ hnil
          | _ => exact hl
        | _ => cases d <;> exact hl
      obtain ⟨rfl, hna0, hl⟩ := hlen
      have hna : ∀ t l, d0 ≠ .arr t l := fun t l h => by subst h; cases hna0
      have hnn : d0 ≠ .nil := fun h => by subst h; cases hna0
      have hsh2 : d0 = d' ∧ Shape ds ds' := by
        cases d0 with
        | arr t l => exact absurd rfl (hna t l)
        | _ => exact hsh
      obtain ⟨rfl, hsh2⟩ := hsh2
      have h2 : Rn Ok (gotCs cs (slOuts ds' ++ os) k) s a s' := by
        cases d0 with
        | arr t l => exact absurd rfl (hna t l)
        | nil => exact absurd rfl hnn
        | _ => exact h
      obtain ⟨s1, e1, G1, g, g1, g2, g3, g4, g5, g6⟩ := gotCs_ok hT (R := R2) hG (hS.of fun b hb => hb.imp id (hr2 b)) (fun b hb hb' => hd b hb (hr2 b hb')) hc2 hl hsh2 c2 h2
      exact ⟨s1, e1, G1, g, g1, g2, g3, g4, g5, fun r hr => ⟨(g6 r hr).1, fun hx => by
        simp only [rootCs, rootC, List.nil_append] at hx
        exact (g6 r hr).2 hx⟩⟩
    | ex t l => exact hl.elim
    | ptr q i j => exact hl.elim
    | rptr t x j => exact hl.elim
    | nptr => exact hl.elim
    | fn f cs => exact hl.elim
    | map r => exact hl.elim
    | undef => exact hl.elim

theorem gotCs_one {c : C T} {os : List (Out T)} {k : List (Out T) → M T α} : gotCs [c] os k = gotC c os k := rfl
theorem ofD_cells {ds : List (D T.U)} {vs : List Value} (h : RepDs T w e.K ds vs) : RelCs e s w (ds.map ofD) vs := ofD_rel h.1 h.2
theorem outM_ok (hT : TblOk P T) {d : Nat} {m : Mode} {v : V T} {x : A T} {u : Value} (hG : GoodG W0 M0 G e s tm w) {S0 R : Nat → Prop} (hS : Loose W0 M0 e w (fun b => S0 b ∨ R b)) (hd : ∀ b, S0 b → ¬ R b) (hv : RelV e s w v u) (hl : LentV m v x) {o os : List (Out T)} (hm : m ≠ .ro)
    (ho : OutRw T w e.K m x u o R) {n : Nat} {k : List (Out T) → Nat → M T α} (h : Rn Ok (outM d m v (o ++ os) n k) s a s') :
    ∃ s1 e1 G1 n', Rn Ok (k os n') s1 a s' ∧ GoodG W0 M0 G1 e1 s1 tm w ∧ Keeps e s w e1 s1 w ∧ Loose W0 M0 e1 w S0 ∧ e1.K = e.K ∧ s1.regs = s.regs ∧ ∀ r, G1 r → G r ∧ ¬ r ∈ lentR m v := by
  unfold outM at h
  split at h
  · exact absurd rfl hm
  · have ho : o = [] := by
      cases x with
      | val ag ds => cases ag <;> first | exact ho | exact ho.elim
      | _ => exact ho.elim
    subst ho
    exact ⟨s, e, G, n, h, hG, .refl, hS.of fun b hb => .inl hb, rfl, rfl, fun r h => ⟨h, fun h => by cases h⟩⟩
  · rename_i q row t2 l2 os' hos
    cases x with
    | pix t l i =>
      obtain ⟨b, off, c, l', hu, hpos, rfl, hlen, hown⟩ := ho
      simp only [List.singleton_append, List.cons.injEq, Out.sl.injEq] at hos
      obtain ⟨⟨rfl, hll⟩, rfl⟩ := hos
      cases hll
      replace h := rn_getO h
      split at h
      · rename_i t1 l0 ver nver dep pin ho' hp
        have hX := rn_cond h
        clear h
        obtain ⟨h0, h⟩ := hX
        simp only [Bool.and_eq_true] at h0
        have ht := nbeq h0.1
        have hver := nbeq h0.2
        subst ht
        have hX := rn_must h
        clear h
        obtain ⟨hl0, h⟩ := hX
        replace h := rn_setO h
        have hi : refInfo s q = some ⟨t1, l0⟩ := by unfold refInfo; simp only [ho', hp]; rw [if_pos hver]
        obtain ⟨b1, off1, c1, hat, hu1⟩ := hv.2.2.2 _ _ hi
        unfold RefAt at hat
        simp only [hp] at hat
        obtain ⟨had, rfl⟩ := hat
        have hri : row = i := hl
        subst hri
        rw [hu] at hu1
        simp only [Value.pointer.injEq, Option.some.injEq, Addr.mk.injEq, Nat.add_zero] at hu1
        obtain ⟨rfl, hoff, _⟩ := hu1
        have hoff : off = off1 := by omega
        subst hoff
        have hcap : l0.length ≤ e.cap q.r ∧ (0 < e.cap q.r → ∃ b off cs el, e.adr q.r = some ⟨b, off, none⟩ ∧ w.heap[b]? = some (cellsE cs el) ∧ off + e.cap q.r * T.size t1 ≤ cs.size) := by
          by_cases hg : G q.r
          · exact hG.rel.lsz _ _ _ _ _ _ _ hg ho'
          · obtain ⟨vals, F, hA⟩ := hG.rel.objs _ _ hg ho'
            refine ⟨hA.hc, fun hc => ?_⟩
            obtain ⟨b, off, cs, el, h1, h2, h3, h4⟩ := hA.hblk hc
            exact ⟨b, off, cs, el, h1, h3, h4⟩
        have hown' : OwnD T w (.arr t1 l') (.slice (e.adr q.r) l0.length (e.cap q.r)) R := by
          rw [← had, ← hl0, hlen]
          obtain ⟨A, c', vals, F, he, hA⟩ := (OwnD.arr_iff e.K).1 hown
          simp only [Value.slice.injEq] at he
          obtain ⟨rfl, he2, rfl⟩ := he
          refine (OwnD.arr_iff e.K).2 ⟨_, _, vals, F, by rw [hlen], by rw [hl0]; exact hcap.1, hA.hA, fun hc => ?_, hA.hcell, hA.hsub, hA.hF, hA.hdis⟩
          obtain ⟨b2, off2, cs2, el2, h1, h2, h3⟩ := hcap.2 hc
          rw [← had] at h1
          simp only [Option.some.injEq, Addr.mk.injEq] at h1
          obtain ⟨rfl, rfl, _⟩ := h1
          obtain ⟨b3, off3, cs3, el3, j1, j2, j3, j4⟩ := hA.hblk (Nat.lt_of_lt_of_le (by rw [hlen]; exact hpos) hA.hc)
          simp only [Option.some.injEq, Addr.mk.injEq] at j1
          obtain ⟨rfl, rfl, _⟩ := j1
          exact ⟨b, off, cs2, el2, rfl, j2, h2, h3⟩
        obtain ⟨k1, k2⟩ := hG.resume (F := R) hS (fun b hb => .inr hb) ho' hown'
        exact ⟨_, _, _, n, h, k1, k2, hS.put (fun b hb => .inl hb) (fun b hb hb' => hd b hb hb') _ _ _, rfl, rfl, fun r hr => ⟨hr.1, fun hx => by simp [lentR, ptrR, rootC] at hx; exact hr.2 hx⟩⟩
      · exact (rn_fail h).elim
    | val ag ds => cases ag <;> exact hl.elim
    | ptr t x => exact hl.elim
    | nptr => exact hl.elim
    | fn f cs => exact hl.elim
  · rename_i c hnp
    rw [← gotCs_one] at h
    cases x with
    | pix t l i =>
      obtain ⟨b, off, c2, l', hu, hpos, rfl, hlen, hown⟩ := ho
      exfalso
      cases c with
      | ptr q row col =>
        cases col with
        | zero => exact hnp q row t l' os rfl rfl
        | succ m => exact hl
      | _ => exact hl
    | val ag ds =>
      cases ag with
      | true => exact hl.elim
      | false =>
        obtain ⟨ds', rfl, hsh, hown⟩ := ho
        have hpr : ptrR c = [] := by
          cases c with
          | ptr q row col => cases ds <;> exact (show False from hl).elim
          | _ => rfl
        obtain ⟨s1, e1, G1, g, g1, g2, g3, g4, g5, g6⟩ := gotCs_ok hT hG hS hd (cs := [c]) (us := [u]) (.cons hv ⟨rfl, fun j c u h => by simp at h⟩) hl hsh hown h
        exact ⟨s1, e1, G1, n, g, g1, g2, g3, g4, g5, fun r hr => ⟨(g6 r hr).1, fun hx => (g6 r hr).2 (by simpa [rootCs, lentR, hpr] using hx)⟩⟩
    | ptr t x => exact hl.elim
    | nptr => exact hl.elim
    | fn f cs => exact hl.elim
  · rename_i cs
    cases x with
    | val ag ds =>
      cases ag with
      | false => exact hl.elim
      | true =>
        obtain ⟨ds', vs, rfl, rfl, hsh, hown⟩ := ho
        obtain ⟨us, hu, hc⟩ := hv
        simp only [Value.agg.injEq] at hu
        have hu : vs = us := by have := congrArg Array.toList hu; simpa using this
        subst hu
        obtain ⟨s1, e1, G1, g, g1, g2, g3, g4, g5, g6⟩ := gotCs_ok hT hG hS hd hc hl hsh hown h
        exact ⟨s1, e1, G1, n, g, g1, g2, g3, g4, g5, g6⟩
    | ptr t x => exact hl.elim
    | nptr => exact hl.elim
    | pix t l i => exact hl.elim
    | fn f cs => exact hl.elim
  · rename_i q el x' os' hos
    replace h := rn_getO h
    split at h
    · rename_i cs0 hcs0
      cases x with
      | ptr t x0 =>
        obtain ⟨b, arr, el', x2, rfl, rfl, hb, hh, hown⟩ := ho
        simp only [List.singleton_append, List.cons.injEq, Out.var.injEq] at hos
        obtain ⟨⟨rfl, hx⟩, rfl⟩ := hos
        cases hx
        obtain ⟨b', k1, k2⟩ := hv.2.2.1 cs0 hcs0 rfl
        simp only [Value.pointer.injEq, Option.some.injEq, Addr.mk.injEq] at k2
        obtain ⟨rfl, _⟩ := k2
        have hX := backCs_ok (rk := .own) (S0 := fun b' => S0 b' ∨ b' = b) (R := fun b' => R b' ∧ b' ≠ b) hG (hS.of fun b' hb' => by rcases hb' with (h | h) | h; exact .inl h; exact .inr (h ▸ hb); exact .inr h.1) (fun b' hb' hb2 => hb'.elim (fun h => hd b' h hb2.1) (fun h => hb2.2 h)) hown h
        clear h
        obtain ⟨cs, n', s1, e1, h, g1, g2, g3, g4, g5, g6, g7⟩ := hX
        replace h := rn_setO h
        obtain ⟨p1, p2⟩ := g6 _ _ hcs0
        obtain ⟨r1, r2⟩ := g1.resumeVar g3 (.inr rfl) p1 (p2.trans k1) hh g7
        exact ⟨_, _, _, n', h, r1, g2.trans r2, g3.put (fun b hb => .inl hb) (fun b' hb' h => by subst h; exact hd _ hb' hb) _ _ _, g4, g5, fun r hr => ⟨hr.1, fun h => by simp [lentR] at h; exact hr.2 h⟩⟩
      | val ag ds => cases ag <;> exact ho.elim
      | nptr => exact ho.elim
      | fn f cs => exact ho.elim
      | pix t l i => exact ho.elim
    · exact (rn_fail h).elim
  · rename_i q el x' os' hos
    replace h := rn_getO h
    split at h
    · rename_i cs0 hcs0
      cases x with
      | ptr t x0 =>
        obtain ⟨b, arr, el', x2, rfl, rfl, hb, hh, hown⟩ := ho
        simp only [List.singleton_append, List.cons.injEq, Out.var.injEq] at hos
        obtain ⟨⟨rfl, hx⟩, rfl⟩ := hos
        cases hx
        obtain ⟨b', k1, k2⟩ := hv.2.2.1 cs0 hcs0 rfl
        simp only [Value.pointer.injEq, Option.some.injEq, Addr.mk.injEq] at k2
        obtain ⟨rfl, _⟩ := k2
        replace h := rn_setO h
        obtain ⟨r1, r2⟩ := hG.resumeVar hS (.inr hb) hcs0 k1 hh (ofD_cells hown)
        exact ⟨_, _, _, n, h, r1, r2, hS.put (fun b hb => .inl hb) (fun b' hb' h => by subst h; exact hd _ hb' hb) _ _ _, rfl, rfl, fun r hr => ⟨hr.1, fun h => by simp [lentR] at h; exact hr.2 h⟩⟩
      | val ag ds => cases ag <;> exact ho.elim
      | nptr => exact ho.elim
      | fn f cs => exact ho.elim
      | pix t l i => exact ho.elim
    · exact (rn_fail h).elim
  · exact (rn_fail h).elim
theorem outsM_ok (hT : TblOk P T) {d : Nat} {K' : Nat → Prop} : ∀ {ms : List Mode} {vs : List (V T)} {as : List (A T)} {us : List Value} {os : List (Out T)} {R : Nat → Prop} (ho : OutsOk T w K' ms as us os R) {e : Env} {s : St T} {G : Nat → Prop} (hK : e.K = K') (hG : GoodG W0 M0 G e s tm w) {S0 : Nat → Prop}
    (hS : Loose W0 M0 e w (fun b => S0 b ∨ R b)) (hd : ∀ b, S0 b → ¬ R b) (hv : RelVs e s w vs us) (hl : LentVs ms vs as) {n : Nat} {k : Nat → M T α} (h : Rn Ok (outsM d ms vs os n k) s a s'),
    ∃ s1 e1 G1 n', Rn Ok (k n') s1 a s' ∧ GoodG W0 M0 G1 e1 s1 tm w ∧ Keeps e s w e1 s1 w ∧ Loose W0 M0 e1 w S0 ∧ e1.K = e.K ∧ s1.regs = s.regs ∧ ∀ r, G1 r → G r ∧ ¬ r ∈ lentRs ms vs := by
  intro ms vs as us os R ho
  induction ho generalizing vs with
  | nil =>
    intro e s G hK hG S0 hS hd hv hl n k h
    cases vs with
    | cons v vs => exact hv.elim
    | nil => exact ⟨s, e, G, n, h, hG, .refl, hS.of fun b hb => .inl hb, rfl, rfl, fun r h => ⟨h, fun h => by cases h⟩⟩
  | ro h1 ih =>
    intro e s G hK hG S0 hS hd hv hl n k h
    cases vs with
    | nil => exact hv.elim
    | cons v vs =>
      obtain ⟨s1, e1, G1, n', g, g1, g2, g3, g4, g5, g6⟩ := ih hK hG hS hd hv.2 hl.2 h
      exact ⟨s1, e1, G1, n', g, g1, g2, g3, g4, g5, fun r hr => ⟨(g6 r hr).1, fun hx => (g6 r hr).2 (by cases v <;> simpa [lentRs, lentR] using hx)⟩⟩
  | @rw ms as us o os R m x u R1 h1 h2 h3 ih =>
    intro e s G hK hG S0 hS hd hv hl n k h
    cases vs with
    | nil => exact hv.elim
    | cons v vs =>
      have hm : m ≠ .ro := fun hm => by
        subst hm
        unfold OutRw at h1
        split at h1 <;> first | (rename_i hh; cases hh) | exact h1 | exact h1.elim
      obtain ⟨s1, e1, G1, n1, g, g1, g2, g3, g4, g5, g6⟩ := outM_ok hT (S0 := fun b => S0 b ∨ R b) hG (hS.of fun b hb => by rcases hb with (h | h) | h; exact .inl h; exact .inr (.inr h); exact .inr (.inl h)) (fun b hb hb' => hb.elim (fun h => hd b h (.inl hb')) (fun h => h3 b hb' h)) hv.1 hl.1 hm (by rw [hK]; exact h1) h
      obtain ⟨s2, e2, G2, n2, r, r1, r2, r3, r4, r5, r6⟩ := ih (g4.trans hK) g1 g3 (fun b hb hb' => hd b hb (.inr hb')) (g2.vs hv.2) hl.2 g
      exact ⟨s2, e2, G2, n2, r, r1, g2.trans r2, r3, r4.trans g4, r5.trans g5, fun r hr => ⟨(g6 r (r6 r hr).1).1, fun hx => by
        simp only [lentRs, List.mem_append] at hx
        exact hx.elim (g6 r (r6 r hr).1).2 (r6 r hr).2⟩⟩
end
end Go.Sm
end

section
set_option linter.unusedVariables false
namespace Go.Sm
variable {T : Tbl} {α : Type}
section
variable {Ok : Nat → List (A T) → Res T → Prop} {s s' : St T} {a : α} {P : Program} {e e' : Env} {w w' W0 : World} {M0 : Gh} {tm : Array Value} {G : Nat → Prop}

def RelXs (e : Env) (s : St T) (w : World) (xs : List (Bool × List (C T))) (us : List Value) : Prop := us.length = xs.length ∧ ∀ (j : Nat) (x : Bool × List (C T)) (u : Value), xs[j]? = some x → us[j]? = some u → RelW e s w x u
theorem Keeps.xs (h : Keeps e s w e' s' w') {xs : List (Bool × List (C T))} {us : List Value} (hx : RelXs e s w xs us) : RelXs e' s' w' xs us := ⟨hx.1, fun j x u h1 h2 => h.pw (hx.2 j x u h1 h2)⟩
theorem CellsRk.conv {K K' R : Nat → Prop} {rk : RK} {ds : List (D T.U)} {vs : List Value} (h : CellsRk T w K rk ds vs R) (hK : rk = .own ∨ ∀ b, K b → K' b) : CellsRk T w K' rk ds vs R := by
  cases rk with
  | own => exact h
  | shal =>
    have hK := hK.resolve_left (by simp)
    obtain ⟨hl, F, g1, g2, g3⟩ := h
    refine ⟨hl, F, fun j d v hd hv => ?_, g2, g3⟩
    have := g1 j d v hd hv
    cases d with
    | arr t l =>
      obtain ⟨A, c, vals, F', e1, e2⟩ := this
      exact ⟨A, c, vals, F', e1, e2.mono hK (fun _ _ => rfl) (fun _ _ => rfl)⟩
    | bool b => exact RepD.mono hK (fun _ _ => rfl) this
    | int b n => exact RepD.mono hK (fun _ _ => rfl) this
    | str b => exact RepD.mono hK (fun _ _ => rfl) this
    | nil => exact RepD.mono hK (fun _ _ => rfl) this
    | fn t x => exact RepD.mono hK (fun _ _ => rfl) this
  | ro =>
    have hK := hK.resolve_left (by simp)
    exact RepDs.mono hK h
theorem backV_ok {d : Nat} {rk : RK} {x : RV T} {u : Value} {K' : Nat → Prop} {n : Nat} (hG : GoodG W0 M0 G e s tm w) {S0 R : Nat → Prop} (hS : Loose W0 M0 e w (fun b => S0 b ∨ R b)) (hd : ∀ b, S0 b → ¬ R b) (hK : rk = .own ∨ ∀ b, K' b → e.K b) (hc : RetOk T w K' rk x u R)
    {k : Bool → List (C T) → Nat → M T α} (h : Rn Ok (backV d rk x n k) s a s') :
    ∃ ag cs n' s1 e1, Rn Ok (k ag cs n') s1 a s' ∧ GoodG W0 M0 G e1 s1 tm w ∧ Keeps e s w e1 s1 w ∧ Loose W0 M0 e1 w S0 ∧ e1.K = e.K ∧ s1.regs = s.regs ∧ RelW e1 s1 w (ag, cs) u := by
  unfold backV at h
  split at h
  · rename_i ag ds
    cases ag with
    | true =>
      obtain ⟨vs, rfl, hc⟩ := hc
      obtain ⟨cs, n', s1, e1, g, g1, g2, g3, g4, g5, g6, g7⟩ := backCs_ok hG hS hd (hc.conv hK) h
      exact ⟨_, cs, n', s1, e1, g, g1, g2, g3, g4, g5, vs, rfl, g7⟩
    | false =>
      obtain ⟨cs, n', s1, e1, g, g1, g2, g3, g4, g5, g6, g7⟩ := backCs_ok hG hS hd (CellsRk.conv hc hK) h
      exact ⟨_, cs, n', s1, e1, g, g1, g2, g3, g4, g5, g7⟩
  · rename_i t x
    split at h
    · exact (rn_fail h).elim
    · rename_i hrk
      have hK := hK.resolve_left fun hx => hrk hx
      have hX := rn_newO h
      clear h
      obtain ⟨⟨h0, h0b⟩, h⟩ := hX
      obtain ⟨b, arr, el, rfl, hb, hh, hr⟩ := hc
      obtain ⟨k1, k2⟩ := hG.install hS (F := fun b' => b' = b) (fun b' hb' => .inr (hb' ▸ hb)) h0 (.var ((T.dget t x).map ofD)) (some ⟨b, 0, none⟩) 0 (.low hG.pin h0b)
      have k3 := k2 ⟨b, arr, el, Env.put_adr .., by rw [Env.put_fp], hh, k1.cs (ofD_cells (hr.mono hK))⟩
      refine ⟨_, _, _, _, _, h, k3, k1, hS.put (fun b hb => .inl hb) (fun b' hb' h => by subst h; exact hd _ hb' hb) _ _ _, rfl, rfl, .cons ?_ ⟨rfl, fun j c u h => by simp at h⟩⟩
      refine ⟨⟨_, setO_objs _ _ _, fun _ _ _ _ _ _ h => by cases h⟩, ⟨_, rfl⟩, fun cs' _ _ => ⟨_, Env.put_adr .., rfl⟩, fun t l hi => ?_⟩
      unfold refInfo at hi
      rw [setO_objs] at hi
      cases hi
theorem backVs_ok {d : Nat} {rk : RK} {K' : Nat → Prop} : ∀ {xs : List (RV T)} {us : List Value} {R : Nat → Prop} (hr : RetsOk T w K' rk xs us R) {n : Nat} {e : Env} {s : St T} (hG : GoodG W0 M0 G e s tm w) {S0 : Nat → Prop} (hS : Loose W0 M0 e w (fun b => S0 b ∨ R b)) (hd : ∀ b, S0 b → ¬ R b)
    (hK : rk = .own ∨ ∀ b, K' b → e.K b) {k : List (Bool × List (C T)) → Nat → M T α} (h : Rn Ok (backVs d rk xs n k) s a s'),
    ∃ ys n' s1 e1, Rn Ok (k ys n') s1 a s' ∧ GoodG W0 M0 G e1 s1 tm w ∧ Keeps e s w e1 s1 w ∧ Loose W0 M0 e1 w S0 ∧ e1.K = e.K ∧ s1.regs = s.regs ∧ RelXs e1 s1 w ys us := by
  intro xs us R hr
  induction hr with
  | nil =>
    intro n e s hG S0 hS hd hK k h
    exact ⟨[], n, s, e, h, hG, .refl, hS.of fun b hb => .inl hb, rfl, rfl, rfl, fun j x u h => by simp at h⟩
  | @cons xs us R x u R1 h1 h2 h3 ih =>
    intro n e s hG S0 hS hd hK k h
    obtain ⟨ag, cs, n1, s1, e1, g, g1, g2, g3, g4, g5, g6⟩ := backV_ok (S0 := fun b => S0 b ∨ R b) hG (hS.of fun b hb => by rcases hb with (h | h) | h; exact .inl h; exact .inr (.inr h); exact .inr (.inl h)) (fun b hb hb' => hb.elim (fun h => hd b h (.inl hb')) (fun h => h3 b hb' h)) hK h1 h
    obtain ⟨ys, n2, s2, e2, r, r1, r2, r3, r4, r5, r6⟩ := ih g1 g3 (fun b hb hb' => hd b hb (.inr hb')) (by rw [g4]; exact hK) g
    refine ⟨_, n2, s2, e2, r, r1, g2.trans r2, r3, r4.trans g4, r5.trans g5, by simp [r6.1], fun j x u hx hu => ?_⟩
    cases j with
    | zero => simp at hx hu; subst hx; subst hu; exact r2.pw g6
    | succ j => exact r6.2 j x u (by simpa using hx) (by simpa using hu)

/-- What a result may share joins what never changes. -/
theorem freezeM_ok : ∀ {ro : List Nat} {e : Env} {s : St T} (hG : GoodG W0 M0 G e s tm w) {S : Nat → Prop} (hS : Loose W0 M0 e w S) (hro : ∀ r, r ∈ ro → ¬ G r) {k : M T α} (h : Rn Ok (freezeM ro k) s a s'),
    ∃ s1 e1, Rn Ok k s1 a s' ∧ GoodG W0 M0 G e1 s1 tm w ∧ Keeps e s w e1 s1 w ∧ Loose W0 M0 e1 w S ∧ (∀ b, e.RO ro b → e1.K b) ∧ s1.regs = s.regs
  | [], e, s, hG, S, hS, hro, k, h => ⟨s, e, h, hG, .refl, hS, fun b hb => hb.elim id fun ⟨r, hr, _⟩ => (by cases hr), rfl⟩
  | r :: ro, e, s, hG, S, hS, hro, k, h => by
    replace h := rn_getO h
    split at h
    · rename_i o ho
      replace h := rn_setO h
      obtain ⟨k1, k2, k3⟩ := hG.kill ho (hro r (by simp))
      obtain ⟨q1, q2⟩ := k1.world (w' := w) (S := e.fp r) (K' := fun b => e.K b ∨ e.fp r b) k3 (Nat.le_refl _) (fun _ _ _ => rfl) rfl rfl (Oth.refl _) (fun _ h => .inl h) (fun b hb => ⟨hb.imp id .inl, hb.elim (fun h => hG.rel.lt b (.inl h)) (fun h => hG.rel.lt b (.inr ⟨r, h⟩))⟩)
      have hL : Loose W0 M0 { e.drop r with K := fun b => e.K b ∨ e.fp r b } w S := ⟨fun b hb h => h.elim (hS.notK b hb) (hS.notFp r b hb), fun r' b hb h => hS.notFp r' b hb h.2, hS.lt, hS.own⟩
      obtain ⟨s1, e1, g, g1, g2, g3, g4, g5⟩ := freezeM_ok q1 hL (fun r' hr => hro r' (by simp [hr])) h
      refine ⟨s1, e1, g, g1, (k2.trans q2).trans g2, g3, fun b hb => g4 b ?_, g5⟩
      rcases hb with hb | ⟨r', hr', hb⟩
      · exact .inl (.inl hb)
      · by_cases hrr : r' = r
        · subst hrr; exact .inl (.inr hb)
        · rcases List.mem_cons.1 hr' with h | h
          · exact absurd h hrr
          · exact .inr ⟨r', h, hrr, hb⟩
    · exact (rn_fail h).elim

theorem OutRw.conv {K K' R : Nat → Prop} {m : Mode} {x : A T} {u : Value} {o : List (Out T)} (h : OutRw T w K m x u o R) (hK : m ≠ .rwv ∨ ∀ b, K b → K' b) : OutRw T w K' m x u o R := by
  unfold OutRw at *
  split at h
  · exact h
  · exact h
  · exact h
  · exact h
  · exact h
  · obtain ⟨b, arr, el, x', h1, h2, h3, h4, h5⟩ := h
    exact ⟨b, arr, el, x', h1, h2, h3, h4, RepDs.mono (hK.resolve_left fun h => h rfl) h5⟩
  · exact h.elim
theorem OutsOk.conv {K K' R : Nat → Prop} {ms : List Mode} {as : List (A T)} {us : List Value} {os : List (Out T)} (h : OutsOk T w K ms as us os R) (hK : (∀ m, m ∈ ms → m ≠ .rwv) ∨ ∀ b, K b → K' b) : OutsOk T w K' ms as us os R := by
  induction h with
  | nil => exact .nil
  | ro _ ih => exact .ro (ih (hK.imp (fun h m hm => h m (by simp [hm])) id))
  | rw h1 _ h3 ih => exact .rw (h1.conv (hK.imp (fun h => h _ (by simp)) id)) (ih (hK.imp (fun h m hm => h m (by simp [hm])) id)) h3

theorem lastOk_self {sf : Bool} {f : Nat} : ∀ {as : List (A T)} {g : Nat} {caps : List (A T)}, lastOk sf f as = true → as.getLast? = some (.fn g caps) → SLP ≤ g → sf = true ∧ g = SLP + f
  | [], _, _, _, h, _ => by cases h
  | [a], g, caps, h1, h, hg => by
    simp only [List.getLast?_singleton, Option.some.injEq] at h
    subst h
    have h1 : cond (Nat.ble SLP g) (sf && Nat.beq g (SLP + f)) true = true := h1
    rw [Nat.ble_eq_true_of_le hg, cond_true, Bool.and_eq_true] at h1
    exact ⟨h1.1, nbeq h1.2⟩
  | a :: b :: r, g, caps, h1, h, hg => by
    have h1 : lastOk sf f (b :: r) = true := by
      cases a <;> exact h1
    rw [List.getLast?_cons_cons] at h
    exact lastOk_self h1 h hg
/-- A call. -/
theorem callF_ok (hT : TblOk P T) (hG : Good W0 M0 e s tm w) {sf : Bool} {d f : Nat} {vs : List (V T)} {us : List Value} (hv : RelVs e s w vs us) (hsf : sf = true → SelfV T w f us) {k : V T → M T α} (h : Rn (CallOk P T) (callF sf d f vs k) s a s') :
    FnOk P f ∧ Calls P f us.toArray w fun en w' => ∃ x v s1 e1, en = .returned v ∧ Rn (CallOk P T) (k x) s1 a s' ∧ Good W0 M0 e1 s1 tm w' ∧ Keeps e s w e1 s1 w' ∧ s1.regs = s.regs ∧ RelV e1 s1 w' x v := by
  unfold callF at h
  have hX := argsM_ok hT hG.toG (S0 := fun _ => False) Loose.none hv (fun r hr => hr.elim) h
  clear h
  obtain ⟨as, ro, rw', s1, e1, G1, S1, h, g1, g2, g3, g4, g5, g6, g7, g7a, g8, g9, g10, g11, g12⟩ := hX
  obtain ⟨hlast, h⟩ := rn_cond h
  have hself : SelfOk T w as us := fun g caps h1 h2 => by
    obtain ⟨h3, rfl⟩ := lastOk_self hlast h1 h2
    rw [Nat.add_sub_cancel_left]
    exact hsf h3
  have hro : ∀ r, r ∈ ro → ¬ G1 r := fun r hr hg => (g7a r hg).elim id fun h => g11 r hr h
  have hS1 : Loose W0 M0 e1 w S1 := g3.of fun b hb => .inr hb
  -- what the callee may read
  have hstep : ∃ s2 e2 Kc res, GoodG W0 M0 G1 e2 s2 tm w ∧ Keeps e s w e2 s2 w ∧ Loose W0 M0 e2 w S1 ∧ s2.regs = s.regs ∧ ArgsOk T w Kc (T.sg f).modes as us S1 ∧ (∀ b, e2.K b → Kc b) ∧ (∀ b, Kc b → e2.K b ∨ ∃ r, e2.fp r b) ∧ ((T.sg f).shares = true → ∀ b, Kc b → e2.K b) ∧ CallOk P T f as res ∧
      Rn (CallOk P T) (outsM d (T.sg f).modes vs res.outs 0 fun n => backVs d (T.sg f).rk res.rets n fun xs _ => match xs with
        | [(ag, cs)] => toVal ag cs k
        | xs => k (.tup xs)) s2 a s' := by
    cases hsh : (T.sg f).shares with
    | true =>
      rw [hsh] at h
      obtain ⟨s2, e2, h, r1, r2, r3, r4, r5⟩ := freezeM_ok g1 hS1 hro h
      obtain ⟨res, hok, h⟩ := rn_call h
      exact ⟨s2, e2, e2.K, res, r1, g2.trans r2, r3, r5.trans g6, g12.mono r4, fun _ h => h, fun _ h => .inl h, fun _ _ h => h, hok, h⟩
    | false =>
      rw [hsh] at h
      obtain ⟨res, hok, h⟩ := rn_call h
      exact ⟨s1, e1, e1.RO ro, res, g1, g2, hS1, g6, g12, fun _ h => .inl h, fun b hb => hb.imp id fun ⟨r, _, h⟩ => ⟨r, h⟩, fun h => (by cases h), hok, h⟩
  obtain ⟨s2, e2, Kc, res, r1, r2, r3, r4, r5, r6, r7, r8, hok, h⟩ := hstep
  refine ⟨hok.1, (hok.2 w Kc S1 us r5 hself (fun b hb hk => (r7 b hk).elim (r3.notK b hb) (fun ⟨r, h⟩ => r3.notFp r b hb h)) (fun b hb => hb.elim (r3.lt b) (fun h => r1.rel.lt b (r7 b h)))).mono ?_⟩
  rintro en w' ⟨v, rfl, hpost⟩
  obtain ⟨⟨K', R, R', us', rfl, p1, p2, p3, p4, p5, p6⟩, q1, q2, q3, q4, q5⟩ := hpost
  let Kn : Nat → Prop := fun b => e2.K b ∨ (K' b ∧ ¬ ∃ r, e2.fp r b)
  obtain ⟨m1, m2⟩ := r1.world (K' := Kn) r3 q1 q5 q2 q3 q4 (fun _ h => .inl h) (fun b hb => by
    rcases hb with hb | ⟨hb, hn⟩
    · exact ⟨.inl hb, Nat.lt_of_lt_of_le (r1.rel.lt b (.inl hb)) q1⟩
    · obtain ⟨h1, h2⟩ := p6 b hb
      refine ⟨?_, h1⟩
      rcases h2 with h2 | h2 | h2
      · exact .inl ((r7 b h2).resolve_right hn)
      · exact .inr (.inl h2)
      · exact .inr (.inr h2))
  have hshK : (T.sg f).shares = true → ∀ b, K' b → Kn b := fun hs b hb => by
    by_cases hf : ∃ r, e2.fp r b
    · obtain ⟨r, hf⟩ := hf
      have hlt := r1.rel.lt b (.inr ⟨r, hf⟩)
      rcases (p6 b hb).2 with h2 | h2 | h2
      · exact .inl (r8 hs b h2)
      · exact absurd hf (r3.notFp r b h2)
      · omega
    · exact .inr ⟨hb, hf⟩
  have hL : Loose W0 M0 { e2 with K := Kn } w' (fun b => R b ∨ R' b) := by
    refine ⟨fun b hb hk => ?_, fun r b hb hf => ?_, fun b hb => (p4 b hb).2.1, fun b hb hlt => ?_⟩
    · rcases hk with hk | ⟨hk, _⟩
      · exact (p4 b hb).1 (p5 b (r6 b hk))
      · exact (p4 b hb).1 hk
    · rcases (p4 b hb).2.2 with h2 | h2
      · exact r3.notFp r b h2 hf
      · have := r1.rel.lt b (.inr ⟨r, hf⟩); omega
    · rcases (p4 b hb).2.2 with h2 | h2
      · exact r3.own b h2 hlt
      · have := r1.fr.size; omega
  have hmodes : (∀ m, m ∈ (T.sg f).modes → m ≠ .rwv) ∨ ∀ b, K' b → Kn b := by
    cases hs : (T.sg f).shares with
    | true => exact .inr (hshK hs)
    | false =>
      refine .inl fun m hm hx => ?_
      subst hx
      unfold Sig.shares at hs
      simp only [Bool.or_eq_false_iff] at hs
      have := List.any_eq_false.1 hs.2 _ hm
      simp at this
  have hrk : (T.sg f).rk = .own ∨ ∀ b, K' b → Kn b := by
    cases hs : (T.sg f).shares with
    | true => exact .inr (hshK hs)
    | false =>
      refine .inl ?_
      unfold Sig.shares at hs
      simp only [Bool.or_eq_false_iff] at hs
      have := hs.1
      revert this
      cases (T.sg f).rk <;> simp
  have hX := outsM_ok hT (S0 := R) (e := { e2 with K := Kn }) (p2.conv hmodes) rfl m1 hL p3 ((r2.trans m2).vs hv) g10 h
  clear h
  obtain ⟨s3, e3, G3, n3, h, t1, t2, t3, t4, t5, t6⟩ := hX
  have hX := backVs_ok (S0 := fun _ => False) p1 t1 (t3.of fun b hb => hb.resolve_left id) (fun _ h => h.elim) (by rw [t4]; exact hrk) h
  clear h
  obtain ⟨xs, n4, s4, e4, h, z1, z2, z3, z4, z5, z6⟩ := hX
  have hgood : Good W0 M0 e4 s4 tm w' := z1.toGood fun r hr => by
    obtain ⟨k1, k2⟩ := t6 r hr
    exact (g7 r k1).elim id k2
  have hkeeps : Keeps e s w e4 s4 w' := (r2.trans m2).trans (t2.trans z2)
  have hregs : s4.regs = s.regs := z5.trans (t5.trans r4)
  split at h
  · rename_i ag cs
    obtain ⟨x, h1, h2, h3⟩ := rn_toVal h
    have hl := z6.1
    match us', hl, z6 with
    | [u], _, z6 =>
      have hw := z6.2 0 (ag, cs) u rfl rfl
      refine ⟨x, _, s4, e4, rfl, h1, hgood, hkeeps, hregs, ?_⟩
      rcases h3 with ⟨rfl, rfl⟩ | ⟨rfl, c, rfl, rfl⟩
      · exact hw
      · exact hw.2 0 c u rfl rfl
  · rename_i hne
    refine ⟨_, _, s4, e4, rfl, h, hgood, hkeeps, hregs, us', ?_, z6.1, z6.2⟩
    unfold retVal
    split
    · exfalso
      have hl := z6.1
      match xs, hl, hne with
      | [x], _, hne => exact hne x.1 x.2 rfl
    · rfl
end
end Go.Sm
end

section
set_option linter.unusedVariables false
namespace Go.Sm
variable {T : Tbl} {α : Type}
section
variable {s s' : St T} {P : Program} {e e' : Env} {w w' W0 : World} {M0 : Gh} {tm : Array Value}

theorem keeps_setR (e : Env) (s : St T) (w : World) (d : Nat) (x : V T) : Keeps e s w e (s.setR d x) w := ⟨Oth.refl _, fun _ h => h, fun _ _ => rfl, fun _ _ _ h => h, fun _ _ _ _ h => h, fun _ _ h => h⟩
/-- What the rest of a region's work asks of a state. -/
def Next (W0 : World) (M0 : Gh) (s' : St T) (a : Act) (K : Act → World → Prop) : Prop := ∀ e' a' w', Good W0 M0 e' s' a'.tmps w' → a'.tmps.size = a.tmps.size → a'.defers = a.defers → K a' w'
theorem putM_ok {Ok : Nat → List (A T) → Res T → Prop} {a : Act} {dst : Option Nat} (hd : ∀ d, dst = some d → d < a.tmps.size) (hG : Good W0 M0 e s a.tmps w) {x : V T} {v : Value} (hv : RelV e s w x v) {u : Unit} (h : Rn Ok (putM dst x) s u s') {K : Act → World → Prop} (hK : Next W0 M0 s' a K) :
    K (a.put dst v) w := by
  unfold putM at h
  split at h
  · rename_i d
    obtain ⟨_, rfl⟩ := rn_ret (rn_setR h)
    refine hK e _ w ⟨hG.rel.setR (hd d rfl) ((keeps_setR e s w d x).v hv), hG.fr, ⟨hG.pin.arr, hG.pin.var, hG.pin.hi⟩⟩ ?_ rfl
    simp [Act.put]
  · obtain ⟨_, rfl⟩ := rn_ret h
    exact hK e _ w hG rfl rfl
theorem good_regs (hG : Good W0 M0 e s tm w) : Rel e s tm w := hG.rel

theorem wp_value {o : Oper} {a : Act} {K : Act → World → Prop} {Q : Exit → Act → World → Prop} {v : Value} (h : (execOp a.eval o).run P w = .ok (.value v) w') (hK : K (a.put o.dst v) w') : o.wp P a w K Q := by
  unfold Oper.wp
  rw [h]
  exact hK
theorem wp_skip' {o : Oper} {a : Act} {K : Act → World → Prop} {Q : Exit → Act → World → Prop} (h : (execOp a.eval o).run P w = .ok .skip w') (hK : K (a.put o.dst undef) w') : o.wp P a w K Q := by
  unfold Oper.wp
  rw [h]
  exact hK
theorem rn_evVs {Ok : Nat → List (A T) → Res T → Prop} {α : Type} {x : α} {a : Act} (hR : Rel e s a.tmps w) : ∀ {xs : List Operand} {k : List (V T) → M T α}, Rn Ok (evVs xs k) s x s' → ∃ vs, Rn Ok (k vs) s x s' ∧ RelVs e s w vs (xs.map a.eval)
  | [], k, h => ⟨[], h, trivial⟩
  | y :: xs, k, h => by
    obtain ⟨v, h1, h⟩ := rn_evV h
    obtain ⟨vs, h, h2⟩ := rn_evVs hR h
    exact ⟨_, h, hR.op h1, h2⟩
theorem RelVs.append : ∀ {vs vs' : List (V T)} {us us' : List Value}, RelVs e s w vs us → RelVs e s w vs' us' → RelVs e s w (vs ++ vs') (us ++ us')
  | [], _, [], _, _, h => h
  | [], _, _ :: _, _, h, _ => h.elim
  | _ :: _, _, [], _, h, _ => h.elim
  | v :: vs, _, u :: us, _, h, h' => ⟨h.1, RelVs.append h.2 h'⟩
theorem RelVs.ofCaps : ∀ {cs : List (C T)} {us : List Value}, us.length = cs.length → (∀ (j : Nat) (c : C T) (u : Value), cs[j]? = some c → us[j]? = some u → RelC e s w c u) → RelVs e s w (capVs cs) us
  | [], [], _, _ => trivial
  | [], _ :: _, h, _ => by simp at h
  | _ :: _, [], h, _ => by simp at h
  | c :: cs, u :: us, h, h' => ⟨h' 0 c u rfl rfl, RelVs.ofCaps (by simpa using h) fun j c u h1 h2 => h' (j + 1) c u (by simpa using h1) (by simpa using h2)⟩
theorem relC0_of {c : C T} {u : Value} (hc : ∀ f cs, c ≠ .fn f cs) (h : RelC e s w c u) : RelC0 e s w c u := by
  cases c with
  | fn f cs => exact absurd rfl (hc f cs)
  | _ => simpa only [RelC] using h
theorem relC_of0 {c : C T} {u : Value} (h : RelC0 e s w c u) : RelC e s w c u := by
  cases c with
  | fn f cs => exact h.elim
  | _ => simpa only [RelC] using h
theorem asOne_ok : ∀ {vs : List (V T)} {us : List Value} {cs : List (C T)}, asOne vs = some cs → RelVs e s w vs us → us.length = cs.length ∧ ∀ (j : Nat) (c : C T) (u : Value), cs[j]? = some c → us[j]? = some u → RelC0 e s w c u
  | [], [], cs, h, _ => by simp [asOne] at h; subst h; exact ⟨rfl, fun j c u h => by simp at h⟩
  | [], _ :: _, _, _, h => h.elim
  | .one c :: vs, [], _, _, h => h.elim
  | .one c :: vs, u :: us, cs, h, h' => by
    have hne : ∀ f cs, c ≠ .fn f cs := fun f cs hc => by subst hc; simp [asOne] at h
    have h : (asOne vs).map (c :: ·) = some cs := by
      cases c with
      | fn f cs => exact absurd rfl (hne f cs)
      | _ => simpa only [asOne] using h
    obtain ⟨cs', h1, rfl⟩ := Option.map_eq_some_iff.1 h
    obtain ⟨g1, g2⟩ := asOne_ok h1 h'.2
    refine ⟨by simp [g1], fun j c' u' hj hu => ?_⟩
    cases j with
    | zero => simp at hj hu; subst hj; subst hu; exact relC0_of hne h'.1
    | succ j => exact g2 j c' u' (by simpa using hj) (by simpa using hu)
  | .agg _ :: _, _, _, h, _ => by simp [asOne] at h
  | .tup _ :: _, _, _, h, _ => by simp [asOne] at h
  | .undef :: _, _, _, h, _ => by simp [asOne] at h
  | .skip :: _, _, _, h, _ => by simp [asOne] at h
theorem mkInt (k : IntKind) (n : Int) : RelV e s w (.one (.d (.int k n)) : V T) (.int k n) := RepD.int k n
theorem mkStr (x : ByteArray) : RelV e s w (.one (.d (.str x)) : V T) (.string x) := RepD.str x
theorem mkC {c : C T} {v : Value} (h : RelC e s w c v) : RelV e s w (.one c) v := h
theorem relV_str {x : ByteArray} {v : Value} (h : RelV e s w (.one (.d (.str x)) : V T) v) : v = .string x := by cases h; rfl
theorem relV_int {ki : IntKind} {n : Int} {v : Value} (h : RelV e s w (.one (.d (.int ki n)) : V T) v) : v = .int ki n := by cases h; rfl
theorem relV_bool {b : Bool} {v : Value} (h : RelV e s w (.one (.d (.bool b)) : V T) v) : v = .bool b := by cases h; rfl
theorem rn_optM {Ok : Nat → List (A T) → Res T → Prop} {α : Type} {x : α} {a : Act} (hR : Rel e s a.tmps w) {y : Option Operand} {k : Option Int → M T α} (h : Rn Ok (optM y k) s x s') : ∃ n, Rn Ok (k n) s x s' ∧ OptV n (y.map a.eval) := by
  unfold optM at h
  split at h
  · exact ⟨none, h, trivial⟩
  · obtain ⟨ki, n, h1, h⟩ := rn_evInt h
    exact ⟨some n, h, ki, relV_int (hR.op (ds := a.defers) h1)⟩
end
end Go.Sm
end

section
set_option linter.unusedVariables false
namespace Go.Sm
variable {T : Tbl} {α : Type}
section
variable {Ok : Nat → List (A T) → Res T → Prop} {s s' : St T} {a : α} {P : Program} {e e' : Env} {w w' W0 : World} {M0 : Gh} {tm : Array Value}
/-! ### A variable that is an array, as a slice -/
theorem arrOfCells_ok (hT : TblOk P T) {t : Nat} : ∀ {cs : List (C T)} {l : List (T.U t)}, arrOfCells t cs = some l → l.length = cs.length ∧ ∀ i, i < l.length → ∃ d, cs[i]? = some (.d d) ∧ row T t l i = [d]
  | [], l, h => by cases h; exact ⟨rfl, fun i hi => absurd hi (Nat.not_lt_zero _)⟩
  | c :: cs, l, h => by
    cases c with
    | d d =>
      unfold arrOfCells at h
      split at h
      · rename_i x l' hx hl
        cases h
        obtain ⟨h1, h2⟩ := arrOfCells_ok hT hl
        refine ⟨by simp [h1], fun i hi => ?_⟩
        cases i with
        | zero => exact ⟨d, rfl, hT.get _ _ _ hx⟩
        | succ i =>
          obtain ⟨d', g1, g2⟩ := h2 i (by simpa using hi)
          exact ⟨d', by simpa using g1, by simpa [row] using g2⟩
      · cases h
    | _ => cases h
theorem slicePtr_ok (hT : TblOk P T) (hG : Good W0 M0 e s tm w) {t : Nat} {q : Ref} {rw col : Nat} {u : Value} (hc : RelC e s w (.ptr q rw col) u) {k : C T → M T α} (h : Rn Ok (slicePtr t q rw col k) s a s') :
    ∃ c' val s1 e1, Rn Ok (k c') s1 a s' ∧ Good W0 M0 e1 s1 tm w ∧ RelC e1 s1 w c' val ∧ (Instr.sliceAt t u none none none).run P w = .ok val w := by
  unfold slicePtr at h
  split at h
  · rename_i n el hte
    have hX := rn_cond h
    clear h
    obtain ⟨h0, h⟩ := hX
    simp only [Bool.and_eq_true] at h0
    obtain ⟨⟨h1, h2⟩, h3⟩ := h0
    have h1 := nbeq h1
    have h2 := nbeq h2
    have h3 := nbeq h3
    subst h2
    subst h3
    replace h := rn_getO h
    split at h
    · rename_i o cs ho
      split at h
      · rename_i l hl
        have hX := rn_cond h
        clear h
        obtain ⟨h4, h⟩ := hX
        have h4 := nbeq h4
        replace h := rn_setO h
        obtain ⟨k1, k2, k3⟩ := hG.kill ho
        obtain ⟨g1, g2⟩ := k1.freeze k3
        obtain ⟨b, hb, rfl⟩ := hc.2.2.1 cs ho rfl
        obtain ⟨b', arr, el', e1, e2, e3, e4⟩ := hG.rel.objs _ _ ho
        rw [hb] at e1
        simp only [Option.some.injEq, Addr.mk.injEq, and_true] at e1
        subst e1
        obtain ⟨m1, m2⟩ := arrOfCells_ok hT hl
        have hlen : arr.toList.length = cs.length := e4.1
        have hcell : ∀ i, i < l.length → ∃ d v, row T el l i = [d] ∧ arr[i]? = some v ∧ RepD T w ((e.drop q.r).more (e.fp q.r)).K d v := fun i hi => by
          obtain ⟨d, c1, c2⟩ := m2 i hi
          have hi' : i < arr.size := by have : arr.toList.length = arr.size := Array.length_toList; omega
          refine ⟨d, arr[i], c2, Array.getElem?_eq_getElem hi', ?_⟩
          have := e4.2 i _ (arr[i]) c1 (by rw [Array.getElem?_toList]; exact Array.getElem?_eq_getElem hi')
          exact (k2.trans g2).c this
        refine ⟨_, .slice (some ⟨b, 0, none⟩) n n, _, _, h, g1, ?_, ?_⟩
        · show RepD T w _ (.arr el l) _
          rw [← h4]
          refine RepD.arr el l _ _ (fun i _ => arr.getD i undef) (Nat.le_refl _) (fun _ => ⟨b, 0, rfl⟩) (fun i j d hi hd => ?_) (fun i j d hi hd => ?_)
          · obtain ⟨d', v, c1, c2, c3⟩ := hcell i hi
            rw [c1] at hd
            cases j with
            | succ j => simp at hd
            | zero =>
              refine ⟨b, 0, rfl, .inr e2, ?_⟩
              simp only [h1, Nat.mul_one, Nat.zero_add, Nat.add_zero, World.cell?, e3, Option.isSome_none, Bool.false_eq_true, if_false]
              rw [c2]
              simp [Array.getD, Array.getElem?_eq_some_iff.1 c2 |>.1, (Array.getElem?_eq_some_iff.1 c2).2]
          · obtain ⟨d', v, c1, c2, c3⟩ := hcell i hi
            rw [c1] at hd
            cases j with
            | succ j => simp at hd
            | zero =>
              simp at hd
              subst hd
              have : arr.getD i undef = v := by simp [Array.getD, (Array.getElem?_eq_some_iff.1 c2).1, (Array.getElem?_eq_some_iff.1 c2).2]
              rw [this]
              exact c3
        · have hb := run_sliceBounds (P := P) (w := w) (isS := false) (len := n) (cap := n) (l := 0) (r := n) (lo := none) (hi := none) (lv := none) (hv := none) trivial trivial (Nat.zero_le _) (Nat.le_refl _) (fun _ h => by cases h) (fun _ => rfl) (fun _ h => by cases h) (fun _ => rfl)
          simp [Instr.sliceAt, Instr.sureAddr, run_underlying (hT.arr _ _ _ hte), hb, run_size hT (show 0 < T.size el by omega), addr_add]
      · exact (rn_fail h).elim
    · exact (rn_fail h).elim
  · exact (rn_fail h).elim
theorem isU8_ty {e : Nat} (h : isU8 T e = true) : T.ty e = .int .u8 := by
  unfold isU8 at h
  split at h
  · assumption
  · cases h
theorem strRows_row (hT : TblOk P T) {e : Nat} (he : T.ty e = .int .u8) (b : ByteArray) {i : Nat} (hi : i < (strRows (T := T) e b).length) : ∃ h : i < b.size, row T e (strRows e b) i = [.int .u8 (b.data[i].toNat : Int)] := by
  have hl : (strRows (T := T) e b).length = b.size := by simp [strRows]
  refine ⟨by omega, ?_⟩
  unfold Go.Sm.row
  rw [List.getD_eq_getElem?_getD, List.getElem?_eq_getElem hi]
  simp only [strRows, List.getElem_map, Array.getElem_toList, Option.getD_some]
  obtain ⟨x, hx⟩ := hT.intS e .u8 he (b.data[i].toNat : Int)
  rw [hx]
  exact hT.get _ _ _ hx
theorem strBytesM_ok {Ok : Nat → List (A T) → Res T → Prop} {u : Unit} (hT : TblOk P T) (hG : Good W0 M0 e s tm w) {dst : Option Nat} {src t el : Nat} (hs : T.ty src = .str) (ht : T.ty t = .slice el) {b : ByteArray} {k : C T → M T Unit} (h : Rn Ok (strBytesM dst el b k) s u s') :
    ∃ c' val s1 e1 w1, Rn Ok (k c') s1 u s' ∧ Good W0 M0 e1 s1 tm w1 ∧ RelC e1 s1 w1 c' val ∧ (convert src t (.string b)).run P w = .ok val w1 := by
  unfold strBytesM at h
  split at h
  · rename_i d
    have hX := rn_cond h
    clear h
    obtain ⟨h0, h⟩ := hX
    simp only [Bool.and_eq_true] at h0
    have h8 := isU8_ty h0.1
    have h1 := nbeq h0.2
    have hX := rn_newO h
    clear h
    obtain ⟨⟨h5, h5b⟩, h⟩ := hX
    have hge := grownCap_ge w b.size 0 el
    have hrun := run_bytes_of_string (P := P) w src t el b (hT.str _ hs) (hT.slice _ _ ht) (hT.int _ _ h8)
    have hl : (strRows (T := T) el b).length = b.size := by simp [strRows]
    have hbs : (bytesRow b (grownCap w b.size 0 el)).size = grownCap w b.size 0 el := by
      have : b.data.size = b.size := rfl
      simp [bytesRow, this]; omega
    have hw := NewW.drew w (.cells (bytesRow b (grownCap w b.size 0 el)) el ((bytesRow b (grownCap w b.size 0 el)).size, (bytesRow b (grownCap w b.size 0 el)).size + 1))
    obtain ⟨e2, r1, r2, r3, r4⟩ := Good.newArr (el := (el, true)) (dep := .all) (t := el) (l := strRows el b) hT hG (S := fun _ => False) Loose.none h5 hw (c := grownCap w b.size 0 el) (vals := fun i _ => .int .u8 ((b.data[i]?.getD 0).toNat : Int)) (F := fun _ _ _ => False)
      (by omega) (by rw [hbs, h1]; omega) (fun i j d hi hd => by
        obtain ⟨hi', hr⟩ := strRows_row hT h8 b hi
        rw [hr] at hd
        cases j with
        | succ j => simp at hd
        | zero =>
          have hi2 : i < b.data.size := hi'
          rw [h1, Nat.mul_one, Nat.add_zero]
          unfold bytesRow
          rw [Array.getElem?_append_left (by simpa using hi2), Array.getElem?_map, Array.getElem?_eq_getElem hi2]
          rfl) (fun i j d hi hd => by
        obtain ⟨hi', hr⟩ := strRows_row hT h8 b hi
        rw [hr] at hd
        cases j with
        | succ j => simp at hd
        | zero =>
          have hi2 : i < b.data.size := hi'
          simp at hd
          subst hd
          have : (b.data[i]?.getD 0) = b.data[i] := by rw [Array.getElem?_eq_getElem hi2]; rfl
          show OwnD T w _ (.int .u8 ((b.data[i]?.getD 0).toNat : Int)) _
          rw [this]
          exact .int _ _ _) (fun _ _ _ h => h.elim) (fun _ _ _ _ _ h => h.elim)
    rw [hl] at r3
    exact ⟨_, _, _, e2, _, h, r1, r3, hrun⟩
  · exact (rn_fail h).elim
theorem strRows_src (hT : TblOk P T) {t' el : Nat} (ht' : T.ty t' = .str) (h1 : T.size el = 1) (b : ByteArray) : Go.Src P (T.size el) t' (.string b) (strRows (T := T) el b).length (newsOf (strRows (T := T) el b).length (T.size el) fun i _ => .int .u8 ((b.data[i]?.getD 0).toNat : Int)) w := by
  have hl : (strRows (T := T) el b).length = b.size := by simp [strRows]
  have hsz : b.data.size = b.size := rfl
  have he : newsOf b.size 1 (fun i _ => Value.int .u8 ((b.data[i]?.getD 0).toNat : Int)) = byteCells b := by
    apply List.ext_getElem?
    intro k
    unfold newsOf byteCells
    simp only [Nat.mul_one, Nat.div_one, List.getElem?_map, List.getElem?_range, Array.getElem?_toList]
    by_cases hk : k < b.size
    · simp only [List.getElem?_range hk, Array.getElem?_eq_getElem (show k < b.data.size by omega), Option.map_some, Option.getD_some]
    · rw [List.getElem?_eq_none (by rw [List.length_range]; omega), Array.getElem?_eq_none (by omega)]; rfl
  rw [hl, h1, he]
  exact Go.Src.ofString w (hT.str _ ht') b
theorem appendSM_ok {Ok : Nat → List (A T) → Res T → Prop} {u0 : Unit} (hT : TblOk P T) (hG : Good W0 M0 e s tm w) {dd t ty t' el : Nat} (hty : T.ty t = .slice el) (ht' : T.ty t' = .str) {x : C T} {u : Value} (hx : RelC e s w x u) {b : ByteArray} {k : C T → M T Unit} (h : Rn Ok (appendSM dd el x b k) s u0 s') :
    Made Ok P W0 M0 e s tm w k u0 s' (Builtin.append_ #[t, t'] ty #[u, .string b]) := by
  unfold appendSM at h
  have hX := rn_cond h
  clear h
  obtain ⟨h0, h⟩ := hX
  simp only [Bool.and_eq_true] at h0
  have h8 := isU8_ty h0.1
  have h1 := nbeq h0.2
  refine appendB_ok (F2 := fun _ _ _ => False) hT hG Loose.none hty hx (strRows_src hT ht' h1 b) (fun i j d hi hd => ?_) (fun _ _ _ h => h.elim) (fun _ _ _ _ _ h => h.elim) (fun _ => rfl) h
  obtain ⟨hi', hr⟩ := strRows_row hT h8 b hi
  rw [hr] at hd
  cases j with
  | succ j => simp at hd
  | zero =>
    have hi2 : i < b.data.size := hi'
    simp at hd
    subst hd
    have : (b.data[i]?.getD 0) = b.data[i] := by rw [Array.getElem?_eq_getElem hi2]; rfl
    refine ⟨fun _ => ?_, fun h => by cases h⟩
    show OwnD T w _ (.int .u8 ((b.data[i]?.getD 0).toNat : Int)) _
    rw [this]
    exact .int _ _ _
theorem sliceP_ok (hT : TblOk P T) (hG : Good W0 M0 e s tm w) {t : Nat} {c : C T} {u : Value} (hc : RelC e s w c u) {lo hi mx : Option Int} {lv hv mv : Option Value} (hlv : OptV lo lv) (hhv : OptV hi hv) (hmv : OptV mx mv)
    {k : C T → M T α} (h : Rn Ok (sliceP t c lo hi mx k) s a s') (hsz : ∀ el, T.ty t = .slice el → 0 < T.size el) :
    ∃ c' val s1 e1, Rn Ok (k c') s1 a s' ∧ Good W0 M0 e1 s1 tm w ∧ RelC e1 s1 w c' val ∧ (Instr.sliceAt t u lv hv mv).run P w = .ok val w := by
  unfold sliceP at h
  split at h
  · split at h
    · cases lv with
      | some v => cases hlv
      | none =>
        cases hv with
        | some v => cases hhv
        | none =>
          cases mv with
          | some v => cases hmv
          | none => exact slicePtr_ok hT hG hc h
    · exact (rn_fail h).elim
  · obtain ⟨c', val, g, g1, g2⟩ := sliceM_ok hT hG.rel hc hlv hhv hmv h hsz
    exact ⟨c', val, s, e, g, hG, g1, g2⟩
end
end Go.Sm
end

section
set_option linter.unusedVariables false
namespace Go.Sm
variable {T : Tbl} {α : Type}
section
variable {Ok : Nat → List (A T) → Res T → Prop} {s s' : St T} {a : α} {P : Program} {e e' : Env} {w w' W0 : World} {M0 : Gh} {tm : Array Value}
/-! ### What a row leads to is taken out to be given away -/
theorem Good.instal (hG : Good W0 M0 e s tm w) {u : Value} {S : Nat → Prop} (hS : Loose W0 M0 e w S) {r t : Nat} {l : List (T.U t)} (hr : s.objs r = none) (ho : OwnD T w (.arr t l) u S) :
    ∃ e1, Good W0 M0 e1 (s.setO r (some (.arr t l 0 0 .all false))) tm w ∧ Keeps e s w e1 (s.setO r (some (.arr t l 0 0 .all false))) w ∧ RelC e1 (s.setO r (some (.arr t l 0 0 .all false))) w (.own ⟨r, 0, none⟩ t none false) u := by
  obtain ⟨A, c, vals, F, rfl, hA⟩ := (OwnD.arr_iff e.K).1 ho
  obtain ⟨k1, k2⟩ := hG.toG.install hS (F := S) (fun b hb => hb) hr (.arr t l 0 0 .all false) A c
  have k3 := k2 ⟨vals, F, by rw [Env.put_adr, Env.put_cap, Env.put_fp_eq]; exact hA⟩
  exact ⟨_, k3.toGood fun _ h => h, k1, own_rel (setO_objs _ _ _) t (Env.put_adr ..) (Env.put_cap ..)⟩
theorem liftC_ok (hG : Good W0 M0 e s tm w) {id : Nat} {c : C T} {u : Value} (hc : RelC e s w c u) {k : C T → M T α} (h : Rn Ok (liftC id c k) s a s') :
    ∃ c1 s1 e1, Rn Ok (k c1) s1 a s' ∧ Good W0 M0 e1 s1 tm w ∧ Keeps e s w e1 s1 w ∧ s1.regs = s.regs ∧ RelC e1 s1 w c1 u := by
  unfold liftC at h
  split at h
  · rename_i q t0 rng ex
    split at h
    · obtain ⟨d, s1, e1, S, h, g1, g2, g3, g4, g5, g6⟩ := takeRow_ok hG hc h
      split at h
      · rename_i t l
        obtain ⟨⟨h0, h0b⟩, h⟩ := rn_newO h
        obtain ⟨e2, k1, k2, k3⟩ := g1.instal g3 h0 g6
        exact ⟨_, _, e2, h, k1, g2.trans k2, g5, k3⟩
      · exact (rn_fail h).elim
    · exact ⟨_, s, e, h, hG, .refl, rfl, hc⟩
  · exact ⟨_, s, e, h, hG, .refl, rfl, hc⟩
theorem liftCs_ok {id : Nat} : ∀ {cs : List (C T)} {us : List Value} {e : Env} {s : St T} (hG : Good W0 M0 e s tm w) (hc : RelCs e s w cs us) {k : List (C T) → M T α} (h : Rn Ok (liftCs id cs k) s a s'),
    ∃ cs1 s1 e1, Rn Ok (k cs1) s1 a s' ∧ Good W0 M0 e1 s1 tm w ∧ Keeps e s w e1 s1 w ∧ s1.regs = s.regs ∧ RelCs e1 s1 w cs1 us
  | [], us, e, s, hG, hc, k, h => ⟨_, s, e, h, hG, .refl, rfl, hc⟩
  | c :: cs, [], e, s, hG, hc, k, h => by have := hc.1; simp at this
  | c :: cs, u :: us, e, s, hG, hc, k, h => by
    obtain ⟨h1, h2⟩ := hc.tail
    obtain ⟨c1, s1, e1, h, g1, g2, g3, g4⟩ := liftC_ok hG h1 h
    obtain ⟨cs1, s2, e2, h, k1, k2, k3, k4⟩ := liftCs_ok g1 (g2.cs h2) h
    exact ⟨_, s2, e2, h, k1, g2.trans k2, k3.trans g3, .cons (k2.c g4) k4⟩
theorem liftV_ok {id : Nat} (hG : Good W0 M0 e s tm w) {v : V T} {u : Value} (hv : RelV e s w v u) {k : V T → M T α} (h : Rn Ok (liftV id v k) s a s') :
    ∃ v1 s1 e1, Rn Ok (k v1) s1 a s' ∧ Good W0 M0 e1 s1 tm w ∧ Keeps e s w e1 s1 w ∧ s1.regs = s.regs ∧ RelV e1 s1 w v1 u := by
  unfold liftV at h
  split at h
  · obtain ⟨c1, s1, e1, h, g1, g2, g3, g4⟩ := liftC_ok hG hv h
    exact ⟨_, s1, e1, h, g1, g2, g3, g4⟩
  · obtain ⟨us, rfl, hc⟩ := hv
    obtain ⟨c1, s1, e1, h, g1, g2, g3, g4⟩ := liftCs_ok hG hc h
    exact ⟨_, s1, e1, h, g1, g2, g3, us, rfl, g4⟩
  · exact ⟨_, s, e, h, hG, .refl, rfl, hv⟩
theorem liftA_ok {id : Nat} (hG : Good W0 M0 e s tm w) {m : Mode} {v : V T} {u : Value} (hv : RelV e s w v u) {k : V T → M T α} (h : Rn Ok (liftA id m v k) s a s') :
    ∃ v1 s1 e1, Rn Ok (k v1) s1 a s' ∧ Good W0 M0 e1 s1 tm w ∧ Keeps e s w e1 s1 w ∧ s1.regs = s.regs ∧ RelV e1 s1 w v1 u := by
  cases m with
  | mv => exact liftV_ok hG hv h
  | _ => exact ⟨_, s, e, h, hG, .refl, rfl, hv⟩
theorem liftAs_ok {id : Nat} : ∀ {ms : List Mode} {vs : List (V T)} {us : List Value} {e : Env} {s : St T} (hG : Good W0 M0 e s tm w) (hv : RelVs e s w vs us) {k : List (V T) → M T α} (h : Rn Ok (liftAs id ms vs k) s a s'),
    ∃ vs1 s1 e1, Rn Ok (k vs1) s1 a s' ∧ Good W0 M0 e1 s1 tm w ∧ Keeps e s w e1 s1 w ∧ s1.regs = s.regs ∧ RelVs e1 s1 w vs1 us
  | [], vs, us, e, s, hG, hv, k, h => ⟨_, s, e, by unfold liftAs at h; exact h, hG, .refl, rfl, hv⟩
  | _ :: _, [], us, e, s, hG, hv, k, h => ⟨_, s, e, by unfold liftAs at h; exact h, hG, .refl, rfl, hv⟩
  | m :: ms, v :: vs, [], e, s, hG, hv, k, h => hv.elim
  | m :: ms, v :: vs, u :: us, e, s, hG, hv, k, h => by
    unfold liftAs at h
    obtain ⟨v1, s1, e1, h, g1, g2, g3, g4⟩ := liftA_ok hG hv.1 h
    obtain ⟨vs1, s2, e2, h, k1, k2, k3, k4⟩ := liftAs_ok g1 (g2.vs hv.2) h
    exact ⟨_, s2, e2, h, k1, g2.trans k2, k3.trans g3, k2.v g4, k4⟩
end
end Go.Sm
end

section
set_option linter.unusedVariables false
namespace Go.Sm
variable {T : Tbl} {α : Type}
section
variable {Ok : Nat → List (A T) → Res T → Prop} {s s' : St T} {a : α} {P : Program} {e e' : Env} {w w' W0 : World} {M0 : Gh} {tm : Array Value}
/-! ### A store of what leads on into a row of what a row leads to -/
theorem deepBack_ok (hT : TblOk P T) (hG : Good W0 M0 e s tm w) {q : Ref} {t0 t0' : Nat} {u : Value} (hq : RelC e s w (.own q t0 none false) u) (hs : RelC e s w (.own ⟨STO, 0, none⟩ t0' none false) u) {k : M T α} (h : Rn Ok (deepBack q k) s a s') :
    ∃ s1 e1, Rn Ok k s1 a s' ∧ Good W0 M0 e1 s1 tm w ∧ Keeps e s w e1 s1 w ∧ s1.regs = s.regs := by
  unfold deepBack at h
  replace h := rn_getO h
  split at h
  · rename_i t3 l3 ver2 nver2 hoS
    have hX := rn_cond h
    clear h
    obtain ⟨h0, h⟩ := hX
    have h0 := nbeq h0
    subst h0
    replace h := rn_setO h
    replace h := rn_getO h
    obtain ⟨valsS, FS, hAS⟩ := hG.rel.objs _ _ hoS
    have hownS : OwnD T w (.arr t3 l3) (.slice (e.adr STO) l3.length (e.cap STO)) (e.fp STO) := (OwnD.arr_iff e.K).2 ⟨_, _, valsS, FS, rfl, hAS⟩
    have hiS : refInfo s ⟨STO, 0, none⟩ = some ⟨t3, l3⟩ := by unfold refInfo; simp only [hoS]; rfl
    obtain ⟨AS, cS, hatS, hslS⟩ := hs.2.2 _ _ hiS
    unfold RefAt at hatS
    simp only at hatS
    obtain ⟨rfl, rfl⟩ := hatS
    have hu : u = .slice (e.adr STO) l3.length (e.cap STO) := hslS
    obtain ⟨k1, k2, k3⟩ := hG.toG.kill hoS (fun h => h)
    have hq2 := k2.c hq
    split at h
    · rename_i t1 l1 ver nver hh pin i c ho' hp
      have hX := rn_cond h
      clear h
      obtain ⟨h0, h⟩ := hX
      simp only [Bool.and_eq_true] at h0
      have hver := nbeq h0.1
      have hcnt := nbeq h0.2
      have hX := rn_must h
      clear h
      obtain ⟨hhi, h⟩ := hX
      subst hhi
      have hX := rn_must h
      clear h
      obtain ⟨hi, h⟩ := hX
      split at h
      · rename_i t4 l4 hd2
        have hX := rn_withL h
        clear h
        obtain ⟨rfl, h⟩ := hX
        split at h
        · rename_i x hx
          replace h := rn_setO h
          have hinf : refInfo (s.setO STO (some .dead)) q = some ⟨t3, l4⟩ := by
            unfold refInfo
            simp only [ho', hp]
            rw [if_pos (NV.has_of hver), if_pos hi]
            change (match (Go.Sm.row T t1 l1 hh)[c]? with | some (.arr t' l') => some (⟨t', l'⟩ : (t : Nat) × List (T.U t)) | _ => none) = _
            rw [show (Go.Sm.row T t1 l1 hh)[c]? = some (.arr t3 l4) from hd2]
          obtain ⟨A, cc, hat, hsl⟩ := hq2.2.2 _ _ hinf
          unfold RefAt at hat
          simp only [hp] at hat
          obtain ⟨t5, l5, ver5, nver5, dep5, pin5, b, off, n3, j1, j2, j3, j4⟩ := hat
          rw [ho'] at j1
          cases j1
          have hu2 : u = .slice A l4.length cc := hsl
          have hn : n3 = l4.length := by
            obtain ⟨vals, F0, hO⟩ := k1.rel.objs _ _ (fun h => h) ho'
            have hcell := hO.vals_at j3 hi hd2
            rw [j4] at hcell
            rcases hO.hsub hh c _ hi hd2 with ⟨_, _, A2, n2, c2, e2, e3⟩ | h
            · rw [e2] at hcell
              simp only [Option.some.injEq, Value.slice.injEq] at hcell
              rw [hcell.2.1]
              exact e3 _ _ rfl
            · obtain ⟨A2, c2, _, _, e2, _⟩ := (OwnD.arr_iff e.K).1 h
              rw [e2] at hcell
              simp only [Option.some.injEq, Value.slice.injEq] at hcell
              exact hcell.2.1
          have hlen : l3.length = l4.length := by
            rw [hu] at hu2
            simp only [Value.slice.injEq] at hu2
            exact hu2.2.1
          obtain ⟨m1, m2⟩ := k1.fill hT (F := e.fp STO) (u := u) k3 (fun b hb => hb) ho' hi hd2 hcnt hlen j3 (by rw [hu2, ← hn]; exact j4) (by rw [hu]; exact hownS) (hT.get _ _ _ hx)
          exact ⟨_, _, h, m1.toGood fun _ h => h, k2.trans m2, rfl⟩
        · exact (rn_fail h).elim
      · exact (rn_fail h).elim
    · exact (rn_fail h).elim
  · exact (rn_fail h).elim
theorem deepM_ok (hT : TblOk P T) (hG : Good W0 M0 e s tm w) {t : Nat} (hst : T.size t = 1) {q : Ref} {row col : Nat} {pv u : Value} (hp : RelPtr e s w q row col pv) {v : C T} (hv : RelC e s w v u) (hone : u.cells = #[u]) {k : M T α} (h : Rn Ok (deepM t q row col v k) s a s') :
    Did Ok P W0 M0 e s tm w k a s' (Instr.storeAt t pv u) := by
  unfold deepM at h
  replace h := rn_getO h
  split at h
  · rename_i t1 l1 ver nver pin i c ho hqp
    have hX := rn_cond h
    clear h
    obtain ⟨h0, h⟩ := hX
    have hver := nbeq h0
    have hX := rn_must h
    clear h
    obtain ⟨hi, h⟩ := hX
    split at h
    · rename_i t2 l2 hd
      have h := rn_setO h
      have hX := rn_newO h
      clear h
      obtain ⟨⟨hr0, hr0b⟩, h⟩ := hX
      have hinf : refInfo s q = some ⟨t2, l2⟩ := by
        unfold refInfo
        simp only [ho, hqp]
        rw [if_pos (NV.has_of hver), if_pos hi]
        change (match (Go.Sm.row T t1 l1 i)[c]? with | some (.arr t' l') => some (⟨t', l'⟩ : (t : Nat) × List (T.U t)) | _ => none) = _
        rw [show (Go.Sm.row T t1 l1 i)[c]? = some (.arr t2 l2) from hd]
      obtain ⟨b, off, cc, hat, hpv⟩ := hp.2.2.2 _ _ hinf
      have hu0 : RelC e s w (.own q 0 none false : C T) (.slice (some ⟨b, off, none⟩) l2.length cc) := ⟨hp.1, ⟨_, _, _, rfl⟩, fun t l hi' => by
        rw [hinf] at hi'
        cases hi'
        exact ⟨_, _, hat, rfl⟩⟩
      unfold RefAt at hat
      simp only [hqp] at hat
      obtain ⟨t5, l5, ver5, nver5, dep5, pin5, b0, off0, n3, j1, j2, j3, j4⟩ := hat
      rw [ho] at j1
      cases j1
      obtain ⟨e1, S, g1, g2, g3, g4, g5, _, _, _⟩ := hG.toG.hole ho hi hd j3 j4
      have g1 := g1.toGood fun _ h => h
      have hn : n3 = l2.length := by
        obtain ⟨A', c', _, _, he, _⟩ := (OwnD.arr_iff e.K).1 g5
        simp only [Value.slice.injEq] at he
        exact he.2.1
      subst hn
      obtain ⟨e2, m1, m2, m3⟩ := g1.instal g4 hr0 g5
      have hk2 := g2.trans m2
      have hiS : refInfo ((s.setO q.r (some (.arr t1 l1 ver nver (.hole i) pin))).setO STO (some (.arr t2 l2 0 0 .all false))) ⟨STO, 0, none⟩ = some ⟨t2, l2⟩ := by unfold refInfo; simp only [setO_objs]; rfl
      have hpS : RelPtr e2 ((s.setO q.r (some (.arr t1 l1 ver nver (.hole i) pin))).setO STO (some (.arr t2 l2 0 0 .all false))) w ⟨STO, 0, none⟩ row col pv := by
        refine ⟨m3.1, hp.2.1, fun cs hcs _ => (by rw [setO_objs] at hcs; cases hcs), fun t' l' hi' => ?_⟩
        rw [hiS] at hi'
        cases hi'
        obtain ⟨A, c', hatS, hslS⟩ := m3.2.2 _ _ hiS
        have hslS : Value.slice (some ⟨b, off, none⟩) l2.length cc = .slice A l2.length c' := hslS
        simp only [Value.slice.injEq, true_and] at hslS
        obtain ⟨rfl, rfl⟩ := hslS
        exact ⟨b, off, _, hatS, hpv⟩
      have hcs : RelCs e2 ((s.setO q.r (some (.arr t1 l1 ver nver (.hole i) pin))).setO STO (some (.arr t2 l2 0 0 .all false))) w [v] [u] := .cons (hk2.c hv) ⟨rfl, fun j c u hj => by cases hj⟩
      have hX := moveCs_ok m1 Loose.none hcs h
      clear h
      obtain ⟨ds, own, s3, e3, S3, F, h, p1, p2, p3, p4, p5, p6, p7, p8, p9, p10, p11, p12, p13⟩ := hX
      obtain ⟨s4, e4, w4, q1, q2, q3, q4, q5⟩ := storeArr_ok (v := u) (t := t) hT p1 (S1 := S3) ⟨fun b hb => p3.notK b (.inr hb), fun r b hb => p3.notFp r b (.inr hb), fun b hb => p3.lt b (.inr hb), fun b hb => p3.own b (.inr hb)⟩ (p2.ptr _ _ _ _ hpS)
        (by rw [p5]; exact p11.fix t) p12 p13 (RelCs.one hcs) (by rw [hone]) (by omega) (by rw [hone, hst]; rfl) h
      have hk4 := (m2.trans p2).trans q3
      obtain ⟨s6, e6, r1, r2, r3, r4⟩ := deepBack_ok hT q2 (hk4.c (g2.c hu0)) ((p2.trans q3).c m3) q1
      exact ⟨s6, e6, w4, r1, r2, (g2.trans hk4).trans r3, r4.trans (q4.trans p6), q5⟩
    · exact (rn_fail h).elim
  · exact (rn_fail h).elim
theorem storeD_ok (hT : TblOk P T) (hG : Good W0 M0 e s tm w) {t : Nat} (hst : 0 < T.size t) {c : C T} {v : V T} {pv u : Value} (hp : RelC e s w c pv) (hv : RelV e s w v u) {k : M T α} (h : Rn Ok (storeD t c v k) s a s') :
    Did Ok P W0 M0 e s tm w k a s' (Instr.storeAt t pv u) := by
  unfold storeD at h
  split at h
  · rename_i q row col q' t' rng ex
    cases hb : (q.p.isSome && !q'.p.isSome) with
    | true =>
      rw [hb, cond_true] at h
      have hX := rn_cond h
      clear h
      obtain ⟨h0, h⟩ := hX
      obtain ⟨A, n, c, he⟩ := hv.2.1
      exact deepM_ok hT hG (nbeq h0) hp (show RelC e s w (.own q' t' rng ex) u from hv) (by rw [he]; rfl) h
    | false =>
      rw [hb, cond_false] at h
      exact storeM_ok hT hG hst hp hv h
  · exact storeM_ok hT hG hst hp hv h
end
end Go.Sm
end

section
set_option linter.unusedVariables false
namespace Go.Sm
variable {T : Tbl} {α : Type}
section
variable {s s' : St T} {a : α} {P : Program} {e e' : Env} {w w' W0 : World} {M0 : Gh} {tm : Array Value}
/-! ### A function's value is called -/
theorem callM1_ok (hT : TblOk P T) (hG : Good W0 M0 e s tm w) {sf : Bool} {d g : Nat} {caps : List (C T)} {vs : List (V T)} {vus us : List Value} (hvs : RelVs e s w vs vus) (hul : us.length = caps.length)
    (hus : ∀ (j : Nat) (c : C T) (u : Value), caps[j]? = some c → us[j]? = some u → RelC e s w c u) (hsf : sf = true → SelfV T w g (vus ++ us)) {k : V T → M T α} (h : Rn (CallOk P T) (callM1 sf d g caps vs k) s a s') :
    FnOk P g ∧ Calls P g (vus ++ us).toArray w fun en w' => ∃ x v s1 e1, en = .returned v ∧ Rn (CallOk P T) (k x) s1 a s' ∧ Good W0 M0 e1 s1 tm w' ∧ RelV e1 s1 w' x v := by
  unfold callM1 at h
  have hcaps : RelVs e s w (capVs caps) us := RelVs.ofCaps hul hus
  have hX := liftAs_ok hG (RelVs.append hvs hcaps) h
  clear h
  obtain ⟨vs1, s1, e1, h, hG, hK1, hr1, hvs1⟩ := hX
  have hX := sealAs_ok hG h
  clear h
  obtain ⟨s2, h, hG2, hK2, hr2⟩ := hX
  obtain ⟨hfn, hcalls⟩ := callF_ok hT hG2 (hK2.vs hvs1) hsf h
  refine ⟨hfn, hcalls.mono ?_⟩
  rintro en w' ⟨x, v, s1, e1, rfl, k1, k2, k3, k4, k5⟩
  exact ⟨x, v, s1, e1, rfl, k1, k2, k5⟩
theorem callOpts_ok (hT : TblOk P T) (hG : Good W0 M0 e s tm w) {d : Nat} {vs : List (V T)} {vus : List Value} (hvs : RelVs e s w vs vus) {u : Value} {us : List Value} {bs offs : Nat → Nat} {vals : Nat → Nat → Value} {k : V T → M T α} :
    ∀ {opts : List (Bool × Nat × List ((u : Nat) × T.U u))}, (∀ f cs, fpick opts = some (f, cs) → u = .func (.func f) #[] us.toArray ∧ us.length = cs.length) →
    (∀ f cs, fpick opts = some (f, cs) → ∀ (j : Nat) (c : (u : Nat) × T.U u), cs[j]? = some c → us[j]? = some (.pointer (some ⟨bs j, offs j, none⟩))) →
    (∀ f cs, fpick opts = some (f, cs) → ∀ (j : Nat) (c : (u : Nat) × T.U u) (i : Nat) (d : D T.U), cs[j]? = some c → (T.dget c.1 c.2)[i]? = some d → e.K (bs j) ∧ w.cell? ⟨bs j, offs j + i, none⟩ = some (vals j i)) →
    (∀ f cs, fpick opts = some (f, cs) → ∀ (j : Nat) (c : (u : Nat) × T.U u) (i : Nat) (d : D T.U), cs[j]? = some c → (T.dget c.1 c.2)[i]? = some d → RepD T w e.K d (vals j i)) →
    Rn (CallOk P T) (callOpts d vs k opts) s a s' →
    ∃ (g : Nat) (us : List Value), u = .func (.func g) #[] us.toArray ∧ FnOk P g ∧ Calls P g (vus ++ us).toArray w fun en w' => ∃ x v s1 e1, en = .returned v ∧ Rn (CallOk P T) (k x) s1 a s' ∧ Good W0 M0 e1 s1 tm w' ∧ RelV e1 s1 w' x v
  | [], _, _, _, _, h => (rn_fail h).elim
  | (b, f, cs) :: r, hv, hp, hc, hr, h => by
    unfold callOpts at h
    have hX := rn_br h
    clear h
    rcases hX with ⟨hb, h⟩ | ⟨hb, h⟩
    · subst hb
      obtain ⟨h1, h2⟩ := hv f cs rfl
      refine ⟨f, us, h1, callM1_ok hT hG hvs (by simpa [capR] using h2) (fun j c u hj hu => relC_of0 ?_) (fun h => by cases h) h⟩
      obtain ⟨x, hx, rfl⟩ := (by simpa [capR] using hj : ∃ x, cs[j]? = some x ∧ _ = c)
      have h3 := hp f cs rfl j x hx
      rw [hu] at h3
      cases h3
      exact ⟨bs j, offs j, vals j, rfl, fun i d hd => ⟨(hc f cs rfl j x i d hx hd).1, (hc f cs rfl j x i d hx hd).2, hr f cs rfl j x i d hx hd⟩⟩
    · subst hb
      exact callOpts_ok hT hG hvs (opts := r) hv hp hc hr h
theorem callM_ok (hT : TblOk P T) (hG : Good W0 M0 e s tm w) {d : Nat} {fv : V T} {u : Value} (hu : RelV e s w fv u) {vs : List (V T)} {vus : List Value} (hvs : RelVs e s w vs vus) {k : V T → M T α} (h : Rn (CallOk P T) (callM d fv vs k) s a s') :
    ∃ (g : Nat) (us : List Value), u = .func (.func g) #[] us.toArray ∧ FnOk P g ∧ Calls P g (vus ++ us).toArray w fun en w' => ∃ x v s1 e1, en = .returned v ∧ Rn (CallOk P T) (k x) s1 a s' ∧ Good W0 M0 e1 s1 tm w' ∧ RelV e1 s1 w' x v := by
  unfold callM at h
  split at h
  · rename_i g caps
    obtain ⟨us, hfv, hul, hus⟩ := hu
    cases hfb : Nat.blt g SLF with
    | true =>
      rw [hfb, cond_true] at h
      rw [Nat.blt_eq] at hfb
      have hfv := hfv.plain hfb
      subst hfv
      exact ⟨g, us, rfl, callM1_ok hT hG hvs hul (fun j c u hj hu => relC_of0 (hus j c u hj hu)) (fun h => by cases h) h⟩
    | false =>
      rw [hfb, cond_false] at h
      obtain ⟨hb, h⟩ := rn_cond h
      rw [Bool.and_eq_true, Nat.blt_eq] at hb
      have hlen := nbeq hb.2
      rcases hfv with ⟨hlt, _⟩ | ⟨hge, b, f, g0, g1, g2, g3, ⟨rfl, _, rfl⟩ | ⟨rfl, _⟩⟩ | ⟨e3, _⟩
      case inr.inr => exact absurd hb.1 (by simp only [SLB, SLP] at e3 ⊢; omega)
      · exact absurd (show Nat.blt g SLF = true by rw [Nat.blt_eq]; exact hlt) (by rw [hfb]; decide)
      · rw [Nat.add_sub_cancel_left] at h hlen
        have hcl : 0 < caps.length := by
          cases us with
          | nil => cases g1
          | cons x r => rw [← hul]; exact Nat.succ_pos _
        have hlast : us[us.length - 1]? = some (.pointer (some ⟨b, 0, none⟩)) := by rw [← List.getLast?_eq_getElem?]; exact g1
        refine ⟨f, us, rfl, callM1_ok hT hG hvs (by rw [List.length_append, List.length_dropLast, hul]; simp only [List.length_singleton]; omega) (fun j c u hj hu => ?_) (fun _ => ⟨b, vus, us, rfl, by rw [hul, hlen], g1, g3⟩) h⟩
        by_cases hjl : j < caps.length - 1
        · rw [List.getElem?_append_left (by rw [List.length_dropLast]; exact hjl), List.getElem?_dropLast, if_pos hjl] at hj
          exact relC_of0 (hus j c u hj hu)
        · rw [List.getElem?_append_right (by rw [List.length_dropLast]; omega), List.length_dropLast] at hj
          have hj1 : j = caps.length - 1 := by
            have := (List.getElem?_eq_some_iff.1 hj).1
            simp only [List.length_singleton] at this
            omega
          rw [hj1, Nat.sub_self] at hj
          cases hj
          rw [hj1, ← hul, hlast] at hu
          cases hu
          exact ⟨us, .inr (.inl ⟨by simp only [SLF]; omega, b, f, g0, g1, g2, g3, .inr ⟨by simp only [SLF, SLP]; omega, rfl⟩⟩), hul, hus⟩
      · exact absurd hb.1 (Nat.not_lt.2 (Nat.le_add_right _ _))
  · rename_i t x
    cases (show RepD T w e.K (.fn t x) u from hu) with
    | fn _ _ _ us bs offs vals h1 hv hp hc hr => exact callOpts_ok hT hG hvs hv hp hc hr h
  · exact (rn_fail h).elim
end
end Go.Sm
end

section
set_option linter.unusedVariables false
namespace Go.Sm
variable {T : Tbl}
section
variable {s s' : St T} {P : Program} {e e' : Env} {w w' W0 : World} {M0 : Gh} {tm : Array Value}

theorem elOk_slice {t el : Nat} (h : elOk T t = true) (hty : T.ty t = .slice el) : 0 < T.size el := by unfold elOk at h; rw [hty] at h; exact nble h
theorem elOk_arr {t m el : Nat} (h : elOk T t = true) (hty : T.ty t = .arr m el) : 0 < T.size el := by unfold elOk at h; rw [hty] at h; exact nble h
theorem Next.sub {a a' : Act} {K : Act → World → Prop} (h : Next W0 M0 s' a K) (h1 : a'.tmps.size = a.tmps.size) (h2 : a'.defers = a.defers) : Next W0 M0 s' a' K := fun e b w' hG g1 g2 => h e b w' hG (g1.trans h1) (g2.trans h2)
theorem RelVs.toList {us : Array Value} : us = us.toList.toArray := by simp

theorem builtinM_ok (hT : TblOk P T) (hG : Good W0 M0 e s tm w) {o : Oper} {a : Act} (ha : a.tmps = tm) (hd : ∀ d, o.dst = some d → d < a.tmps.size) {b : Builtin} {args : Array Operand} {ts : Array Nat} (ho : o.op = .call { callee := .builtin b, args := args, argTypes := ts }) {vs : List (V T)} (hv : RelVs e s w vs (args.toList.map a.eval)) {u : Unit}
    (h : Rn (CallOk P T) (builtinM o.dst b ts.toList vs) s u s') {K : Act → World → Prop} {Q : Exit → Act → World → Prop} (hK : Next W0 M0 s' a K) : o.wp P a w K Q := by
  subst ha
  obtain ⟨consts, hexec⟩ : ∃ consts, execOp a.eval o = builtin b ts o.type consts (args.map a.eval) := ⟨_, by unfold execOp; rw [ho]; rfl⟩
  have hargs : args.map a.eval = (args.toList.map a.eval).toArray := by apply Array.toList_inj.1; simp
  rw [hargs] at hexec
  generalize args.toList.map a.eval = us at *
  have htl : ts = ts.toList.toArray := Array.toArray_toList.symm
  generalize htll : ts.toList = tl at *
  subst htl
  unfold builtinM at h
  split at h
  · rename_i t r c
    match us, hv with
    | [u1], hv =>
      have hX := lenM_ok hT hG.rel hv.1 (ty := o.type) h r
      clear h
      obtain ⟨n, h, h1⟩ := hX
      refine wp_value (v := .int .i64 n) (w' := w) (by rw [hexec]; simp [builtin, h1]) (putM_ok hd hG (mkInt _ _) h hK)
    | [], hv => exact hv.elim
    | _ :: _ :: _, hv => exact hv.2.elim
  · rename_i t t' x y
    match us, hv with
    | [u1, u2], hv =>
      split at h
      · rename_i i el hi hty
        cases h0 : Nat.beq t' t with
        | true =>
          rw [h0, cond_true] at h
          have h0 := nbeq h0
          subst h0
          obtain ⟨c, s1, e1, w1, val, g, g1, g2, g3, g4, g5⟩ := appendM_ok (ty := o.type) hT hG hty hv.1 hv.2.1 h
          refine wp_value (v := val) (w' := w1) (by rw [hexec]; simp [builtin, g5]) (putM_ok hd g1 (mkC g4) g hK)
        | false =>
          rw [h0, cond_false] at h
          split at h
          · rename_i b ht' hvv
            obtain ⟨hv1, hv2, _⟩ := hv
            cases hv2
            obtain ⟨c, s1, e1, w1, val, g, g1, g2, g3, g4, g5⟩ := appendSM_ok (ty := o.type) hT hG hty ht' hv1 h
            refine wp_value (v := val) (w' := w1) (by rw [hexec]; simp [builtin, g5]) (putM_ok hd g1 (mkC g4) g hK)
          · exact (rn_fail h).elim
      · exact (rn_fail h).elim
    | [], hv => exact hv.elim
    | [_], hv => exact hv.2.elim
    | _ :: _ :: _ :: _, hv => exact hv.2.2.elim
  · rename_i ki x kj y
    match us, hv with
    | [u1, u2], hv =>
      obtain ⟨h1, h2, _⟩ := hv
      have h1 := relV_int h1
      have h2 := relV_int h2
      subst h1; subst h2
      exact wp_value (w' := w) (by rw [hexec]; simp only [builtin, Sem.run_bind, run_min_int2, Result.andThen_ok]; rfl) (putM_ok hd hG (mkInt _ _) h hK)
    | [], hv => exact hv.elim
    | [_], hv => exact hv.2.elim
    | _ :: _ :: _ :: _, hv => exact hv.2.2.elim
  · rename_i ki x kj y
    match us, hv with
    | [u1, u2], hv =>
      obtain ⟨h1, h2, _⟩ := hv
      have h1 := relV_int h1
      have h2 := relV_int h2
      subst h1; subst h2
      exact wp_value (w' := w) (by rw [hexec]; simp only [builtin, Sem.run_bind, run_max_int2, Result.andThen_ok]; rfl) (putM_ok hd hG (mkInt _ _) h hK)
    | [], hv => exact hv.elim
    | [_], hv => exact hv.2.elim
    | _ :: _ :: _ :: _, hv => exact hv.2.2.elim
  · rename_i ki x kj y kk z
    match us, hv with
    | [u1, u2, u3], hv =>
      obtain ⟨h1, h2, h3, _⟩ := hv
      have h1 := relV_int h1
      have h2 := relV_int h2
      have h3 := relV_int h3
      subst h1; subst h2; subst h3
      exact wp_value (w' := w) (by rw [hexec]; simp only [builtin, Sem.run_bind, Go.run_min_int3, Result.andThen_ok]; rfl) (putM_ok hd hG (mkInt _ _) h hK)
    | [], hv => exact hv.elim
    | [_], hv => exact hv.2.elim
    | [_, _], hv => exact hv.2.2.elim
    | _ :: _ :: _ :: _ :: _, hv => exact hv.2.2.2.elim
  · rename_i ki x kj y kk z
    match us, hv with
    | [u1, u2, u3], hv =>
      obtain ⟨h1, h2, h3, _⟩ := hv
      have h1 := relV_int h1
      have h2 := relV_int h2
      have h3 := relV_int h3
      subst h1; subst h2; subst h3
      exact wp_value (w' := w) (by rw [hexec]; simp only [builtin, Sem.run_bind, Go.run_max_int3, Result.andThen_ok]; rfl) (putM_ok hd hG (mkInt _ _) h hK)
    | [], hv => exact hv.elim
    | [_], hv => exact hv.2.elim
    | [_, _], hv => exact hv.2.2.elim
    | _ :: _ :: _ :: _ :: _, hv => exact hv.2.2.2.elim
  · exact (rn_fail h).elim

theorem isU8_of {t : Nat} (h : isU8 T t = true) : T.ty t = .int .u8 := by
  unfold isU8 at h
  split at h
  · assumption
  · cases h
theorem run_bytesStr (hT : TblOk P T) {src dst el : Nat} (hs : T.ty src = .slice el) (he : T.ty el = .int .u8) (hd : T.ty dst = .str) {K : Nat → Prop} {l : List (T.U el)} {u : Value} (h : RepD T w K (.arr el l) u ∨ (l = [] ∧ u = .slice none 0 0)) :
    (convert src dst u).run P w = .ok (.string (bytesStr el l)) w := by
  have h1 := hT.slice _ _ hs
  have h2 := hT.int _ _ he
  have h3 := hT.str _ hd
  have hnil : l = [] → ∀ A c, u = .slice A 0 c → (convert src dst u).run P w = .ok (.string (bytesStr el l)) w := fun hl A c hu => by
    subst hl; subst hu
    cases A with
    | none => exact run_convert_bytes_nil w src el h1 h2 0 c dst h3
    | some a => exact run_convert_bytes_back w src dst el a c [] h1 h2 h3 (fun j hj => absurd hj (Nat.not_lt_zero _))
  rcases h with h | ⟨rfl, rfl⟩
  · obtain ⟨A, c, vals, rfl, hc, hA, hcell, hsub⟩ := h.arr_inv
    by_cases hl : l = []
    · subst hl
      exact hnil rfl A c rfl
    · obtain ⟨b, off, rfl⟩ := hA hl
      have hsz : T.size el = 1 := by
        obtain ⟨n, hn⟩ := hT.intC _ _ he (T.dflt el)
        rw [← hT.len el (T.dflt el), hn]
        rfl
      have hrow : ∀ i, ∃ n, row T el l i = [.int .u8 n] := fun i => hT.intC _ _ he _
      refine (run_convert_bytes_arg w src el h1 h2 b off l.length c (l.map fun x => numOf (T.dget el x)) (by simp) (fun i hi => ?_) dst h3).trans ?_
      · obtain ⟨n, hn⟩ := hrow i
        have hn' : (row T el l i)[0]? = some (.int .u8 n) := by rw [hn]; rfl
        obtain ⟨b', off', e1, _, e2⟩ := hcell i 0 _ hi hn'
        simp only [Option.some.injEq, Addr.mk.injEq] at e1
        obtain ⟨rfl, rfl, _⟩ := e1
        have hv := hsub i 0 _ hi hn'
        rw [hsz, Nat.mul_one, Nat.add_zero] at e2
        rw [e2]
        generalize vals i 0 = y at hv
        cases hv
        congr 2
        unfold row at hn
        rw [List.getD_eq_getElem?_getD, List.getElem?_map]
        rw [List.getD_eq_getElem?_getD, List.getElem?_eq_getElem hi] at hn
        rw [List.getElem?_eq_getElem hi]
        simp only [Option.getD_some] at hn
        simp [hn, numOf]
      · simp [bytesStr, strOfNums, List.map_map, Function.comp_def]
  · exact hnil rfl none 0 rfl
theorem opM_ok (hT : TblOk P T) {a : Act} (hG : Good W0 M0 e s a.tmps w) {o : Oper} (hd : ∀ d, o.dst = some d → d < a.tmps.size) {u : Unit} (h : Rn (CallOk P T) (opM o) s u s') {K : Act → World → Prop} {Q : Exit → Act → World → Prop} (hK : Next W0 M0 s' a K) : o.wp P a w K Q := by
  unfold opM at h
  split at h
  · -- move
    rename_i x ho
    obtain ⟨v, h1, h⟩ := rn_evV h
    exact wp_value (w' := w) (by unfold execOp; rw [ho]; rfl) (putM_ok hd hG (hG.rel.op (ds := a.defers) h1) h hK)
  · rename_i x ho
    obtain ⟨v, h1, h⟩ := rn_evV h
    exact wp_value (w' := w) (by unfold execOp; rw [ho]; rfl) (putM_ok hd hG (hG.rel.op (ds := a.defers) h1) h hK)
  · -- pick
    rename_i c x y ho
    obtain ⟨cv, h1, h⟩ := rn_evC h
    split at h
    · rename_i t
      have hb := relV_bool (hG.rel.op (ds := a.defers) h1)
      have hX := rn_br h
      clear h
      rcases hX with ⟨ht, h⟩ | ⟨ht, h⟩
      · subst ht
        obtain ⟨v, h2, h⟩ := rn_evV h
        exact wp_value (w' := w) (v := a.eval x) (by unfold execOp; rw [ho]; simp only [hb]; simp [asBool]) (putM_ok hd hG (hG.rel.op (ds := a.defers) h2) h hK)
      · subst ht
        obtain ⟨v, h2, h⟩ := rn_evV h
        exact wp_value (w' := w) (v := a.eval y) (by unfold execOp; rw [ho]; simp only [hb]; simp [asBool]) (putM_ok hd hG (hG.rel.op (ds := a.defers) h2) h hK)
    · exact (rn_fail h).elim
  · -- alloc
    rename_i el ho
    split at h
    · obtain ⟨h0, h⟩ := rn_cond h
      obtain ⟨c, s1, e1, w1, val, g, g1, g2, g3, g4, g5⟩ := allocM_ok hT hG h (nble h0)
      exact wp_value (w' := w1) (v := val) (by unfold execOp; rw [ho]; simp [g5]) (putM_ok hd g1 (mkC g4) g hK)
    · exact (rn_fail h).elim
  · -- box
    rename_i el x ho
    split at h
    · obtain ⟨v, h1, h⟩ := rn_evV h
      obtain ⟨c, s1, e1, w1, val, g, g1, g2, g3, g4, g5⟩ := boxM_ok hT hG (hG.rel.op (ds := a.defers) h1) h
      exact wp_value (w' := w1) (v := val) (by unfold execOp; rw [ho]; simp only [Sem.run_bind, g5, Result.andThen_ok]; rfl) (putM_ok hd g1 (mkC g4) g hK)
    · exact (rn_fail h).elim
  · -- build
    rename_i t ps ho
    obtain ⟨v, val, g, g1, g2⟩ := buildM_ok (ds := a.defers) hT hG.rel h
    exact wp_value (w' := w) (v := val) (by unfold execOp; rw [ho]; simp only [Sem.run_bind]; erw [g2]; rfl) (putM_ok hd hG g1 g hK)
  · -- buildSlice
    rename_i t len ps ho
    split at h
    · obtain ⟨c, s1, e1, w1, val, g, g1, g2, g3, g4, g5⟩ := buildSliceM_ok (ds := a.defers) hT hG h
      exact wp_value (w' := w1) (v := val) (by unfold execOp; rw [ho]; simp only [Sem.run_bind]; erw [g5]; rfl) (putM_ok hd g1 (mkC g4) g hK)
    · exact (rn_fail h).elim
  · -- load
    rename_i t x ho
    obtain ⟨c, h1, h⟩ := rn_evC h
    obtain ⟨v, val, g, g1, g2⟩ := loadM_ok hT hG.rel (hG.rel.op (ds := a.defers) h1) h
    exact wp_value (w' := w) (v := val) (by unfold execOp; rw [ho]; simp only [Sem.run_bind]; erw [g2]; rfl) (putM_ok hd hG g1 g hK)
  · -- store
    rename_i t x y ho
    obtain ⟨c, h1, h⟩ := rn_evC h
    obtain ⟨v, h2, h⟩ := rn_evV h
    obtain ⟨h0, h⟩ := rn_cond h
    obtain ⟨s1, e1, w1, g, g1, g2, g3, g4⟩ := storeD_ok hT hG (nble h0) (hG.rel.op (ds := a.defers) h1) (hG.rel.op (ds := a.defers) h2) h
    exact wp_skip' (w' := w1) (by unfold execOp; rw [ho]; simp only [Sem.run_bind]; erw [g4]; rfl) (putM_ok (x := .undef) hd g1 trivial g hK)
  · -- nilCheck
    rename_i x ho
    obtain ⟨c, h1, h⟩ := rn_evC h
    have hc := hG.rel.op (ds := a.defers) h1
    split at h
    · rename_i q i j
      obtain ⟨_, ⟨ad, hp⟩, _⟩ := id hc
      exact wp_value (w' := w) (v := .pointer (some ad)) (by unfold execOp; rw [ho]; simp only; erw [hp]; rfl) (putM_ok hd hG (by rw [← hp]; exact hc) h hK)
    · rename_i t x' j
      obtain ⟨b, off, vals, hp, _⟩ := id hc
      exact wp_value (w' := w) (v := .pointer (some ⟨b, off + j, none⟩)) (by unfold execOp; rw [ho]; simp only; erw [hp]; rfl) (putM_ok hd hG (by rw [← hp]; exact hc) h hK)
    · exact (rn_fail h).elim
  · -- binOp
    rename_i op t x y t' ho
    obtain ⟨v1, h1, h⟩ := rn_evV h
    obtain ⟨v2, h2, h⟩ := rn_evV h
    obtain ⟨r, val, g, g1, g2⟩ := binM_ok (x := x) (y := y) hT (hG.rel.op (ds := a.defers) h1) (hG.rel.op (ds := a.defers) h2) h
    exact wp_value (w' := w) (v := val) (by unfold execOp; rw [ho]; unfold runBin at g2; simp only [Sem.run_bind] at g2 ⊢; erw [g2]; rfl) (putM_ok hd hG g1 g hK)
  · -- unOp
    rename_i op t x ho
    obtain ⟨v1, h1, h⟩ := rn_evV h
    obtain ⟨r, val, g, g1, g2⟩ := unM_ok (hG.rel.op (ds := a.defers) h1) h
    exact wp_value (w' := w) (v := val) (by unfold execOp; rw [ho]; simp only [Sem.run_bind]; erw [g2]; rfl) (putM_ok hd hG g1 g hK)
  · -- convert
    rename_i src dst x ho
    obtain ⟨c, h1, h⟩ := rn_evC h
    have hc := hG.rel.op (ds := a.defers) h1
    split at h
    · rename_i el b hs hdt
      have hv := relV_str hc
      obtain ⟨c', val, s1, e1', w1, g, g0, g1, g2⟩ := strBytesM_ok hT hG hs hdt h
      exact wp_value (w' := w1) (v := val) (by unfold execOp; rw [ho]; simp only [Sem.run_bind, hv]; erw [g2]; rfl) (putM_ok hd g0 (mkC g1) g hK)
    rename_i hno
    clear hno
    unfold convM at h
    split at h
    · rename_i el hs hdt
      have hX := rn_cond h
      clear h
      obtain ⟨h8, h⟩ := hX
      have hX := asArr_ok hG.rel hc h
      clear h
      obtain ⟨l, h, hl⟩ := hX
      exact wp_value (w' := w) (v := .string (bytesStr el l)) (by unfold execOp; rw [ho]; simp only [Sem.run_bind]; erw [run_bytesStr hT hs (isU8_of h8) hdt hl]; rfl) (putM_ok hd hG (mkStr _) h hK)
    · rename_i k1 kd k2 n hs hdt
      have hv := relV_int hc
      exact wp_value (w' := w) (v := .int kd (kd.wrap n)) (by unfold execOp; rw [ho]; simp only [Sem.run_bind]; erw [hv]; simp [convert, run_underlying (hT.int _ _ hs), run_underlying (hT.int _ _ hdt), Conv.intToInt]) (putM_ok hd hG (mkInt _ _) h hK)
    · rename_i st hs hdt
      have hv := relV_str hc
      exact wp_value (w' := w) (v := .string st) (by unfold execOp; rw [ho]; simp only [Sem.run_bind, hv]; simp [convert, run_underlying (hT.str _ hs), run_underlying (hT.str _ hdt)]) (putM_ok hd hG (mkStr _) h hK)
    · exact (rn_fail h).elim
  · -- makeFunc
    rename_i f first caps ho
    split at h
    · rename_i hf
      obtain ⟨vs, h, h1⟩ := rn_evVs hG.rel h
      split at h
      · rename_i cs hcs
        obtain ⟨g1, g2⟩ := asOne_ok hcs h1
        obtain ⟨hfb, h⟩ := rn_cond h
        rw [Nat.blt_eq] at hfb
        have hfirst : first = #[] := by apply Array.toList_inj.1; exact hf
        subst hfirst
        exact wp_value (w' := w) (v := .func (.func f) #[] (caps.map a.eval)) (by unfold execOp; rw [ho]; simp only [Instr.makeFunc, Sem.run_bind, Sem.run_pure, Result.andThen_ok, Array.map_empty]) (putM_ok hd hG (x := .one (.fn f cs)) ⟨caps.toList.map a.eval, .inl ⟨hfb, by congr 1; apply Array.toList_inj.1; simp⟩, g1, g2⟩ h hK)
      · exact (rn_fail h).elim
    · exact (rn_fail h).elim
  · -- makeSlice
    rename_i t n c ho
    split at h
    · obtain ⟨kn, nn, h1, h⟩ := rn_evInt h
      obtain ⟨kc, cc, h2, h⟩ := rn_evInt h
      have e1 := relV_int (hG.rel.op (ds := a.defers) h1)
      have e2 := relV_int (hG.rel.op (ds := a.defers) h2)
      obtain ⟨c', s1, e1', w1, val, g, g1, g2, g3, g4, g5⟩ := makeSliceM_ok (kn := kn) (kc := kc) hT hG h
      exact wp_value (w' := w1) (v := val) (by unfold execOp; rw [ho]; simp only [Sem.run_bind]; erw [e1, e2, g5]; rfl) (putM_ok hd g1 (mkC g4) g hK)
    · exact (rn_fail h).elim
  · -- slice
    rename_i t x lo hi mx ho
    obtain ⟨c, h1, h⟩ := rn_evC h
    obtain ⟨l1, h, hl⟩ := rn_optM hG.rel h
    obtain ⟨l2, h, hh⟩ := rn_optM hG.rel h
    obtain ⟨l3, h, hm⟩ := rn_optM hG.rel h
    obtain ⟨h0, h⟩ := rn_cond h
    obtain ⟨c', val, s1, e1', g, g0, g1, g2⟩ := sliceP_ok hT hG (hG.rel.op (ds := a.defers) h1) hl hh hm h fun el hty => elOk_slice h0 hty
    exact wp_value (w' := w) (v := val) (by unfold execOp; rw [ho]; simp only [Sem.run_bind]; erw [g2]; rfl) (putM_ok hd g0 (mkC g1) g hK)
  · -- makeMap
    rename_i t r ho
    split at h
    · obtain ⟨n, h, hn⟩ := rn_optM hG.rel h
      obtain ⟨c', s1, e1', w1, val, g, g1, g2, g3, g4, g5⟩ := makeMapM_ok hT hG h hn
      exact wp_value (w' := w1) (v := val) (by unfold execOp; rw [ho]; simp only [Sem.run_bind]; erw [g5]; rfl) (putM_ok hd g1 (mkC g4) g hK)
    · exact (rn_fail h).elim
  · -- lookup
    rename_i t x i ok ho
    obtain ⟨c, h1, h⟩ := rn_evC h
    obtain ⟨ki, n, h2, h⟩ := rn_evInt h
    have e2 := relV_int (hG.rel.op (ds := a.defers) h2)
    obtain ⟨v, val, g, g1, g2⟩ := lookupM_ok hT hG.rel (hG.rel.op (ds := a.defers) h1) h
    exact wp_value (w' := w) (v := val) (by unfold execOp; rw [ho]; simp only [Sem.run_bind]; erw [e2, g2]; rfl) (putM_ok hd hG g1 g hK)
  · -- mapUpdate
    rename_i t x i y ho
    obtain ⟨c, h1, h⟩ := rn_evC h
    obtain ⟨ki, n, h2, h⟩ := rn_evInt h
    have e2 := relV_int (hG.rel.op (ds := a.defers) h2)
    obtain ⟨v, h3, h⟩ := rn_evV h
    obtain ⟨s1, e1, w1, g, g1, g2, g3, g4⟩ := mapUpdateM_ok hT hG (hG.rel.op (ds := a.defers) h1) (hG.rel.op (ds := a.defers) h3) h
    exact wp_skip' (w' := w1) (by unfold execOp; rw [ho]; simp only [Sem.run_bind]; erw [e2, g4]; rfl) (putM_ok (x := .undef) hd g1 trivial g hK)
  · -- insert
    rename_i t x i y ho
    obtain ⟨c, h1, h⟩ := rn_evC h
    obtain ⟨ki, n, h2, h⟩ := rn_evInt h
    have e2 := relV_int (hG.rel.op (ds := a.defers) h2)
    obtain ⟨v, h3, h⟩ := rn_evV h
    obtain ⟨s1, e1, w1, g, g1, g2, g3, g4⟩ := mapUpdateM_ok hT hG (hG.rel.op (ds := a.defers) h1) (hG.rel.op (ds := a.defers) h3) h
    exact wp_skip' (w' := w1) (by unfold execOp; rw [ho]; simp only [Sem.run_bind]; erw [e2, g4]; rfl) (putM_ok (x := .undef) hd g1 trivial g hK)
  · -- fieldAddr
    rename_i t x f ho
    obtain ⟨c, h1, h⟩ := rn_evC h
    obtain ⟨c', val, g, g1, g2⟩ := fieldAddrM_ok hT (hG.rel.op (ds := a.defers) h1) h
    exact wp_value (w' := w) (v := val) (by unfold execOp; rw [ho]; simp only [Sem.run_bind]; erw [g2]; rfl) (putM_ok hd hG (mkC g1) g hK)
  · -- field
    rename_i t x f ho
    obtain ⟨v1, h1, h⟩ := rn_evV h
    obtain ⟨v, val, g, g1, g2⟩ := fieldM_ok hT (hG.rel.op (ds := a.defers) h1) h
    exact wp_value (w' := w) (v := val) (by unfold execOp; rw [ho]; simp only [Sem.run_bind]; erw [g2]; rfl) (putM_ok hd hG g1 g hK)
  · -- indexAddr
    rename_i t x i ho
    obtain ⟨c, h1, h⟩ := rn_evC h
    obtain ⟨ki, n, h2, h⟩ := rn_evInt h
    have e2 := relV_int (hG.rel.op (ds := a.defers) h2)
    obtain ⟨h0, h⟩ := rn_cond h
    obtain ⟨c', val, g, g1, g2⟩ := indexAddrM_ok (ki := ki) hT hG.rel (hG.rel.op (ds := a.defers) h1) h (fun el hty => elOk_slice h0 hty) (fun m el hty => elOk_arr h0 hty)
    exact wp_value (w' := w) (v := val) (by unfold execOp; rw [ho]; simp only [Sem.run_bind]; erw [e2, g2]; rfl) (putM_ok hd hG (mkC g1) g hK)
  · -- index
    rename_i t x i ho
    obtain ⟨v1, h1, h⟩ := rn_evV h
    obtain ⟨ki, n, h2, h⟩ := rn_evInt h
    have e2 := relV_int (hG.rel.op (ds := a.defers) h2)
    obtain ⟨h0, h⟩ := rn_cond h
    obtain ⟨v, val, g, g1, g2⟩ := indexM_ok (ki := ki) hT (hG.rel.op (ds := a.defers) h1) h (fun m el hty => elOk_arr h0 hty)
    exact wp_value (w' := w) (v := val) (by unfold execOp; rw [ho]; simp only [Sem.run_bind]; erw [e2, g2]; rfl) (putM_ok hd hG g1 g hK)
  · -- extract
    rename_i x i ho
    obtain ⟨v1, h1, h⟩ := rn_evV h
    have hv := hG.rel.op (ds := a.defers) h1
    split at h
    · rename_i xs
      obtain ⟨us, hu, hl, hx⟩ := hv
      split at h
      · rename_i ag cs hi
        obtain ⟨v, h3, h4, h5⟩ := rn_toVal h
        have hil := (List.getElem?_eq_some_iff.1 hi).1
        have hui : us[i]? = some us[i] := List.getElem?_eq_getElem (by omega)
        have hw := hx i _ _ hi hui
        refine wp_value (w' := w) (v := us[i]) (by unfold execOp; rw [ho]; simp only [Sem.run_bind]; erw [hu]; simp [Instr.extract, hui]) (putM_ok hd hG ?_ h3 hK)
        rcases h5 with ⟨rfl, rfl⟩ | ⟨rfl, c, rfl, rfl⟩
        · exact hw
        · exact hw.2 0 c _ rfl rfl
      · exact (rn_fail h).elim
    · exact (rn_fail h).elim
  · -- call
    rename_i c ho
    split at h
    · rename_i f hcal
      split at h
      · rename_i d hdst
        have hX := rn_evV h
        clear h
        obtain ⟨fv, h1, h⟩ := hX
        have hX := rn_evVs hG.rel h
        clear h
        obtain ⟨vs, h, hvs⟩ := hX
        obtain ⟨g, us, hu, hfn, hcalls⟩ := callM_ok hT hG (hG.rel.op (ds := a.defers) h1) hvs h
        have hexec : (execOp a.eval o).run P w = .ok (.enter g (c.args.toList.map a.eval ++ us).toArray) w := by
          have he : execOp a.eval o = (do let d ← resolve a.eval c o.type; invoke d.target d.args) := by unfold execOp; rw [ho]
          rw [he]
          have hfv : a.eval f = .func (.func g) #[] us.toArray := hu
          simp only [resolve, hcal, hfv, Deferred.ofValue, invoke, Sem.run_bind, Sem.run_pure, Result.andThen_ok]
          rw [hfn]
          simp
        unfold Oper.wp
        rw [hexec, Oper.upon_enter]
        refine hcalls.mono ?_
        rintro en w' ⟨x, v, s1, e1, rfl, k1, k2, k5⟩
        exact putM_ok hd k2 k5 k1 hK
      · exact (rn_fail h).elim
    · rename_i b hcal
      obtain ⟨vs, h, hvs⟩ := rn_evVs hG.rel h
      refine builtinM_ok hT hG rfl hd (args := c.args) (ts := c.argTypes) (b := b) ?_ hvs h hK
      rw [ho]
      cases c
      simp at hcal
      subst hcal
      rfl
    · exact (rn_fail h).elim
  · exact (rn_fail h).elim
end
end Go.Sm
end

section
set_option linter.unusedVariables false
namespace Go.Sm
variable {T : Tbl}
section
variable {s s' : St T} {P : Program} {e e' : Env} {w w' W0 : World} {M0 : Gh} {tm : Array Value}

/-- The places that a region writes are there. -/
def Fits (ops : Array Oper) (n : Nat) : Prop := ∀ o ∈ ops.toList, ∀ d, o.dst = some d → d < n
theorem itemM_ok (hT : TblOk P T) {a : Act} (hG : Good W0 M0 e s a.tmps w) {ops : Array Oper} (hf : Fits ops a.tmps.size) {i : Nat} {o : Oper} (ho : ops[i]? = some o) {u : Unit} (h : Rn (CallOk P T) (itemM ops.toList o) s u s') {K : Act → World → Prop} {Q : Exit → Act → World → Prop}
    (hK : Next W0 M0 s' a K) : wpOp P ops Q i K a w := by
  have hom : o ∈ ops.toList := by
    have := List.mem_of_getElem? (l := ops.toList) (i := i) (a := o) (by simpa using ho)
    exact this
  have hd := hf o hom
  unfold wpOp
  rw [ho]
  simp only
  unfold itemM at h
  split at h
  · rename_i hg
    have : Region.wanted o (yielded ops a.tmps) = true := by unfold Region.wanted; rw [hg]
    rw [if_pos this]
    exact .inl (opM_ok hT hG hd h hK)
  · rename_i j want hg
    split at h
    · rename_i g hgd
      have hgs0 : g < a.tmps.size := by
        cases hoj : ops.toList[j]? with
        | none => rw [hoj] at hgd; cases hgd
        | some oj =>
          rw [hoj] at hgd
          exact hf oj (List.mem_of_getElem? hoj) g hgd
      replace h := rn_getR h
      split at h
      · rename_i hsk
        have hr := hG.rel.regs g
        rw [hsk] at hr
        have hr : a.tmps.getD g undef = undef := hr
        have hy : yielded ops a.tmps j = none := by
          unfold yielded
          have e1 : (ops[j]?).bind (·.dst) = some g := by simpa using hgd
          rw [e1, Option.bind_some, Array.getElem?_eq_getElem hgs0]
          rw [Array.getD_eq_getD_getElem?, Array.getElem?_eq_getElem hgs0] at hr
          simp only [Option.getD_some] at hr
          rw [hr]
          rfl
        have hw : Region.wanted o (yielded ops a.tmps) = false := by
          unfold Region.wanted
          rw [hg]
          simp only [hy]
          cases want <;> rfl
        rw [hw]
        simp only [Bool.false_eq_true, if_false]
        exact putM_ok (x := .skip) hd hG rfl h hK
      obtain ⟨b, h1, h⟩ := rn_guard h
      have hr := hG.rel.regs g
      rw [h1] at hr
      have hb := relV_bool hr
      have hgs : g < a.tmps.size := by
        cases hoj : ops.toList[j]? with
        | none => rw [hoj] at hgd; cases hgd
        | some oj =>
          rw [hoj] at hgd
          exact hf oj (List.mem_of_getElem? hoj) g hgd
      have hy : yielded ops a.tmps j = some b := by
        unfold yielded
        have e1 : (ops[j]?).bind (·.dst) = some g := by simpa using hgd
        rw [e1, Option.bind_some, Array.getElem?_eq_getElem hgs]
        rw [Array.getD_eq_getD_getElem?, Array.getElem?_eq_getElem hgs] at hb
        simp only [Option.getD_some] at hb
        rw [hb]
      have hw : Region.wanted o (yielded ops a.tmps) = (b == want) := by
        unfold Region.wanted
        rw [hg]
        simp only [hy]
        cases b <;> cases want <;> rfl
      rw [hw]
      cases hbw : (b == want) with
      | true =>
        rw [hbw] at h
        simp only [if_true]
        exact .inl (opM_ok hT hG hd h hK)
      | false =>
        rw [hbw] at h
        simp only [Bool.false_eq_true, if_false]
        exact putM_ok (x := .skip) hd hG rfl h hK
    · exact (rn_fail h).elim

theorem opsRun_ok {R : Type} {Φ : {R : Type} → Nat → List (A T) → (Res T → Option R) → Option R} (hΦ : SemOk Φ (CallOk P T)) (hT : TblOk P T) {ops : Array Oper} {Kc : St T → Option R} {r : R} {n : Nat} {D : List Deferred} {Q : Exit → Act → World → Prop} (hf : Fits ops n)
    (hQ : ∀ s' e' a' w', Kc s' = some r → Good W0 M0 e' s' a'.tmps w' → a'.tmps.size = n → a'.defers = D → Q .normal a' w') :
    ∀ (l : List Oper) (i : Nat) (s : St T) (e : Env) (a : Act) (w : World), ops.toList.drop i = l → opsRun (T := T) (R := R) Φ ops.toList l s Kc = some r → Good W0 M0 e s a.tmps w → a.tmps.size = n → a.defers = D →
      wpOps P ops Q (List.range' i l.length) a w
  | [], i, s, e, a, w, hl, h, hG, hn, hD => hQ s e a w h hG hn hD
  | o :: l, i, s, e, a, w, hl, h, hG, hn, hD => by
    obtain ⟨u, s1, Rd, Wr, h1, h2⟩ := run_Run hΦ _ _ _ _ h
    have ho : ops[i]? = some o := by
      have : (ops.toList.drop i)[0]? = some o := by rw [hl]; rfl
      simpa using this
    have hl' : ops.toList.drop (i + 1) = l := by rw [← List.drop_drop, hl]; rfl
    simp only [List.length_cons, List.range'_succ]
    rw [wpOps_cons]
    exact itemM_ok hT hG (hn ▸ hf) ho ⟨_, _, h1⟩ fun e' a' w' hG' g1 g2 => opsRun_ok hΦ hT hf hQ l (i + 1) s1 e' a' w' hl' h2 hG' (g1.trans hn) (g2.trans hD)
theorem region_ok {R : Type} {Φ : {R : Type} → Nat → List (A T) → (Res T → Option R) → Option R} (hΦ : SemOk Φ (CallOk P T)) (hT : TblOk P T) {id : Nat} {ops : Array Oper} {Kc : St T → Option R} {r : R} {Q : Exit → Act → World → Prop} {a : Act} (hf : Fits ops a.tmps.size)
    (h : opsRun (T := T) (R := R) Φ ops.toList ops.toList s Kc = some r) (hG : Good W0 M0 e s a.tmps w)
    (hQ : ∀ s' e' a' w', Kc s' = some r → Good W0 M0 e' s' a'.tmps w' → a'.tmps.size = a.tmps.size → a'.defers = a.defers → Q .normal a' w') : (Code.region id ops false).wp P Q a w := by
  refine wp_region ?_
  have := opsRun_ok hΦ hT hf hQ ops.toList 0 s e a w rfl h hG rfl rfl
  rw [List.range_eq_range']
  simpa using this
end
end Go.Sm
end

section
set_option linter.unusedVariables false
namespace Go.Sm
variable {T : Tbl}
section
variable {s s' : St T} {P : Program} {e e' : Env} {w w' W0 : World} {M0 : Gh} {tm : Array Value}
abbrev Foot := List Loc × List Loc
theorem Loc.beq_iff {a b : Loc} : a.beq b = true ↔ a = b := by
  cases a <;> cases b <;> simp [Loc.beq]
theorem meets_false {a b : List Loc} (h : meets a b = false) : ∀ l ∈ a, ¬ l ∈ b := fun l ha hb => by
  unfold meets at h
  have := List.any_eq_false.1 h l ha
  exact this (List.any_eq_true.2 ⟨l, hb, Loc.beq_iff.2 rfl⟩)
theorem clash_false {a b : Foot} (h : clash a b = false) : (∀ l ∈ a.2, ¬ l ∈ b.1) ∧ (∀ l ∈ a.2, ¬ l ∈ b.2) ∧ (∀ l ∈ b.2, ¬ l ∈ a.1) := by
  unfold clash at h
  simp only [Bool.or_eq_false_iff] at h
  exact ⟨meets_false h.1.1, meets_false h.1.2, meets_false h.2⟩

/-- Runs of some operations, one after another. -/
inductive Chain (Ok : Nat → List (A T) → Res T → Prop) (ops : List Oper) : List (Nat × Foot) → St T → St T → Prop
  | nil (s : St T) : Chain Ok ops [] s s
  | cons {i : Nat} {o : Oper} {f : Foot} {R W : List Loc} {rest : List (Nat × Foot)} {s s1 s2 : St T} {u : Unit} : ops[i]? = some o → Run Ok (itemM ops o) s u s1 R W → (∀ l ∈ R, l ∈ f.1) → (∀ l ∈ W, l ∈ f.2) → Chain Ok ops rest s1 s2 → Chain Ok ops ((i, f) :: rest) s s2
theorem Chain.front {Ok : Nat → List (A T) → Res T → Prop} {ops : List Oper} : ∀ {pre post : List (Nat × Foot)} {x : Nat × Foot} {s s' : St T}, Chain Ok ops (pre ++ x :: post) s s' → (∀ y ∈ pre, clash y.2 x.2 = false) → Chain Ok ops (x :: (pre ++ post)) s s'
  | [], _, _, _, _, h, _ => h
  | y :: pre, post, x, s, s', h, hc => by
    cases h with
    | cons h1 h2 ha hb h3 =>
      have h4 := Chain.front h3 fun z hz => hc z (by simp [hz])
      cases h4 with
      | cons g1 g2 ga gb g3 =>
        obtain ⟨c1, c2, c3⟩ := clash_false (hc _ (List.mem_cons.2 (.inl rfl)))
        obtain ⟨s1', r1, r2⟩ := h2.swap g2 (fun l hl hl' => c1 l (hb l hl) (ga l hl')) (fun l hl hl' => c2 l (hb l hl) (gb l hl')) (fun l hl hl' => c3 l (gb l hl) (ha l hl'))
        exact .cons g1 r1 ga gb (.cons h1 r2 ha hb g3)
theorem opsRunF_chain {R : Type} {Φ : {R : Type} → Nat → List (A T) → (Res T → Option R) → Option R} {Ok : Nat → List (A T) → Res T → Prop} (hΦ : SemOk Φ Ok) :
    ∀ {α : Type} (m : M T α) (s : St T) (Rd Wr : List Loc) (K : α → St T → List Loc → List Loc → Option R) (r : R), m.runF Φ s Rd Wr K = some r → ∃ a s' R1 W1, Run Ok m s a s' R1 W1 ∧ K a s' (R1.reverse ++ Rd) (W1.reverse ++ Wr) = some r := by
  intro α m
  induction m with
  | ret a => intro s Rd Wr K r h; exact ⟨a, s, [], [], .ret, h⟩
  | fail => intro s Rd Wr K r h; simp [M.runF] at h
  | getR t k ih => intro s Rd Wr K r h; obtain ⟨a, s', R1, W1, h1, h2⟩ := ih _ s _ _ K r h; exact ⟨a, s', _, _, .getR h1, by simpa using h2⟩
  | setR t v k ih => intro s Rd Wr K r h; obtain ⟨a, s', R1, W1, h1, h2⟩ := ih _ _ _ K r h; exact ⟨a, s', _, _, .setR h1, by simpa using h2⟩
  | getO t k ih => intro s Rd Wr K r h; obtain ⟨a, s', R1, W1, h1, h2⟩ := ih _ s _ _ K r h; exact ⟨a, s', _, _, .getO h1, by simpa using h2⟩
  | setO t v k ih => intro s Rd Wr K r h; obtain ⟨a, s', R1, W1, h1, h2⟩ := ih _ _ _ K r h; exact ⟨a, s', _, _, .setO h1, by simpa using h2⟩
  | br b x y ihx ihy =>
    intro s Rd Wr K r h
    cases b with
    | true => obtain ⟨a, s', R1, W1, h1, h2⟩ := ihx s _ _ K r h; exact ⟨a, s', _, _, .brT h1, h2⟩
    | false => obtain ⟨a, s', R1, W1, h1, h2⟩ := ihy s _ _ K r h; exact ⟨a, s', _, _, .brF h1, h2⟩
  | guard t k ih =>
    intro s Rd Wr K r h
    simp only [M.runF] at h
    split at h
    · rename_i b hb
      cases b with
      | true =>
        simp only [cond_true] at h
        rw [St.setR_same hb] at h
        obtain ⟨a, s', R1, W1, h1, h2⟩ := ih true s _ _ K r h
        exact ⟨a, s', _, _, .guard hb h1, by simpa using h2⟩
      | false =>
        simp only [cond_false] at h
        rw [St.setR_same hb] at h
        obtain ⟨a, s', R1, W1, h1, h2⟩ := ih false s _ _ K r h
        exact ⟨a, s', _, _, .guard hb h1, by simpa using h2⟩
    · cases h
  | call f as k ih =>
    intro s Rd Wr K r h
    simp only [M.runF] at h
    obtain ⟨res, hok, hk⟩ := hΦ _ _ _ _ h
    obtain ⟨a, s', R1, W1, h1, h2⟩ := ih res s _ _ K r hk
    exact ⟨a, s', _, _, .call hok h1, h2⟩
theorem opsRunF_ok {R : Type} {Φ : {R : Type} → Nat → List (A T) → (Res T → Option R) → Option R} {Ok : Nat → List (A T) → Res T → Prop} (hΦ : SemOk Φ Ok) {ops : List Oper} {K : St T → List Foot → Option R} {r : R} :
    ∀ (l : List Oper) (i : Nat) (s : St T) (fs : List Foot), ops.drop i = l → opsRunF (T := T) (R := R) Φ ops l s fs K = some r → ∃ s' gs, gs.length = l.length ∧ K s' (fs ++ gs) = some r ∧ Chain Ok ops ((List.range' i l.length).zip gs) s s'
  | [], i, s, fs, hl, h => ⟨s, [], rfl, by rw [List.append_nil]; exact h, .nil s⟩
  | o :: l, i, s, fs, hl, h => by
    obtain ⟨u, s1, R1, W1, h1, h2⟩ := opsRunF_chain hΦ _ _ _ _ _ _ h
    have ho : ops[i]? = some o := by
      have : (ops.drop i)[0]? = some o := by rw [hl]; rfl
      simpa using this
    have hl' : ops.drop (i + 1) = l := by rw [← List.drop_drop, hl]; rfl
    obtain ⟨s2, gs, g1, g2, g3⟩ := opsRunF_ok hΦ l (i + 1) s1 _ hl' h2
    refine ⟨s2, (R1.reverse ++ [], W1.reverse ++ []) :: gs, by simp [g1], by simpa using g2, ?_⟩
    simp only [List.length_cons, List.range'_succ, List.zip_cons_cons]
    exact .cons ho h1 (fun l hl => by simpa using hl) (fun l hl => by simpa using hl) g3

/-! ### Which ones wait for which -/
/-- Those that are listed wait for listed ones alone. -/
def Closed (ops : Array Oper) (L : Nat → Prop) : Prop := ∀ i o, ops[i]? = some o → L i → ∀ e ∈ o.after.toList, Region.binds .any e = true → L e.on
theorem bitOn_eq (m i : Nat) : bitOn m i = m.testBit i := by
  unfold bitOn Nat.testBit
  show Nat.beq (1 &&& (m >>> i)) 1 = _
  rw [Nat.one_and_eq_mod_two]
  rcases Nat.mod_two_eq_zero_or_one (m >>> i) with h | h <;> rw [h] <;> rfl
theorem bitOn_zero (i : Nat) : bitOn 0 i = false := by rw [bitOn_eq, Nat.zero_testBit]
theorem bitOn_or (a b i : Nat) : bitOn (Nat.lor a b) i = (bitOn a i || bitOn b i) := by
  rw [bitOn_eq, bitOn_eq, bitOn_eq]
  exact Nat.testBit_or a b i
theorem bitOn_one {k i : Nat} (h : bitOn (Nat.shiftLeft 1 k) i = true) : i = k := by
  rw [bitOn_eq, show Nat.shiftLeft 1 k = 2 ^ k from by show 1 <<< k = _; rw [Nat.shiftLeft_eq, Nat.one_mul], Nat.testBit_two_pow] at h
  exact (of_decide_eq_true h).symm
theorem ancOf_mem {acc : List Nat} : ∀ {es : List Edge} {j : Nat}, bitOn (ancOf acc es) j = true → ∃ e ∈ es, Region.binds .any e = true ∧ e.on < acc.length ∧ (j = e.on ∨ bitOn ((acc[e.on]?).getD 0) j = true)
  | [], j, h => by rw [show ancOf acc [] = 0 from rfl, bitOn_zero] at h; cases h
  | e :: es, j, h => by
    unfold ancOf at h
    cases hb : (Region.binds .any e && Nat.blt e.on acc.length) with
    | true =>
      rw [hb] at h
      simp only [Bool.and_eq_true] at hb
      have hlt : e.on < acc.length := by have := hb.2; simpa [Nat.blt_eq] using this
      rw [cond_true, bitOn_or, bitOn_or, Bool.or_eq_true, Bool.or_eq_true] at h
      rcases h with (h | h) | h
      · exact ⟨e, by simp, hb.1, hlt, .inl (bitOn_one h)⟩
      · exact ⟨e, by simp, hb.1, hlt, .inr h⟩
      · obtain ⟨e', h1, h2⟩ := ancOf_mem h
        exact ⟨e', by simp [h1], h2⟩
    | false =>
      rw [hb] at h
      simp only [cond_false] at h
      obtain ⟨e', h1, h2⟩ := ancOf_mem h
      exact ⟨e', by simp [h1], h2⟩
/-- What a list of what is waited for says. -/
def AncOk (ops : Array Oper) (acc : List Nat) : Prop := ∀ i l j, acc[i]? = some l → bitOn l j = true → ∃ o, ops[i]? = some o ∧ ∃ e ∈ o.after.toList, Region.binds .any e = true ∧ e.on < i ∧ (j = e.on ∨ ∃ l', acc[e.on]? = some l' ∧ bitOn l' j = true)
theorem ancs_ok {ops : Array Oper} : ∀ (l : List Oper) (acc : List Nat), ops.toList.drop acc.length = l → AncOk ops acc → AncOk ops (ancs l acc)
  | [], acc, _, h => h
  | o :: l, acc, hl, h => by
    refine ancs_ok l _ (by rw [List.length_append, List.length_singleton, ← List.drop_drop, hl]; rfl) ?_
    intro i li j hi hj
    by_cases hlt : i < acc.length
    · rw [List.getElem?_append_left hlt] at hi
      obtain ⟨o', h1, e, h2, h3, h4, h5⟩ := h i li j hi hj
      refine ⟨o', h1, e, h2, h3, h4, h5.imp id fun ⟨l', g1, g2⟩ => ⟨l', by rw [List.getElem?_append_left (by omega)]; exact g1, g2⟩⟩
    · have hie : i = acc.length := by
        have := (List.getElem?_eq_some_iff.1 hi).1
        simp at this
        omega
      subst hie
      rw [List.getElem?_append_right (Nat.le_refl _)] at hi
      simp at hi
      subst hi
      have ho : ops[acc.length]? = some o := by
        have : (ops.toList.drop acc.length)[0]? = some o := by rw [hl]; rfl
        simpa using this
      obtain ⟨e, h1, h2, h3, h4⟩ := ancOf_mem hj
      refine ⟨o, ho, e, h1, h2, h3, h4.imp id fun h => ?_⟩
      rw [List.getElem?_eq_getElem h3] at h
      exact ⟨_, by rw [List.getElem?_append_left h3]; exact List.getElem?_eq_getElem h3, h⟩
theorem anc_listed {ops : Array Oper} {acc : List Nat} (h : AncOk ops acc) {L : Nat → Prop} (hL : Closed ops L) : ∀ (i : Nat) (l : Nat) (j : Nat), acc[i]? = some l → bitOn l j = true → (∀ o, ops[i]? = some o → ∀ e ∈ o.after.toList, Region.binds .any e = true → L e.on) → L j := by
  intro i
  induction i using Nat.strongRecOn with
  | ind i ih =>
    intro l j hi hj hr
    obtain ⟨o, h1, e, h2, h3, h4, h5⟩ := h i l j hi hj
    have hon := hr o h1 e h2 h3
    rcases h5 with rfl | ⟨l', h6, h7⟩
    · exact hon
    · exact ih e.on h4 l' j h6 h7 fun o' ho' e' he' hb' => hL e.on o' ho' hon e' he' hb'
theorem orderedFrom_ok {anc : List Nat} {i : Nat} {f : Foot} : ∀ {l : List Foot} {j : Nat}, orderedFrom anc i f l j = true → ∀ k g, l[k]? = some g → clash f g = false ∨ bitOn ((anc[j + k]?).getD 0) i = true
  | [], j, _, k, g, hk => by simp at hk
  | h :: l, j, ho, k, g, hk => by
    unfold orderedFrom at ho
    simp only [Bool.and_eq_true, Bool.or_eq_true, Bool.not_eq_true'] at ho
    cases k with
    | zero =>
      simp at hk
      subst hk
      exact ho.1
    | succ k =>
      have := orderedFrom_ok ho.2 k g (by simpa using hk)
      rwa [show j + 1 + k = j + (k + 1) from by omega] at this
theorem ordered_ok {anc : List Nat} : ∀ {l : List Foot} {i : Nat}, ordered anc l i = true → ∀ k m f g, l[k]? = some f → l[m]? = some g → k < m → clash f g = false ∨ bitOn ((anc[i + m]?).getD 0) (i + k) = true
  | [], i, _, k, m, f, g, hk, _, _ => by simp at hk
  | x :: l, i, ho, k, m, f, g, hk, hm, hkm => by
    unfold ordered at ho
    simp only [Bool.and_eq_true] at ho
    cases m with
    | zero => omega
    | succ m =>
      cases k with
      | zero =>
        simp at hk
        subst hk
        have := orderedFrom_ok ho.1 m g (by simpa using hm)
        rwa [show i + 1 + m = i + (m + 1) from by omega] at this
      | succ k =>
        have := ordered_ok ho.2 k m f g (by simpa using hk) (by simpa using hm) (by omega)
        rwa [show i + 1 + k = i + (k + 1) from by omega, show i + 1 + m = i + (m + 1) from by omega] at this
theorem back_ok : ∀ {l : List Oper} {i : Nat}, back l i = true → ∀ k o, l[k]? = some o → ∀ e ∈ o.after.toList, Region.binds .any e = true → e.on < i + k
  | [], i, _, k, o, hk => by simp at hk
  | x :: l, i, h, k, o, hk => by
    unfold back at h
    simp only [Bool.and_eq_true] at h
    cases k with
    | zero =>
      simp at hk
      subst hk
      intro e he hb
      have := List.all_eq_true.1 h.1 e he
      rw [hb] at this
      simp only [Bool.not_true, Bool.false_or] at this
      simpa [Nat.blt_eq] using this
    | succ k =>
      intro e he hb
      have := back_ok h.2 k o (by simpa using hk) e he hb
      omega
end
end Go.Sm
end

section
set_option linter.unusedVariables false
namespace Go.Sm
variable {T : Tbl}
section
variable {s s' : St T} {P : Program} {e e' : Env} {w w' W0 : World} {M0 : Gh} {tm : Array Value}

theorem wpAny_chain (hT : TblOk P T) {ops : Array Oper} {n : Nat} (hf : Fits ops n) {D : List Deferred} {Q : Exit → Act → World → Prop} {sn : St T}
    (hQ : ∀ e' a' w', Good W0 M0 e' sn a'.tmps w' → a'.tmps.size = n → a'.defers = D → Q .normal a' w') {anc : List Nat} (hanc : AncOk ops anc)
    (hback : ∀ (k : Nat) (o : Oper), ops[k]? = some o → ∀ e ∈ o.after.toList, Region.binds .any e = true → e.on < k) {gs : List Foot}
    (hord : ∀ (k m : Nat) (f g : Foot), gs[k]? = some f → gs[m]? = some g → k < m → clash f g = false ∨ bitOn ((anc[m]?).getD 0) k = true) :
    ∀ (k : Nat) (rem : List (Nat × Foot)) (listed : Array Bool) (s : St T) (e : Env) (a : Act) (w : World), rem.length = k → Chain (CallOk P T) ops.toList rem s sn → rem.Pairwise (fun x y => x.1 < y.1) → (∀ x ∈ rem, gs[x.1]? = some x.2) → listed.size = ops.size →
      (∀ i, listed.getD i true = false ↔ ∃ f, (i, f) ∈ rem) → Closed ops (fun j => listed.getD j false = true) → Good W0 M0 e s a.tmps w → a.tmps.size = n → a.defers = D → wpAny P .any ops Q k listed a w := by
  intro k
  induction k with
  | zero =>
    intro rem listed s e a w hl hc hp hg hsz hiff hcl hG hn hD
    have := List.length_eq_zero_iff.1 hl
    subst this
    cases hc
    refine ⟨?_, hQ e a w hG hn hD⟩
    rw [List.eq_nil_iff_forall_not_mem]
    intro j hj
    obtain ⟨h0, _⟩ := mem_ready.1 hj
    obtain ⟨f, hf⟩ := (hiff j).1 h0
    cases hf
  | succ k ih =>
    intro rem listed s e a w hl hc hp hg hsz hiff hcl hG hn hD
    have hval : ∀ j, j < ops.size → listed.getD j true = listed.getD j false := fun j hj => by
      rw [Array.getD_eq_getD_getElem?, Array.getD_eq_getD_getElem?, Array.getElem?_eq_getElem (by omega)]
      rfl
    refine ⟨fun hr => ?_, fun i hi => ?_⟩
    · exfalso
      match rem, hl with
      | x :: rest, _ =>
        have hx : x.1 ∈ Region.ready .any ops listed := by
          rw [mem_ready]
          refine ⟨(hiff x.1).2 ⟨x.2, by simp⟩, ?_⟩
          cases hc with
          | @cons i o f R W rest' s0 s1 s2 u h1 h2 ha hb h3 =>
            have ho : ops[i]? = some o := by simpa using h1
            refine ⟨o, ho, fun ed he hb => ?_⟩
            have hlt := hback i o ho ed (by simpa using he) hb
            have his : i < ops.size := (Array.getElem?_eq_some_iff.1 ho).1
            rw [← hval _ (by omega)]
            cases hv : listed.getD ed.on true with
            | true => rfl
            | false =>
              obtain ⟨f', hf'⟩ := (hiff ed.on).1 hv
              rcases List.mem_cons.1 hf' with h | h
              · simp only [Prod.mk.injEq] at h; omega
              · have := (List.pairwise_cons.1 hp).1 _ h
                simp only at this
                omega
        rw [hr] at hx
        cases hx
    · obtain ⟨h0, o, ho, hall⟩ := mem_ready.1 hi
      have hall : ∀ ed ∈ o.after.toList, Region.binds .any ed = true → listed.getD ed.on false = true := fun ed he hb => hall ed (by simpa using he) hb
      obtain ⟨f, hmem⟩ := (hiff i).1 h0
      obtain ⟨pre, post, rfl⟩ := List.append_of_mem hmem
      have hpp := List.pairwise_append.1 hp
      have hpc : ∀ y ∈ pre, clash y.2 f = false := fun y hy => by
        have hlt : y.1 < i := hpp.2.2 y hy (i, f) (by simp)
        have gy := hg y (by simp [hy])
        have gi := hg (i, f) (by simp)
        rcases hord y.1 i y.2 f gy gi hlt with h | h
        · exact h
        · exfalso
          cases hai : anc[i]? with
          | none => rw [hai, Option.getD_none, bitOn_zero] at h; cases h
          | some la =>
            rw [hai] at h
            have hL := anc_listed hanc hcl i la y.1 hai h fun o' ho' ed he hb => by
              rw [ho] at ho'
              cases ho'
              exact hall ed he hb
            have hy0 := (hiff y.1).2 ⟨y.2, by simp [hy]⟩
            have his : i < ops.size := (Array.getElem?_eq_some_iff.1 ho).1
            rw [hval _ (by omega)] at hy0
            rw [hy0] at hL
            cases hL
      have hfr := hc.front (x := (i, f)) hpc
      cases hfr with
      | @cons _ o' _ R W rest' s0 s1 s2 u h1 h2 ha hb h3 =>
        have ho' : ops[i]? = some o' := by simpa using h1
        rw [ho] at ho'
        cases ho'
        refine itemM_ok hT hG (hn ▸ hf) ho ⟨_, _, h2⟩ fun e' a' w' hG' g1 g2 => ?_
        have his : i < ops.size := (Array.getElem?_eq_some_iff.1 ho).1
        have hni : ∀ y ∈ pre ++ post, y.1 ≠ i := fun y hy h => by
          rcases List.mem_append.1 hy with hy | hy
          · have := hpp.2.2 y hy (i, f) (by simp); simp only at this; omega
          · have := (List.pairwise_cons.1 hpp.2.1).1 y hy; simp only at this; omega
        refine ih (pre ++ post) _ s1 e' a' w' (by simp at hl ⊢; omega) h3 ?_ (fun x hx => hg x ?_) (by simpa using hsz) (fun j => ?_) (fun j oj hoj hj ed he hb => ?_) hG' (g1.trans hn) (g2.trans hD)
        · exact List.pairwise_append.2 ⟨hpp.1, (List.pairwise_cons.1 hpp.2.1).2, fun x hx y hy => hpp.2.2 x hx y (by simp [hy])⟩
        · rcases List.mem_append.1 hx with h | h <;> simp [h]
        · by_cases hji : j = i
          · subst hji
            constructor
            · intro h
              rw [Array.getD_eq_getD_getElem?, Array.getElem?_setIfInBounds_self_of_lt (by omega)] at h
              cases h
            · rintro ⟨f', hf'⟩
              exact absurd rfl (hni _ hf')
          · rw [getD_set_ne true (fun h => hji h.symm), hiff j]
            constructor
            · rintro ⟨f', hf'⟩
              refine ⟨f', ?_⟩
              simp only [List.mem_append, List.mem_cons, Prod.mk.injEq] at hf' ⊢
              rcases hf' with h | ⟨h, _⟩ | h
              · exact .inl h
              · exact absurd h hji
              · exact .inr h
            · rintro ⟨f', hf'⟩
              refine ⟨f', ?_⟩
              simp only [List.mem_append, List.mem_cons] at hf' ⊢
              rcases hf' with h | h
              · exact .inl h
              · exact .inr (.inr h)
        · by_cases hji : j = i
          · subst hji
            rw [ho] at hoj
            cases hoj
            exact getD_set_true (hall ed he hb)
          · replace hj : (listed.setIfInBounds i true).getD j false = true := hj
            rw [getD_set_ne false (fun h => hji h.symm)] at hj
            exact getD_set_true (hcl j oj hoj hj ed he hb)
theorem zip_range'_mem : ∀ {gs : List Foot} {i n : Nat} {x : Nat × Foot}, x ∈ (List.range' i n).zip gs → i ≤ x.1 ∧ gs[x.1 - i]? = some x.2
  | [], i, n, x, h => by simp at h
  | g :: gs, i, 0, x, h => by simp at h
  | g :: gs, i, n + 1, x, h => by
    simp only [List.range'_succ, List.zip_cons_cons, List.mem_cons] at h
    rcases h with rfl | h
    · simp
    · obtain ⟨h1, h2⟩ := zip_range'_mem h
      refine ⟨by omega, ?_⟩
      rw [show x.1 - i = x.1 - (i + 1) + 1 from by omega]
      simpa using h2
theorem zip_range'_get : ∀ {gs : List Foot} {i n k : Nat}, gs.length = n → k < n → ∃ f, (i + k, f) ∈ (List.range' i n).zip gs
  | [], i, n, k, h, hk => by simp at h; omega
  | g :: gs, i, 0, k, h, hk => by omega
  | g :: gs, i, n + 1, k, h, hk => by
    simp only [List.range'_succ, List.zip_cons_cons, List.mem_cons]
    cases k with
    | zero => exact ⟨g, .inl rfl⟩
    | succ k =>
      obtain ⟨f, hf⟩ := zip_range'_get (i := i + 1) (k := k) (by simpa using h) (by omega)
      exact ⟨f, .inr (by rw [show i + (k + 1) = i + 1 + k from by omega]; exact hf)⟩
theorem zip_range'_pair : ∀ {gs : List Foot} {i n : Nat}, ((List.range' i n).zip gs).Pairwise (fun x y => x.1 < y.1)
  | [], i, n => by simp
  | g :: gs, i, 0 => by simp
  | g :: gs, i, n + 1 => by
    simp only [List.range'_succ, List.zip_cons_cons]
    exact List.pairwise_cons.2 ⟨fun y hy => by have := (zip_range'_mem hy).1; simp only; omega, zip_range'_pair⟩
theorem Good.drawn (hG : Good W0 M0 e s tm w) (n : Nat) (hn : w.drawn ≤ n) : Good W0 M0 e s tm { w with drawn := n } :=
  ((hG.toG.world (w' := { w with drawn := n }) (S := fun _ => False) (K' := e.K) Loose.none (Nat.le_refl _) (fun _ _ _ => rfl) rfl rfl ⟨rfl, hn, fun _ cs _ _ h => ⟨cs, h, rfl⟩⟩ (fun _ h => h) (fun b hb => ⟨.inl hb, hG.rel.lt b (.inl hb)⟩)).1).toGood fun _ h => h
theorem region_draw_ok {R : Type} {Φ : {R : Type} → Nat → List (A T) → (Res T → Option R) → Option R} (hΦ : SemOk Φ (CallOk P T)) (hT : TblOk P T) (hm : P.follows .mixedOrders = true) {id : Nat} {ops : Array Oper} {Kc : St T → Option R} {r : R} {Q : Exit → Act → World → Prop} {a : Act} (hf : Fits ops a.tmps.size)
    (h : opsRunF (T := T) (R := R) Φ ops.toList ops.toList s [] (fun s fs => cond (ordered (ancs ops.toList []) fs 0 && back ops.toList 0) (Kc s) none) = some r) (hG : Good W0 M0 e s a.tmps w)
    (hQ : ∀ s' e' a' w', Kc s' = some r → Good W0 M0 e' s' a'.tmps w' → a'.tmps.size = a.tmps.size → a'.defers = a.defers → Q .normal a' w') : (Code.region id ops true).wp P Q a w := by
  refine wp_region_any hm ?_
  obtain ⟨sn, gs, g1, g2, g3⟩ := opsRunF_ok hΦ ops.toList 0 s [] rfl h
  simp only [List.nil_append] at g2
  cases hb : (ordered (ancs ops.toList []) gs 0 && back ops.toList 0) with
  | false => rw [hb] at g2; cases g2
  | true =>
    rw [hb] at g2
    simp only [cond_true] at g2
    simp only [Bool.and_eq_true] at hb
    have hanc : AncOk ops (ancs ops.toList []) := ancs_ok ops.toList [] rfl (fun i l j h => by simp at h)
    have hl : ops.toList.length = ops.size := by simp
    rw [hl] at g1 g3
    refine wpAny_chain hT hf (fun e' a' w' hG' k1 k2 => hQ sn e' a' w' g2 hG' k1 k2) hanc (fun k o ho ed he hbd => ?_) (gs := gs) (fun k m f g hk hm' hkm => ?_) ops.size _ _ s e a _ ?_ g3 zip_range'_pair (fun x hx => ?_) (by simp) (fun i => ?_) (fun i o ho hi => ?_) (hG.drawn _ (Nat.le_succ _)) rfl rfl
    · have := back_ok hb.2 k o (by simpa using ho) ed he hbd
      omega
    · have := ordered_ok hb.1 k m f g hk hm' hkm
      rw [Nat.zero_add, Nat.zero_add] at this
      exact this
    · simp [g1]
    · have := (zip_range'_mem hx).2
      simpa using this
    · constructor
      · intro hi
        have his : i < ops.size := by
          rcases Nat.lt_or_ge i ops.size with h | h
          · exact h
          · rw [Array.getD_eq_getD_getElem?, Array.getElem?_eq_none (by simpa using h)] at hi
            cases hi
        have := zip_range'_get (i := 0) (k := i) g1 his
        simpa using this
      · rintro ⟨f, hf'⟩
        have h1 := (zip_range'_mem hf').2
        simp only [Nat.sub_zero] at h1
        have h2 := (List.getElem?_eq_some_iff.1 h1).1
        rw [Array.getD_eq_getD_getElem?, Array.getElem?_eq_getElem (by simp; omega)]
        simp
    · exfalso
      replace hi : (Array.replicate ops.size false).getD i false = true := hi
      revert hi
      rw [Array.getD_eq_getD_getElem?]
      by_cases his : i < ops.size
      · rw [Array.getElem?_eq_getElem (by simpa using his)]; simp
      · rw [Array.getElem?_eq_none (by simp; omega)]; simp
end
end Go.Sm
end
