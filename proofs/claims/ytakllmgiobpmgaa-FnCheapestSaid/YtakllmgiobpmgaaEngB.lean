import Derived.Test.YtakllmgiobpmgaaEngA
import Derived.Great.BuildSlice
import Derived.Laws.MakeOwn
import Derived.Deep.AppendSrc
import Derived.MapKept
/- An evaluator over data for the code of the program, and its law: what it computes is what the model computes. Part 2 of 4. -/
set_option linter.unusedSimpArgs false
set_option linter.deprecated false
set_option linter.unusedSectionVars false
section
set_option linter.unusedVariables false
namespace Go.Sm
variable {T : Tbl} {α : Type}
section
variable {Ok : Nat → List (A T) → Res T → Prop} {s s' : St T} {a : α} {P : Program} {e e' : Env} {w w' W0 : World} {M0 : Gh} {tm : Array Value}

theorem setO_objs (s : St T) (r : Nat) (x : Option (Root T)) : (s.setO r x).objs r = x := by simp [St.setO, beq_self]
theorem setO_ne (s : St T) {r r' : Nat} (x : Option (Root T)) (h : r' ≠ r) : (s.setO r x).objs r' = s.objs r' := by simp only [St.setO, beq_ne h, cond_false]
/-- A lent slice, or variable, lies where it lay. -/
structure PinOk (M0 : Gh) (e : Env) (s : St T) : Prop where
  arr : ∀ r t l ver nver dep, s.objs r = some (.arr t l ver nver dep true) → M0.hdr r = some (.slice (e.adr r) l.length (e.cap r))
  var : ∀ r cs a, s.objs r = some (.var cs) → M0.vad r = some a → e.adr r = some a
  hi : ∀ r a, M0.vad r = some a → BIG ≤ r
structure PinX (M0 : Gh) (r : Nat) (x : Root T) (ad : Option Addr) (c : Nat) : Prop where
  arr : ∀ t l ver nver dep, x = .arr t l ver nver dep true → M0.hdr r = some (.slice ad l.length c)
  var : ∀ cs a, x = .var cs → M0.vad r = some a → ad = some a
theorem PinX.low {r : Nat} {cs : List (C T)} {ad : Option Addr} {c : Nat} (h : PinOk M0 e s) (hr : r < BIG) : PinX M0 r (.var cs : Root T) ad c := ⟨fun _ _ _ _ _ h => (by cases h), fun _ a _ hv => absurd (h.hi r a hv) (Nat.not_le.2 hr)⟩
theorem PinX.old {r : Nat} {cs cs0 : List (C T)} {ad : Option Addr} {c : Nat} (h : PinOk M0 e s) (ho : s.objs r = some (.var cs0)) (ha : ad = e.adr r) : PinX M0 r (.var cs : Root T) ad c := ⟨fun _ _ _ _ _ h => (by cases h), fun _ a _ hv => ha.trans (h.var r cs0 a ho hv)⟩
theorem PinOk.upd {r : Nat} {x : Root T} (h : PinOk M0 e s) (ha : ∀ r', r' ≠ r → e'.adr r' = e.adr r') (hc : ∀ r', r' ≠ r → e'.cap r' = e.cap r') (hx : PinX M0 r x (e'.adr r) (e'.cap r)) : PinOk M0 e' (s.setO r (some x)) := by
  refine ⟨fun r' t l ver nver dep ho => ?_, fun r' cs a ho hv => ?_, h.hi⟩
  · by_cases hr : r' = r
    · subst hr
      rw [setO_objs] at ho
      exact hx.arr t l ver nver dep (Option.some.inj ho)
    · rw [setO_ne _ _ hr] at ho
      rw [ha r' hr, hc r' hr]
      exact h.arr r' t l ver nver dep ho
  · by_cases hr : r' = r
    · subst hr
      rw [setO_objs] at ho
      exact hx.var cs a (Option.some.inj ho) hv
    · rw [setO_ne _ _ hr] at ho
      rw [ha r' hr]
      exact h.var r' cs a ho hv
theorem PinOk.same (h : PinOk M0 e s) (ha : e'.adr = e.adr) (hc : e'.cap = e.cap) : PinOk M0 e' s := ⟨fun r t l ver nver dep ho => by rw [ha, hc]; exact h.arr r t l ver nver dep ho, fun r cs a ho hv => by rw [ha]; exact h.var r cs a ho hv, h.hi⟩
/-- All that is known of a state, in one. -/
structure Good (W0 : World) (M0 : Gh) (e : Env) (s : St T) (tm : Array Value) (w : World) : Prop where
  rel : Rel e s tm w
  fr : Fr W0 M0 e w
  pin : PinOk M0 e s

def Env.drop (e : Env) (r : Nat) : Env := { e with fp := fun r' b => r' ≠ r ∧ e.fp r' b }
theorem info_dead {q : Ref} (h : s.objs q.r = some .dead) : refInfo s q = none := by unfold refInfo; rw [h]
/-- An object is let go. -/
theorem Good.kill (hG : Good W0 M0 e s tm w) {r : Nat} {o : Root T} (ho : s.objs r = some o) : Good W0 M0 (e.drop r) (s.setO r (some .dead)) tm w ∧ Keeps e s w (e.drop r) (s.setO r (some .dead)) w ∧ Loose W0 M0 (e.drop r) w (e.fp r) := by
  obtain ⟨hR, hF, hP⟩ := hG
  have hd : ∀ q : Ref, q.r = r → (s.setO r (some .dead)).objs q.r = some .dead := fun q h => by rw [h]; exact setO_objs _ _ _
  obtain ⟨h1, h2, h3⟩ := Rel.upd (e' := e.drop r) (x := .dead) hR hF Loose.none ⟨fun _ _ => rfl, fun _ _ => rfl, fun r' b h => ⟨fun x => x.2, fun x => ⟨h, x⟩⟩⟩ (fun _ h => h) (fun _ h => .inl h) (Nat.le_refl _) (fun _ _ _ _ => rfl) rfl rfl (Oth.refl _)
    (fun b h => absurd rfl h.1)
    (fun q rng v hq h => ⟨⟨_, hd q hq, fun _ _ _ _ _ _ h => by cases h⟩, h.2.1, fun t l hi => by rw [info_dead (hd q hq)] at hi; cases hi⟩)
    (fun q row col v hq h => ⟨⟨_, hd q hq, fun _ _ _ _ _ _ h => by cases h⟩, h.2.1, (fun cs hc => by rw [hd q hq] at hc; cases hc), fun t l hi => by rw [info_dead (hd q hq)] at hi; cases hi⟩)
    (fun v h => ⟨⟨_, setO_objs _ _ _⟩, h.2.1, fun kt et l hm => by rw [setO_objs] at hm; cases hm⟩)
  refine ⟨⟨h3 trivial, h2, hP.upd (fun _ _ => rfl) (fun _ _ => rfl) ⟨fun _ _ _ _ _ h => (by cases h), fun _ _ h => (by cases h)⟩⟩, h1, fun b hb => hR.disK _ _ hb, fun r' b hb h => h.1 (hR.dis _ _ _ h.2 hb), fun b hb => hR.lt b (.inr ⟨_, hb⟩), fun b hb => hF.own _ _ hb⟩

theorem OwnD.cut {t : Nat} {l l' : List (T.U t)} {A : Option Addr} {c : Nat} {S : Nat → Prop} {rng : Option (Nat × Nat)} {v : Value} (h : OwnD T w (.arr t l) (.slice A l.length c) S) (hc : IsCut rng l l') (hs : SlOf A c l.length (T.size t) rng v) :
    OwnD T w (.arr t l') v S := by
  cases rng with
  | none => simp only [IsCut, SlOf] at hc hs; subst hc; subst hs; exact h
  | some x =>
    obtain ⟨off, len⟩ := x
    obtain ⟨h1, rfl⟩ := hc
    obtain ⟨h2, A', rfl, h3⟩ := hs
    have hl : ((l.drop off).take len).length = len := by simp; omega
    obtain ⟨A0, c0, vals, F, he, hA⟩ := (OwnD.arr_iff (fun _ => False)).1 h
    simp only [Value.slice.injEq, true_and] at he
    obtain ⟨rfl, rfl⟩ := he
    have hrow : ∀ i, i < len → Go.Sm.row T t ((l.drop off).take len) i = Go.Sm.row T t l (off + i) := by
      intro i hi
      unfold Go.Sm.row
      congr 1
      simp [List.getD_eq_getElem?_getD, List.getElem?_take, hi, List.getElem?_drop]
    refine (OwnD.arr_iff (fun _ => False)).2 ⟨A', c - off, fun i j => vals (off + i) j, fun i j b => i < len ∧ F (off + i) j b, by rw [hl], by omega, fun hne => ?_, fun hp => ?_, fun i j d hi hd => ?_, fun i j d hi hd => ?_, fun i j b hb => ?_, fun i j i' j' b hb hb' => ?_⟩
    · have h0 : 0 < len := by
        rcases Nat.eq_zero_or_pos len with h0 | h0
        · subst h0; simp at hne
        · exact h0
      obtain ⟨b, o, e1⟩ := hA.hA (fun h => by subst h; simp at h1; omega)
      exact ⟨b, o + off * T.size t, by rw [h3 (by omega), e1]; simp [addr_add]⟩
    · obtain ⟨b, o, cs, el, e1, e2, e3, e4⟩ := hA.hblk (by omega)
      refine ⟨b, o + off * T.size t, cs, el, by rw [h3 (by omega), e1]; simp [addr_add], e2, e3, ?_⟩
      rw [Nat.add_assoc, ← Nat.add_mul]
      rw [show off + (c - off) = c from by omega]
      exact e4
    · rw [hl] at hi
      rw [hrow i hi] at hd
      obtain ⟨b, o, e1, e3⟩ := hA.hcell (off + i) j d (by omega) hd
      refine ⟨b, o + off * T.size t, by rw [h3 (by omega), e1]; simp [addr_add], ?_⟩
      rw [show o + off * T.size t + i * T.size t + j = o + (off + i) * T.size t + j from by rw [Nat.add_mul]; omega]
      exact e3
    · rw [hl] at hi
      rw [hrow i hi] at hd
      have := hA.hsub (off + i) j d (by omega) hd
      refine OwnD.wider this fun b hb => ⟨hi, hb⟩
    · obtain ⟨k1, k2⟩ := hA.hF _ _ _ hb.2
      refine ⟨k1, fun b' o' he => ?_⟩
      have hi := hb.1
      obtain ⟨b, o, cs, el, e1, e2, e3, e4⟩ := hA.hblk (by omega)
      rw [h3 (by omega), e1] at he
      simp only [Option.map_some, addr_add, Option.some.injEq, Addr.mk.injEq] at he
      obtain ⟨rfl, _⟩ := he
      exact k2 _ _ e1
    · obtain ⟨k1, k2⟩ := hA.hdis _ _ _ _ _ hb.2 hb'.2
      exact ⟨by omega, k2⟩

theorem capD_get : ∀ {caps : List (C T)} {cs : List ((u : Nat) × T.U u)}, capD caps = some cs → caps = cs.map fun c => .rptr c.1 c.2 0
  | [], cs, h => by simp [capD] at h; subst h; rfl
  | c :: r, cs, h => by
    unfold capD at h
    split at h
    · rename_i heq; cases heq
    · rename_i t x r' heq
      cases heq
      obtain ⟨cs', h1, rfl⟩ := Option.map_eq_some_iff.1 h
      rw [capD_get h1]; rfl
    · cases h
/-- A closure as data. -/
theorem fnD_rep {f : Nat} {caps : List (C T)} {u : Value} (hf : f < SLF) (hc : RelC e s w (.fn f caps) u) {cs : List ((u : Nat) × T.U u)} (hcs : capD caps = some cs) (x : {x : T.U (T.fty f) // fpick (T.fopt (T.fty f) x) = some (f, cs)}) : RepD T w e.K (.fn (T.fty f) x.1) u := by
  obtain ⟨vs, hu, hl, hx⟩ := hc
  have hu := hu.plain hf
  subst hu
  rw [capD_get hcs] at hl hx
  have key : ∀ j : Nat, ∃ y : Nat × Nat × (Nat → Value), ∀ c : (u : Nat) × T.U u, cs[j]? = some c → vs[j]? = some (Value.pointer (some ⟨y.1, y.2.1, none⟩)) ∧ ∀ (i : Nat) (d : D T.U), (T.dget c.1 c.2)[i]? = some d → e.K y.1 ∧ w.cell? ⟨y.1, y.2.1 + i, none⟩ = some (y.2.2 i) ∧ RepD T w e.K d (y.2.2 i) := fun j => by
    cases hj : cs[j]? with
    | none => exact ⟨(0, 0, fun _ => .tuple #[]), fun c h => by cases h⟩
    | some c =>
      have hlt : j < vs.length := by
        have := (List.getElem?_eq_some_iff.1 hj).1
        rw [hl, List.length_map]; exact this
      have hv := List.getElem?_eq_getElem hlt
      obtain ⟨b, off, vals, h1, h2⟩ := hx j (.rptr c.1 c.2 0) _ (by rw [List.getElem?_map, hj]; rfl) hv
      refine ⟨(b, off, vals), fun c' h => ?_⟩
      cases h
      exact ⟨by rw [hv, h1]; rfl, h2⟩
  obtain ⟨y, hy⟩ := Classical.axiomOfChoice key
  refine .fn _ x.1 _ vs (fun j => (y j).1) (fun j => (y j).2.1) (fun j => (y j).2.2) rfl ?_ ?_ ?_ ?_
  · intro g ds hp
    rw [x.2] at hp
    cases hp
    exact ⟨rfl, by simpa using hl⟩
  · intro g ds hp j c hj
    rw [x.2] at hp
    cases hp
    exact (hy j c hj).1
  · intro g ds hp j c i d hj hd
    rw [x.2] at hp
    cases hp
    exact ⟨((hy j c hj).2 i d hd).1, ((hy j c hj).2 i d hd).2.1⟩
  · intro g ds hp j c i d hj hd
    rw [x.2] at hp
    cases hp
    exact ((hy j c hj).2 i d hd).2.2
/-- A cell's content is handed over. -/
theorem moveC_ok (hG : Good W0 M0 e s tm w) {S0 : Nat → Prop} (hS : Loose W0 M0 e w S0) {c : C T} {u : Value} (hc : RelC e s w c u) {k : D T.U → Bool → M T α} (h : Rn Ok (moveC c k) s a s') :
    ∃ d own s1 e1 S1, Rn Ok (k d own) s1 a s' ∧ Good W0 M0 e1 s1 tm w ∧ Keeps e s w e1 s1 w ∧ Loose W0 M0 e1 w (fun b => S0 b ∨ S1 b) ∧ (∀ b, S0 b → ¬ S1 b) ∧ e1.K = e.K ∧ s1.regs = s.regs ∧ (∀ r, s1.objs r = s.objs r ∨ s1.objs r = some .dead) ∧
      (∀ r b, e1.fp r b → e.fp r b) ∧ e1.adr = e.adr ∧ e1.cap = e.cap ∧ (own = true → OwnD T w d u S1) ∧ (own = false → RepD T w e.K d u) := by
  unfold moveC at h
  split at h
  · exact ⟨_, false, s, e, fun _ => False, h, hG, .refl, ⟨fun b hb => hS.notK b (hb.resolve_right id), fun r b hb => hS.notFp r b (hb.resolve_right id), fun b hb => hS.lt b (hb.resolve_right id), fun b hb => hS.own b (hb.resolve_right id)⟩, fun _ _ h => h, rfl, rfl, fun _ => .inl rfl, fun _ _ h => h, rfl, rfl, fun h => (by cases h), fun _ => hc⟩
  · exact ⟨_, false, s, e, fun _ => False, h, hG, .refl, ⟨fun b hb => hS.notK b (hb.resolve_right id), fun r b hb => hS.notFp r b (hb.resolve_right id), fun b hb => hS.lt b (hb.resolve_right id), fun b hb => hS.own b (hb.resolve_right id)⟩, fun _ _ h => h, rfl, rfl, fun _ => .inl rfl, fun _ _ h => h, rfl, rfl, fun h => (by cases h), fun _ => hc⟩
  · rename_i x hx hx2
    exact ⟨_, true, s, e, fun _ => False, h, hG, .refl, ⟨fun b hb => hS.notK b (hb.resolve_right id), fun r b hb => hS.notFp r b (hb.resolve_right id), fun b hb => hS.lt b (hb.resolve_right id), fun b hb => hS.own b (hb.resolve_right id)⟩, fun _ _ h => h, rfl, rfl, fun _ => .inl rfl, fun _ _ h => h, rfl, rfl, fun _ => (by
      cases hc with
      | bool b => exact .bool _ _
      | int k n => exact .int _ _ _
      | str s => exact .str _ _
      | nil => exact .nil _
      | arr t l => exact absurd rfl (hx t l)
      | fn t x => exact absurd rfl (hx2 t x)), fun h => (by cases h)⟩
  · obtain ⟨A, rfl, hr⟩ := hc
    exact ⟨_, false, s, e, fun _ => False, h, hG, .refl, ⟨fun b hb => hS.notK b (hb.resolve_right id), fun r b hb => hS.notFp r b (hb.resolve_right id), fun b hb => hS.lt b (hb.resolve_right id), fun b hb => hS.own b (hb.resolve_right id)⟩, fun _ _ h => h, rfl, rfl, fun _ => .inl rfl, fun _ _ h => h, rfl, rfl, fun h => (by cases h), fun _ => hr⟩
  · rename_i f caps
    obtain ⟨hfb, h⟩ := rn_cond h
    rw [Nat.blt_eq] at hfb
    split at h
    · rename_i cs hcs
      split at h
      · rename_i x hx
        exact ⟨_, false, s, e, fun _ => False, h, hG, .refl, ⟨fun b hb => hS.notK b (hb.resolve_right id), fun r b hb => hS.notFp r b (hb.resolve_right id), fun b hb => hS.lt b (hb.resolve_right id), fun b hb => hS.own b (hb.resolve_right id)⟩, fun _ _ h => h, rfl, rfl, fun _ => .inl rfl, fun _ _ h => h, rfl, rfl, fun h => (by cases h), fun _ => fnD_rep hfb hc hcs x⟩
      · exact (rn_fail h).elim
    · exact (rn_fail h).elim
  · rename_i q t0 rng ex
    have h := rn_getO h
    split at h
    · rename_i t l ver nver ho hp
      obtain ⟨h1, h⟩ := rn_cond h
      obtain ⟨l', h2, h⟩ := rn_cut h
      have h := rn_setO h
      obtain ⟨k1, k2, k3⟩ := hG.kill ho
      obtain ⟨vals, F, hA⟩ := hG.rel.objs _ _ ho
      have hi : refInfo s q = some ⟨t, l⟩ := by unfold refInfo; simp only [ho, hp]; rw [if_pos (nbeq h1)]
      obtain ⟨A, cc, hat, hsl⟩ := hc.2.2 _ _ hi
      unfold RefAt at hat
      simp only [hp] at hat
      obtain ⟨rfl, rfl⟩ := hat
      have hown : OwnD T w (.arr t l) (.slice (e.adr q.r) l.length (e.cap q.r)) (e.fp q.r) := (OwnD.arr_iff e.K).2 ⟨_, _, vals, F, rfl, hA⟩
      refine ⟨_, true, _, e.drop q.r, e.fp q.r, h, k1, k2, ⟨fun b hb => hb.elim (hS.notK b) (k3.notK b), fun r b hb => hb.elim (fun x y => hS.notFp r b x y.2) (k3.notFp r b), fun b hb => hb.elim (hS.lt b) (k3.lt b), fun b hb => hb.elim (hS.own b) (k3.own b)⟩,
        fun b hb hb' => hS.notFp _ _ hb hb', rfl, rfl, fun r => ?_, fun _ _ h => h.2, rfl, rfl, fun _ => hown.cut h2 hsl, fun h => (by cases h)⟩
      by_cases hr : r = q.r
      · subst hr; exact .inr (setO_objs _ _ _)
      · exact .inl (setO_ne _ _ hr)
    · exact (rn_fail h).elim
  · exact (rn_fail h).elim
/-- Cells handed over: each is one's own (its blocks: F j), or stays shared. -/
def Moved (T : Tbl) (w : World) (K : Nat → Prop) (ds : List (D T.U)) (vs : List Value) (own : Bool) (F : Nat → Nat → Prop) : Prop :=
  vs.length = ds.length ∧ ∀ (j : Nat) (d : D T.U) (v : Value), ds[j]? = some d → vs[j]? = some v → (OwnD T w d v (F j) ∨ (own = false ∧ RepD T w K d v))
theorem Moved.fix {K : Nat → Prop} {ds : List (D T.U)} {vs : List Value} {own : Bool} {F : Nat → Nat → Prop} (h : Moved T w K ds vs own F) (t : Nat) : Moved T w K (T.fix t ds) vs own F :=
  ⟨by unfold Tbl.fix; rw [fixNil_length]; exact h.1, fun j d v hd hv => by
    obtain ⟨d0, h1, rfl | ⟨rfl, t', rfl⟩⟩ := fixNil_get _ _ _ _ hd
    · exact h.2 j _ v h1 hv
    · exact (h.2 j _ v h1 hv).imp (fun h => h.ofNil t') fun h => ⟨h.1, h.2.ofNil t'⟩⟩
theorem moveCs_ok : ∀ {cs : List (C T)} {vs : List Value} {e : Env} {s : St T} (hG : Good W0 M0 e s tm w) {S0 : Nat → Prop} (hS : Loose W0 M0 e w S0) (hc : RelCs e s w cs vs) {k : List (D T.U) → Bool → M T α} (h : Rn Ok (moveCs cs k) s a s'),
    ∃ (ds : List (D T.U)) (own : Bool) (s1 : St T) (e1 : Env) (S1 : Nat → Prop) (F : Nat → Nat → Prop), Rn Ok (k ds own) s1 a s' ∧ Good W0 M0 e1 s1 tm w ∧ Keeps e s w e1 s1 w ∧ Loose W0 M0 e1 w (fun b => S0 b ∨ S1 b) ∧ (∀ b, S0 b → ¬ S1 b) ∧ e1.K = e.K ∧ s1.regs = s.regs ∧ (∀ r, s1.objs r = s.objs r ∨ s1.objs r = some .dead) ∧
      (∀ r b, e1.fp r b → e.fp r b) ∧ e1.adr = e.adr ∧ e1.cap = e.cap ∧ Moved T w e.K ds vs own F ∧ (∀ j b, F j b → S1 b) ∧ (∀ i j b, F i b → F j b → i = j)
  | [], vs, e, s, hG, S0, hS, hc, k, h => by
    have hl := hc.1
    simp at hl
    subst hl
    exact ⟨[], true, s, e, fun _ => False, fun _ _ => False, h, hG, .refl, ⟨fun b hb => hS.notK b (hb.resolve_right id), fun r b hb => hS.notFp r b (hb.resolve_right id), fun b hb => hS.lt b (hb.resolve_right id), fun b hb => hS.own b (hb.resolve_right id)⟩, fun _ _ h => h, rfl, rfl, fun _ => .inl rfl, fun _ _ h => h, rfl, rfl, ⟨rfl, fun j d v hd => by simp at hd⟩, fun _ _ h => h.elim, fun _ _ _ h => h.elim⟩
  | c :: cs, [], e, s, hG, S0, hS, hc, k, h => by have := hc.1; simp at this
  | c :: cs, v :: vs, e, s, hG, S0, hS, hc, k, h => by
    obtain ⟨h1, h2⟩ := hc.tail
    obtain ⟨d, own, s1, e1, S1, g, g1, g2, g3, g4, g5, g6, g7, g8, g8a, g8c, g9, g10⟩ := moveC_ok hG hS h1 h
    obtain ⟨ds, owns, s2, e2, S2, F, r, r1, r2, r3, r4, r5, r6, r7, r8, r8a, r8c, r9, r10, r11⟩ := moveCs_ok g1 g3 (g2.cs h2) g
    refine ⟨d :: ds, own && owns, s2, e2, fun b => S1 b ∨ S2 b, fun j b => match j with | 0 => S1 b | j + 1 => F j b, r, r1, g2.trans r2, ⟨fun b hb => r3.notK b (by rcases hb with h | h | h; exact .inl (.inl h); exact .inl (.inr h); exact .inr h), fun r b hb => r3.notFp r b (by rcases hb with h | h | h; exact .inl (.inl h); exact .inl (.inr h); exact .inr h), fun b hb => r3.lt b (by rcases hb with h | h | h; exact .inl (.inl h); exact .inl (.inr h); exact .inr h), fun b hb => r3.own b (by rcases hb with h | h | h; exact .inl (.inl h); exact .inl (.inr h); exact .inr h)⟩,
      fun b hb hb' => hb'.elim (g4 b hb) (r4 b (.inl hb)), r5.trans g5, r6.trans g6, fun r => ?_, fun r b h => g8 r b (r8 r b h), r8a.trans g8a, r8c.trans g8c, ⟨by have := r9.1; simp [this], fun j x u hx hu => ?_⟩, fun j b hb => ?_, fun i j b hb hb' => ?_⟩
    · rcases r7 r with h | h
      · rw [h]; exact g7 r
      · exact .inr h
    · cases j with
      | zero =>
        simp only [List.getElem?_cons_zero, Option.some.injEq] at hx hu
        subst hx; subst hu
        cases own with
        | true => exact .inl (g9 rfl)
        | false => exact .inr ⟨rfl, g10 rfl⟩
      | succ j =>
        simp only [List.getElem?_cons_succ] at hx hu
        rcases r9.2 j x u hx hu with h | ⟨h, h'⟩
        · exact .inl h
        · exact .inr ⟨by simp [h], by rw [g5] at h'; exact h'⟩
    · cases j with
      | zero => exact .inl hb
      | succ j => exact .inr (r10 j b hb)
    · cases i with
      | zero =>
        cases j with
        | zero => rfl
        | succ j => exact absurd (r10 j b hb') (r4 b (.inr hb))
      | succ i =>
        cases j with
        | zero => exact absurd (r10 i b hb) (r4 b (.inr hb'))
        | succ j => rw [r11 i j b hb hb']
end
end Go.Sm
end

section
set_option linter.unusedVariables false
namespace Go.Sm
variable {T : Tbl} {α : Type}
section
variable {Ok : Nat → List (A T) → Res T → Prop} {s s' : St T} {a : α} {P : Program} {e e' : Env} {w w' W0 : World} {M0 : Gh} {tm : Array Value}

/-- One block more, and nothing else. -/
structure NewW (w w' : World) (o : Obj) : Prop where
  size : w'.heap.size = w.heap.size + 1
  new : w'.heap[w.heap.size]? = some o
  old : ∀ b, b < w.heap.size → w'.heap[b]? = w.heap[b]?
  os : w'.os = w.os
  tape : w'.tape = w.tape
  output : Oth w w'
theorem Oth.pushed {w w' : World} (ho : w'.output = w.output) (hd : w.drawn ≤ w'.drawn) (hh : ∀ b, b < w.heap.size → w'.heap[b]? = w.heap[b]?) : Oth w w' :=
  ⟨ho, hd, fun b cs el fz h => ⟨cs, (hh b (Array.getElem?_eq_some_iff.1 h).1).trans h, rfl⟩⟩
theorem NewW.push (w : World) (o : Obj) : NewW w { w with heap := w.heap.push o } o :=
  ⟨by simp, by simp, fun b hb => by simp [Array.getElem?_push, Nat.ne_of_lt hb], rfl, rfl, Oth.pushed rfl (Nat.le_refl _) fun b hb => by simp [Array.getElem?_push, Nat.ne_of_lt hb]⟩
theorem NewW.drew (w : World) (o : Obj) : NewW w (w.drew.alloc o) o :=
  ⟨by show (w.heap.push o).size = _; simp, by show (w.heap.push o)[w.heap.size]? = _; simp, fun b hb => by show (w.heap.push o)[b]? = _; simp [Array.getElem?_push, Nat.ne_of_lt hb], rfl, rfl, Oth.pushed rfl (Nat.le_succ _) fun b hb => by show (w.heap.push o)[b]? = _; simp [Array.getElem?_push, Nat.ne_of_lt hb]⟩
def Env.put (e : Env) (r : Nat) (ad : Option Addr) (c : Nat) (S : Nat → Prop) : Env :=
  { K := e.K, adr := fun r' => if r' = r then ad else e.adr r', cap := fun r' => if r' = r then c else e.cap r', fp := fun r' b => if r' = r then S b else e.fp r' b }
theorem Env.put_upd (e : Env) (r : Nat) (ad : Option Addr) (c : Nat) (S : Nat → Prop) : EnvUpd e (e.put r ad c S) r :=
  ⟨fun r' h => by simp [Env.put, h], fun r' h => by simp [Env.put, h], fun r' b h => by simp [Env.put, h]⟩
theorem Env.put_adr (e : Env) (r : Nat) (ad : Option Addr) (c : Nat) (S : Nat → Prop) : (e.put r ad c S).adr r = ad := by simp [Env.put]
theorem Env.put_cap (e : Env) (r : Nat) (ad : Option Addr) (c : Nat) (S : Nat → Prop) : (e.put r ad c S).cap r = c := by simp [Env.put]
theorem Env.put_fp (e : Env) (r : Nat) (ad : Option Addr) (c : Nat) (S : Nat → Prop) (b : Nat) : (e.put r ad c S).fp r b ↔ S b := by simp [Env.put]

/-- A new object: a new block, and what it takes over. -/
theorem Good.new (hG : Good W0 M0 e s tm w) {S : Nat → Prop} (hS : Loose W0 M0 e w S) {r : Nat} (hr : s.objs r = none) {o : Obj} (hw : NewW w w' o) (x : Root T) (c : Nat) (hp : PinX M0 r x (some ⟨w.heap.size, 0, none⟩) c := by exact ⟨fun _ _ _ _ _ h => (by cases h), fun _ _ h => (by cases h)⟩) :
    Keeps e s w (e.put r (some ⟨w.heap.size, 0, none⟩) c fun b => b = w.heap.size ∨ S b) (s.setO r (some x)) w' ∧
    (RelO (e.put r (some ⟨w.heap.size, 0, none⟩) c fun b => b = w.heap.size ∨ S b) (s.setO r (some x)) w' r x → Good W0 M0 (e.put r (some ⟨w.heap.size, 0, none⟩) c fun b => b = w.heap.size ∨ S b) (s.setO r (some x)) tm w') := by
  obtain ⟨hR, hF, hP⟩ := hG
  have hno : ∀ q : Ref, q.r = r → ¬ Live s q := fun q hq ⟨o, ho, _⟩ => by rw [hq, hr] at ho; cases ho
  obtain ⟨h1, h2, h3⟩ := Rel.upd (w' := w') (x := x) hR hF hS (Env.put_upd e r (some ⟨w.heap.size, 0, none⟩) c fun b => b = w.heap.size ∨ S b) (fun _ h => h) (fun _ h => .inl h) (by have := hw.size; omega) (fun b hb _ _ => hw.old b hb) hw.os hw.tape hw.output
    (fun b hb => by
      rw [Env.put_fp] at hb
      have := hw.size
      rcases hb with rfl | hb
      · exact ⟨.inr (.inr (Nat.le_refl _)), by omega⟩
      · exact ⟨.inr (.inl hb), by have := hS.lt b hb; omega⟩)
    (fun q rng v hq h => absurd h.1 (hno q hq)) (fun q row col v hq h => absurd h.1 (hno q hq)) (fun v h => by obtain ⟨⟨o, ho⟩, _⟩ := h; rw [hr] at ho; cases ho)
  exact ⟨h1, fun hx => ⟨h3 hx, h2, hP.upd (Env.put_upd ..).adr (Env.put_upd ..).cap (by rw [Env.put_adr, Env.put_cap]; exact hp)⟩⟩
/-- A reference to a whole object that has just been made or turned. -/
theorem own_rel {e : Env} {s : St T} {w : World} {r t ver : Nat} {nver : NV} {l : List (T.U t)} {dep : Dep} {pin : Bool} (ho : s.objs r = some (.arr t l ver nver dep pin)) (t' : Nat) {A : Option Addr} {c : Nat} (hA : e.adr r = A) (hc : e.cap r = c) :
    RelC e s w (.own ⟨r, ver, none⟩ t' none false) (.slice A l.length c) := by
  subst hA; subst hc
  refine ⟨⟨_, ho, fun _ _ _ _ _ _ h => by cases h; exact Nat.le_refl _⟩, ⟨_, _, _, rfl⟩, fun t2 l2 hi => ?_⟩
  unfold refInfo at hi
  simp only [ho, if_true, Option.some.injEq, Sigma.mk.injEq] at hi
  obtain ⟨rfl, hi⟩ := hi
  cases hi
  exact ⟨_, _, ⟨rfl, rfl⟩, rfl⟩
theorem Good.newArr (hT : TblOk P T) (hG : Good W0 M0 e s tm w) {S : Nat → Prop} (hS : Loose W0 M0 e w S) {r : Nat} (hr : s.objs r = none) {t : Nat} {l : List (T.U t)} {dep : Dep} {c : Nat} {cs : Array Value} {el : Nat × Bool} (hw : NewW w w' (cellsE cs el))
    {vals : Nat → Nat → Value} {F : Nat → Nat → Nat → Prop} (hc : l.length ≤ c) (hsz : c * T.size t ≤ cs.size)
    (hcell : ∀ i j d, i < l.length → (row T t l i)[j]? = some d → cs[i * T.size t + j]? = some (vals i j))
    (hsub : ∀ i j d, i < l.length → (row T t l i)[j]? = some d → RowOk T w e.K dep i d (vals i j) (F i j))
    (hF : ∀ i j b, F i j b → S b) (hdis : ∀ i j i' j' b, F i j b → F i' j' b → i = i' ∧ j = j') :
    ∃ e', Good W0 M0 e' (s.setO r (some (.arr t l 0 0 dep false))) tm w' ∧ Keeps e s w e' (s.setO r (some (.arr t l 0 0 dep false))) w' ∧
      RelC e' (s.setO r (some (.arr t l 0 0 dep false))) w' (.own ⟨r, 0, none⟩ t none false) (.slice (some ⟨w.heap.size, 0, none⟩) l.length c) ∧ e'.K = e.K := by
  obtain ⟨h1, h2⟩ := hG.new hS hr hw (.arr t l 0 0 dep false) c
  refine ⟨_, h2 ⟨vals, F, by rw [Env.put_cap]; exact hc, fun _ => ⟨_, _, Env.put_adr ..⟩, fun hp => ?_, fun i j d hi hd => ?_, fun i j d hi hd => ?_, fun i j b hb => ?_, hdis⟩, h1, own_rel (setO_objs _ _ _) t (Env.put_adr ..) (Env.put_cap ..), rfl⟩
  · refine ⟨_, _, cs, el, Env.put_adr .., (Env.put_fp ..).2 (.inl rfl), hw.new, ?_⟩
    rw [Env.put_cap]; omega
  · refine ⟨_, _, Env.put_adr .., ?_⟩
    simp only [World.cell?, hw.new]
    simpa using hcell i j d hi hd
  · exact (hsub i j d hi hd).mono (fun _ h => h) (fun b hb => hw.old b (hG.rel.lt b (.inl hb))) (fun b hb => hw.old b (hS.lt b (hF i j b hb)))
  · refine ⟨(Env.put_fp ..).2 (.inr (hF i j b hb)), fun b' off he => ?_⟩
    rw [Env.put_adr] at he
    cases he
    have := hS.lt b (hF i j b hb)
    omega
theorem Good.newVar (hG : Good W0 M0 e s tm w) {r : Nat} (hr : s.objs r = none ∧ r < BIG) {cs : List (C T)} {vs : List Value} {el : Nat × Bool} (hc : RelCs e s w cs vs) (hw : NewW w w' (cellsE vs.toArray el)) :
    ∃ e', Good W0 M0 e' (s.setO r (some (.var cs))) tm w' ∧ Keeps e s w e' (s.setO r (some (.var cs))) w' ∧
      RelC e' (s.setO r (some (.var cs))) w' (.ptr ⟨r, 0, none⟩ 0 0) (.pointer (some ⟨w.heap.size, 0, none⟩)) ∧ e'.K = e.K := by
  obtain ⟨h1, h2⟩ := hG.new Loose.none hr.1 hw (.var cs) 0 (.low hG.pin hr.2)
  refine ⟨_, h2 ⟨_, vs.toArray, el, Env.put_adr .., (Env.put_fp ..).2 (.inl rfl), hw.new, h1.cs hc⟩, h1, ⟨⟨_, setO_objs _ _ _, fun _ _ _ _ _ _ h => by cases h⟩, ⟨_, rfl⟩, fun cs' _ _ => ⟨_, Env.put_adr .., rfl⟩, fun t l hi => ?_⟩, rfl⟩
  unfold refInfo at hi
  rw [setO_objs] at hi
  cases hi

theorem run_newVar {t : Nat} {v : Value} (w : World) : (newVar t v).run P w = .ok ⟨w.heap.size, 0, none⟩ { w with heap := w.heap.push (.cells v.cells t) } := by
  simp [newVar, newRow, newObj, Sem.run]
theorem allocM_ok (hT : TblOk P T) (hG : Good W0 M0 e s tm w) {d el : Nat} {k : C T → M T α} (h : Rn Ok (allocM d el k) s a s') (hs : 0 < T.size el) :
    ∃ c s1 e1 w1 val, Rn Ok (k c) s1 a s' ∧ Good W0 M0 e1 s1 tm w1 ∧ Keeps e s w e1 s1 w1 ∧ s1.regs = s.regs ∧ RelC e1 s1 w1 c val ∧ (Instr.alloc el true (.tuple #[])).run P w = .ok val w1 := by
  unfold allocM at h
  split at h
  · rename_i cs hz
    obtain ⟨h1, h⟩ := rn_newO h
    obtain ⟨i, g1, g2, g3, z, g4, g5, g6⟩ := hT.info el hs
    have hw := NewW.push w (cellsE z.cells (el, false))
    rw [show z.cells = (T.zero el).toArray from by rw [← g5]] at hw
    obtain ⟨e', k1, k2, k3, k4⟩ := hG.newVar h1 (toCs_rel hz) hw
    refine ⟨_, _, e', _, _, h, k1, k2, rfl, k3, ?_⟩
    simp [Instr.alloc, zeroValue, run_typeInfo w g1, g4, run_newVar, ← g5, cellsE, fzE]
  · exact (rn_fail h).elim
theorem boxM_ok (hT : TblOk P T) (hG : Good W0 M0 e s tm w) {d el : Nat} {v : V T} {u : Value} (hv : RelV e s w v u) {k : C T → M T α} (h : Rn Ok (boxM d el v k) s a s') :
    ∃ c s1 e1 w1 val, Rn Ok (k c) s1 a s' ∧ Good W0 M0 e1 s1 tm w1 ∧ Keeps e s w e1 s1 w1 ∧ s1.regs = s.regs ∧ RelC e1 s1 w1 c val ∧ (Instr.box el u).run P w = .ok val w1 := by
  unfold boxM at h
  split at h
  · rename_i cs hz
    obtain ⟨h1, h⟩ := rn_newO h
    have hw := NewW.push w (cellsE u.cells (el, false))
    have hc := RelV.cells hv hz
    obtain ⟨e', k1, k2, k3, k4⟩ := hG.newVar (vs := u.cells.toList) h1 hc (by simpa using hw)
    exact ⟨_, _, e', _, _, h, k1, k2, rfl, k3, by simp [Instr.box, run_newVar, cellsE, fzE]⟩
  · exact (rn_fail h).elim
end
end Go.Sm
end

section
set_option linter.unusedVariables false
namespace Go.Sm
variable {T : Tbl} {α : Type}
theorem putAt_length {β : Type} (l : List β) (off : Nat) (x : List β) (h : off + x.length ≤ l.length) : (putAt l off x).length = l.length := by
  unfold putAt; simp; omega
theorem putAt_get {β : Type} (l : List β) (off : Nat) (x : List β) (h : off + x.length ≤ l.length) (j : Nat) : (putAt l off x)[j]? = if j < off then l[j]? else if j < off + x.length then x[j - off]? else l[j]? := by
  unfold putAt
  have h1 : (l.take off).length = off := by simp; omega
  by_cases h2 : j < off
  · rw [if_pos h2, List.getElem?_append_left (by simp; omega), List.getElem?_append_left (by omega), List.getElem?_take, if_pos h2]
  · rw [if_neg h2]
    by_cases h3 : j < off + x.length
    · rw [if_pos h3, List.getElem?_append_left (by simp; omega), List.getElem?_append_right (by omega), h1]
    · rw [if_neg h3, List.getElem?_append_right (by simp; omega), List.getElem?_drop]
      congr 1
      simp
      omega
section
variable {Ok : Nat → List (A T) → Res T → Prop} {s s' : St T} {a : α} {P : Program} {e e' : Env} {w w' W0 : World} {M0 : Gh} {tm : Array Value}

theorem fold_put (off : Nat) : ∀ (vs : List Value) (k : Nat) (cells : Array Value), off + k + vs.length ≤ cells.size →
    (vs.zipIdx k).foldl (fun cs (x : Value × Nat) => cs.setIfInBounds (off + x.2) x.1) cells = (putAt cells.toList (off + k) vs).toArray
  | [], k, cells, h => by simp [putAt]
  | v :: vs, k, cells, h => by
    simp only [List.zipIdx_cons, List.foldl_cons]
    rw [fold_put off vs (k + 1) _ (by simp at h ⊢; omega)]
    apply Array.toList_inj.1
    simp only [List.toList_toArray, Array.toList_setIfInBounds]
    apply List.ext_getElem?
    intro j
    simp only [List.length_cons] at h
    rw [putAt_get _ _ _ (by simp; omega), putAt_get _ _ _ (by simp; omega)]
    simp only [List.length_cons]
    by_cases h1 : j < off + k
    · rw [if_pos (by omega), if_pos h1, List.getElem?_set_ne (by omega)]
    · by_cases h2 : j = off + k
      · subst h2
        rw [if_pos (by omega), if_neg (by omega), if_pos (by omega), List.getElem?_set_self (by simp; omega)]
        simp
      · have a1 : ¬ j < off + (k + 1) := by omega
        rw [if_neg a1, if_neg h1]
        by_cases h3 : j < off + k + (vs.length + 1)
        · have a3 : j < off + (k + 1) + vs.length := by omega
          rw [if_pos a3, if_pos h3, show j - (off + k) = j - (off + (k + 1)) + 1 from by omega]
          simp
        · have a3 : ¬ j < off + (k + 1) + vs.length := by omega
          rw [if_neg a3, if_neg h3, List.getElem?_set_ne (by omega)]
theorem RelCs.put {cs xs : List (C T)} {vs us : List Value} {off : Nat} (h : RelCs e s w cs vs) (hx : RelCs e s w xs us) (hl : off + xs.length ≤ cs.length) : RelCs e s w (putAt cs off xs) (putAt vs off us) := by
  have h1 := h.1
  have h2 := hx.1
  refine ⟨by rw [putAt_length _ _ _ hl, putAt_length _ _ _ (by omega), h1], fun j c u hc hu => ?_⟩
  rw [putAt_get _ _ _ hl] at hc
  rw [putAt_get _ _ _ (by omega), h2] at hu
  by_cases g1 : j < off
  · rw [if_pos g1] at hc hu; exact h.2 _ _ _ hc hu
  · rw [if_neg g1] at hc hu
    by_cases g2 : j < off + xs.length
    · rw [if_pos g2] at hc hu; exact hx.2 _ _ _ hc hu
    · rw [if_neg g2] at hc hu; exact h.2 _ _ _ hc hu
/-- Parts of a literal and their values. -/
def RelP (e : Env) (s : St T) (w : World) : List (Nat × V T) → List (Nat × Value) → Prop
  | [], [] => True
  | (i, v) :: ps, (j, u) :: qs => i = j ∧ RelV e s w v u ∧ RelP e s w ps qs
  | _, _ => False
theorem rn_partsM (hR : Rel e s tm w) {ds : List Deferred} : ∀ {ps : List (Nat × Operand)} {k : List (Nat × V T) → M T α}, Rn Ok (partsM ps k) s a s' → ∃ vs, Rn Ok (k vs) s a s' ∧ RelP e s w vs (ps.map fun x => (x.1, Act.eval ⟨tm, ds⟩ x.2))
  | [], k, h => ⟨[], h, trivial⟩
  | (i, x) :: ps, k, h => by
    obtain ⟨v, h1, h⟩ := rn_evV h
    obtain ⟨vs, h, h2⟩ := rn_partsM hR h
    exact ⟨_, h, rfl, hR.op h1, h2⟩
theorem fillM_ok {places : Nat → Option (Nat × Nat)} : ∀ {ps : List (Nat × V T)} {qs : List (Nat × Value)} {cs : List (C T)} {vs : List Value} (hp : RelP e s w ps qs) (hc : RelCs e s w cs vs) {k : List (C T) → M T α}, Rn Ok (fillM places cs ps k) s a s' →
    ∃ cs' vs', Rn Ok (k cs') s a s' ∧ RelCs e s w cs' vs' ∧ Instr.fill places vs.toArray qs = some vs'.toArray
  | [], [], cs, vs, _, hc, k, h => ⟨cs, vs, h, hc, rfl⟩
  | [], _ :: _, _, _, hp, _, _, _ => hp.elim
  | _ :: _, [], _, _, hp, _, _, _ => hp.elim
  | (i, v) :: ps, (j, u) :: qs, cs, vs, hp, hc, k, h => by
    obtain ⟨rfl, hv, hp'⟩ := hp
    unfold fillM at h
    split at h
    · rename_i off size xs hpl hcs
      obtain ⟨h1, h⟩ := rn_cond h
      simp only [Bool.and_eq_true] at h1
      have hx := RelV.cells hv hcs
      have e1 := nbeq h1.1
      have e2 := nble h1.2
      have hxl := hx.1
      have hcl := hc.1
      obtain ⟨cs', vs', h, g1, g2⟩ := fillM_ok hp' (hc.put hx e2) h
      refine ⟨cs', vs', h, g1, ?_⟩
      unfold Instr.fill
      rw [hpl]
      have hus : u.cells.size = size := by rw [← Array.length_toList, hxl, e1]
      simp only [hus]
      rw [if_neg (by simp; omega)]
      rw [← g2]
      congr 1
      have := fold_put off u.cells.toList 0 vs.toArray (by simp; rw [hus]; omega)
      simp only [Nat.add_zero, List.toList_toArray] at this
      rw [← this]
      rw [← Array.foldl_toList, Array.toList_zipIdx]
    · exact (rn_fail h).elim
theorem run_zeroValue (hT : TblOk P T) {t : Nat} (hs : 0 < T.size t) (w : World) : ∃ z, (zeroValue t).run P w = .ok z w ∧ z.cells = (T.zero t).toArray := by
  obtain ⟨i, g1, g2, g3, z, g4, g5, g6⟩ := hT.info t hs
  exact ⟨z, by simp [zeroValue, run_typeInfo w g1, g4], by rw [← g5]⟩
end
end Go.Sm
end

section
set_option linter.unusedVariables false
namespace Go.Sm
variable {T : Tbl} {α : Type}
section
variable {Ok : Nat → List (A T) → Res T → Prop} {s s' : St T} {a : α} {P : Program} {e e' : Env} {w w' W0 : World} {M0 : Gh} {tm : Array Value}

theorem run_listMapM {β γ : Type} (f : β → Sem γ) (g : β → γ) (w : World) : ∀ (l : List β), (∀ x ∈ l, (f x).run P w = .ok (g x) w) → (l.mapM f).run P w = .ok (l.map g) w
  | [], _ => by simp
  | x :: l, h => by
    have ih := run_listMapM f g w l fun y hy => h y (by simp [hy])
    simp only [List.mapM_cons, Sem.run_bind, h x (by simp), Result.andThen_ok, ih, Sem.run_pure, List.map_cons]
theorem run_arrMapM {β γ : Type} (f : β → Sem γ) (g : β → γ) (w : World) (l : Array β) (h : ∀ x ∈ l.toList, (f x).run P w = .ok (g x) w) : (l.mapM f).run P w = .ok (l.map g) w := by
  rw [← Array.toArray_toList (xs := l), List.mapM_toArray]
  simp only [Sem.run_map, run_listMapM f g w _ h, Result.andThen_ok]
  congr 1
  apply Array.toList_inj.1
  simp
theorem buildM_ok (hT : TblOk P T) (hR : Rel e s tm w) {ds : List Deferred} {t : Nat} {ps : Array (Nat × Operand)} {k : V T → M T α} (h : Rn Ok (buildM t ps.toList k) s a s') :
    ∃ v val, Rn Ok (k v) s a s' ∧ RelV e s w v val ∧ (Instr.build t (ps.map fun (i, x) => (i, Act.eval ⟨tm, ds⟩ x))).run P w = .ok val w := by
  unfold buildM at h
  split at h
  · rename_i fs z hty hz
    obtain ⟨fields, g1, hfs, g2⟩ := hT.struct t _ hty
    subst hfs
    have hX := rn_cond h
    clear h
    obtain ⟨h0, h⟩ := hX
    have hX := rn_partsM (ds := ds) hR h
    clear h
    obtain ⟨vs, h, h1⟩ := hX
    have hX := fillM_ok h1 (toCs_rel hz) h
    clear h
    obtain ⟨cs', vs', h, h2, h3⟩ := hX
    obtain ⟨zv, k1, k2⟩ := run_zeroValue hT (nble h0) w
    refine ⟨_, _, h, ⟨vs', rfl, h2⟩, ?_⟩
    have hm := run_arrMapM (P := P) (fun f : Field => do pure (f.offset, ← sizeOf f.type)) (fun f => (f.offset, T.size f.type)) w fields fun f hf => by
      simp [run_size hT (g2 f hf).1]
    unfold Instr.build
    simp only [Sem.run_bind, k1, Result.andThen_ok, run_underlying g1, hm, k2]
    rw [show ((fields.map fun f => (f.offset, T.size f.type))[·]? : Nat → Option (Nat × Nat)) = (fun i => ((fields.toList.map fun f => (f.offset, f.type))[i]?).map fun f => (f.1, T.size f.2)) from by
      funext i
      simp only [Array.getElem?_map, List.getElem?_map, Option.map_map, Array.getElem?_toList]
      rfl]
    rw [show (ps.map fun (x : Nat × Operand) => (x.1, Act.eval ⟨tm, ds⟩ x.2)).toList = ps.toList.map fun x => (x.1, Act.eval ⟨tm, ds⟩ x.2) from by simp]
    rw [h3]
    rfl
  · rename_i n el z hty hz
    obtain ⟨h0, h⟩ := rn_cond h
    simp only [Bool.and_eq_true] at h0
    obtain ⟨vs, h, h1⟩ := rn_partsM (ds := ds) hR h
    obtain ⟨cs', vs', h, h2, h3⟩ := fillM_ok h1 (toCs_rel hz) h
    obtain ⟨zv, k1, k2⟩ := run_zeroValue hT (nble h0.1) w
    refine ⟨_, _, h, ⟨vs', rfl, h2⟩, ?_⟩
    unfold Instr.build
    simp only [Sem.run_bind, k1, Result.andThen_ok, run_underlying (hT.arr _ _ _ hty), run_size hT (nble h0.2), k2]
    rw [show (ps.map fun (x : Nat × Operand) => (x.1, Act.eval ⟨tm, ds⟩ x.2)).toList = ps.toList.map fun x => (x.1, Act.eval ⟨tm, ds⟩ x.2) from by simp]
    rw [h3]
    rfl
  · exact (rn_fail h).elim

/-! ### Literals of slices -/
theorem elemOf_ok (hT : TblOk P T) (hG : Good W0 M0 e s tm w) {S0 : Nat → Prop} (hS : Loose W0 M0 e w S0) {el : Nat} {v : V T} {u : Value} (hv : RelV e s w v u) {k : T.U el → Bool → M T α} (h : Rn Ok (elemOf el v k) s a s') :
    ∃ (x : T.U el) (own : Bool) (s1 : St T) (e1 : Env) (S1 : Nat → Prop) (F : Nat → Nat → Prop), Rn Ok (k x own) s1 a s' ∧ Good W0 M0 e1 s1 tm w ∧ Keeps e s w e1 s1 w ∧ Loose W0 M0 e1 w (fun b => S0 b ∨ S1 b) ∧ (∀ b, S0 b → ¬ S1 b) ∧ e1.K = e.K ∧ s1.regs = s.regs ∧
      Moved T w e.K (T.dget el x) u.cells.toList own F ∧ (∀ j b, F j b → S1 b) ∧ (∀ i j b, F i b → F j b → i = j) ∧ u.cells.size = T.size el := by
  unfold elemOf at h
  split at h
  · rename_i cs hcs
    obtain ⟨hl, h⟩ := rn_cond h
    have hc := RelV.cells hv hcs
    obtain ⟨ds, own, s1, e1, S1, F, h, g1, g2, g3, g4, g5, g6, g7, g8, g9, g10, g11, g12, g13⟩ := moveCs_ok hG hS hc h
    split at h
    · rename_i x hx
      have := hT.get _ _ _ hx
      replace g11 := g11.fix el
      rw [← this] at g11
      exact ⟨x, own, s1, e1, S1, F, h, g1, g2, g3, g4, g5, g6, g11, g12, g13, by rw [← Array.length_toList, hc.1, nbeq hl]⟩
    · exact (rn_fail h).elim
  · exact (rn_fail h).elim
theorem elemsOf_ok (hT : TblOk P T) {el : Nat} : ∀ {ps : List (Nat × V T)} {qs : List (Nat × Value)} {n : Nat} {e : Env} {s : St T} (hG : Good W0 M0 e s tm w) {S0 : Nat → Prop} (hS : Loose W0 M0 e w S0) (hp : RelP e s w ps qs) {k : List (T.U el) → Bool → M T α},
    Rn Ok (elemsOf el ps n k) s a s' →
    ∃ (xs : List (T.U el)) (own : Bool) (s1 : St T) (e1 : Env) (S1 : Nat → Prop) (F : Nat → Nat → Nat → Prop), Rn Ok (k xs own) s1 a s' ∧ Good W0 M0 e1 s1 tm w ∧ Keeps e s w e1 s1 w ∧ Loose W0 M0 e1 w (fun b => S0 b ∨ S1 b) ∧ (∀ b, S0 b → ¬ S1 b) ∧ e1.K = e.K ∧ s1.regs = s.regs ∧
      xs.length = qs.length ∧ (∀ i q, qs[i]? = some q → q.1 = n + i ∧ q.2.cells.size = T.size el) ∧ (∀ (i : Nat) (x : T.U el) (q : Nat × Value), xs[i]? = some x → qs[i]? = some q → Moved T w e.K (T.dget el x) q.2.cells.toList own (F i)) ∧
      (∀ i j b, F i j b → S1 b) ∧ (∀ i j i' j' b, F i j b → F i' j' b → i = i' ∧ j = j')
  | [], [], n, e, s, hG, S0, hS, hp, k, h => ⟨[], true, s, e, fun _ => False, fun _ _ _ => False, h, hG, .refl, ⟨fun b hb => hS.notK b (hb.resolve_right id), fun r b hb => hS.notFp r b (hb.resolve_right id), fun b hb => hS.lt b (hb.resolve_right id), fun b hb => hS.own b (hb.resolve_right id)⟩, fun _ _ h => h, rfl, rfl, rfl, fun i q h => by simp at h, fun i x q h => by simp at h, fun _ _ _ h => h.elim, fun _ _ _ _ _ h => h.elim⟩
  | [], _ :: _, _, _, _, _, _, _, hp, _, _ => hp.elim
  | _ :: _, [], _, _, _, _, _, _, hp, _, _ => hp.elim
  | (i, v) :: ps, (j, u) :: qs, n, e, s, hG, S0, hS, hp, k, h => by
    obtain ⟨rfl, hv, hp'⟩ := hp
    obtain ⟨h0, h⟩ := rn_cond h
    obtain ⟨x, own, s1, e1, S1, F, h, g1, g2, g3, g4, g5, g6, g7, g8, g9, g10⟩ := elemOf_ok hT hG hS hv h
    have hp'' : RelP e1 s1 w ps qs := by
      clear h
      have : ∀ (ps : List (Nat × V T)) (qs : List (Nat × Value)), RelP e s w ps qs → RelP e1 s1 w ps qs := by
        intro ps
        induction ps with
        | nil => intro qs h; cases qs with | nil => trivial | cons _ _ => exact h.elim
        | cons p ps ih => intro qs h; cases qs with | nil => exact h.elim | cons q qs => exact ⟨h.1, g2.v h.2.1, ih qs h.2.2⟩
      exact this _ _ hp'
    obtain ⟨xs, owns, s2, e2, S2, F2, h, r1, r2, r3, r4, r5, r6, r7, r8, r9, r10, r11⟩ := elemsOf_ok hT g1 g3 hp'' h
    refine ⟨x :: xs, own && owns, s2, e2, fun b => S1 b ∨ S2 b, fun i j b => match i with | 0 => F j b | i + 1 => F2 i j b, h, r1, g2.trans r2, ⟨fun b hb => r3.notK b (by rcases hb with h | h | h; exact .inl (.inl h); exact .inl (.inr h); exact .inr h), fun r b hb => r3.notFp r b (by rcases hb with h | h | h; exact .inl (.inl h); exact .inl (.inr h); exact .inr h), fun b hb => r3.lt b (by rcases hb with h | h | h; exact .inl (.inl h); exact .inl (.inr h); exact .inr h), fun b hb => r3.own b (by rcases hb with h | h | h; exact .inl (.inl h); exact .inl (.inr h); exact .inr h)⟩,
      fun b hb hb' => hb'.elim (g4 b hb) (r4 b (.inl hb)), r5.trans g5, r6.trans g6, by simp [r7], fun i q hq => ?_, fun i y q hy hq => ?_, fun i j b hb => ?_, fun i j i' j' b hb hb' => ?_⟩
    · cases i with
      | zero => simp at hq; subst hq; exact ⟨by have := nbeq h0; simpa using this, g10⟩
      | succ i =>
        obtain ⟨k1, k2⟩ := r8 i q (by simpa using hq)
        exact ⟨by omega, k2⟩
    · cases i with
      | zero =>
        simp at hy hq
        subst hy; subst hq
        refine ⟨g7.1, fun j d v hd hv => ?_⟩
        rcases g7.2 j d v hd hv with h | ⟨h, h'⟩
        · exact .inl h
        · exact .inr ⟨by simp [h], h'⟩
      | succ i =>
        have := r9 i y q (by simpa using hy) (by simpa using hq)
        refine ⟨this.1, fun j d v hd hv => ?_⟩
        rcases this.2 j d v hd hv with h | ⟨h, h'⟩
        · exact .inl h
        · exact .inr ⟨by simp [h], by rw [g5] at h'; exact h'⟩
    · cases i with
      | zero => exact .inl (g8 j b hb)
      | succ i => exact .inr (r10 i j b hb)
    · cases i with
      | zero =>
        cases i' with
        | zero => exact ⟨rfl, g9 _ _ _ hb hb'⟩
        | succ i' => exact absurd (r10 i' j' b hb') (r4 b (.inr (g8 j b hb)))
      | succ i =>
        cases i' with
        | zero => exact absurd (r10 i j b hb) (r4 b (.inr (g8 j' b hb')))
        | succ i' => obtain ⟨k1, k2⟩ := r11 i j i' j' b hb hb'; exact ⟨by omega, k2⟩
/-- Filling in order. -/
theorem fill_seq (size : Nat) : ∀ (qs : List (Nat × Value)) (n : Nat) (cells : Array Value), (∀ i q, qs[i]? = some q → q.1 = n + i ∧ q.2.cells.size = size) → (n + qs.length) * size ≤ cells.size →
    ∃ cs, Instr.fill (fun i => some (i * size, size)) cells qs = some cs ∧ cs.size = cells.size ∧ (∀ k, k < n * size → cs[k]? = cells[k]?) ∧ (∀ i j q, qs[i]? = some q → j < size → cs[(n + i) * size + j]? = q.2.cells[j]?)
  | [], n, cells, _, _ => ⟨cells, rfl, rfl, fun _ _ => rfl, fun i j q h => by simp at h⟩
  | (i, u) :: qs, n, cells, h, hl => by
    obtain ⟨h1, h2⟩ := h 0 (i, u) rfl
    simp only [Nat.add_zero] at h1
    subst h1
    simp only [List.length_cons] at hl
    have hfit : i * size + size ≤ cells.size := by
      have : (i + (qs.length + 1)) * size = i * size + size + qs.length * size := by rw [show i + (qs.length + 1) = i + 1 + qs.length from by omega, Nat.add_mul, Nat.add_mul]; simp
      omega
    have hf := fold_put (i * size) u.cells.toList 0 cells (by simp only at h2; simp; omega)
    simp only [Nat.add_zero] at hf
    have hpl : i * size + u.cells.toList.length ≤ cells.toList.length := by simp only at h2; simp; omega
    obtain ⟨cs, g1, g2, g3, g4⟩ := fill_seq size qs (i + 1) ((putAt cells.toList (i * size) u.cells.toList).toArray) (fun j q hq => by
      obtain ⟨k1, k2⟩ := h (j + 1) q (by simpa using hq)
      exact ⟨by omega, k2⟩) (by
      simp only [List.size_toArray]
      rw [putAt_length _ _ _ hpl]
      simp only [Array.length_toList]
      rw [show i + 1 + qs.length = i + (qs.length + 1) from by omega]
      exact hl)
    simp only [List.size_toArray] at g2
    rw [putAt_length _ _ _ hpl] at g2
    simp only at h2
    refine ⟨cs, ?_, by simpa using g2, fun k hk => ?_, fun j m q hq hm => ?_⟩
    · unfold Instr.fill
      simp only [h2]
      rw [if_neg (by simp; omega), ← g1]
      congr 1
      rw [← hf, ← Array.foldl_toList, Array.toList_zipIdx]
    · rw [g3 k (by rw [Nat.add_mul]; omega)]
      simp only [List.getElem?_toArray]
      rw [putAt_get _ _ _ hpl, if_pos hk]
      simp
    · cases j with
      | zero =>
        simp at hq
        subst hq
        simp only [Nat.add_zero]
        rw [g3 _ (by rw [Nat.add_mul]; omega)]
        simp only [List.getElem?_toArray]
        rw [putAt_get _ _ _ hpl, if_neg (by omega), if_pos (by simp; omega)]
        rw [show i * size + m - i * size = m from by omega]
        simp
      | succ j =>
        have := g4 j m q (by simpa using hq) hm
        rw [show i + (j + 1) = i + 1 + j from by omega]
        exact this
end
end Go.Sm
end

section
set_option linter.unusedVariables false
namespace Go.Sm
variable {T : Tbl} {α : Type}
section
variable {Ok : Nat → List (A T) → Res T → Prop} {s s' : St T} {a : α} {P : Program} {e e' : Env} {w w' W0 : World} {M0 : Gh} {tm : Array Value}

/-- Loose blocks become blocks that never change. -/
def Env.more (e : Env) (S : Nat → Prop) : Env := { e with K := fun b => e.K b ∨ S b }
theorem Good.freeze (hG : Good W0 M0 e s tm w) {S : Nat → Prop} (hS : Loose W0 M0 e w S) : Good W0 M0 (e.more S) s tm w ∧ Keeps e s w (e.more S) s w := by
  obtain ⟨hR, hF, hP⟩ := hG
  have hk : Keeps e s w (e.more S) s w := ⟨Oth.refl _, fun _ h => .inl h, fun _ _ => rfl, fun q rng v h => h, fun q row col v h => h, fun r v h => h⟩
  refine ⟨⟨⟨fun t => hk.v (hR.regs t), fun r o ho => ?_, hR.dis, fun r b h1 h2 => ?_, fun b hb => ?_⟩, ⟨hF.size, hF.os, hF.tape, hF.output, hF.block, hF.own, fun b hb hlt => hb.elim (fun h => hF.know b h hlt) (fun h => .inr (hS.own b h hlt))⟩, hP.same rfl rfl⟩, hk⟩
  · exact SameO.relO (s := s) (s' := s) (w := w) (e := e) (e' := e.more S) ⟨rfl, rfl, rfl, fun _ => Iff.rfl, fun _ _ => rfl⟩ hk (hR.objs r o ho)
  · rcases h2 with h2 | h2
    · exact hR.disK _ _ h1 h2
    · exact hS.notFp _ _ h2 h1
  · rcases hb with (hb | hb) | hb
    · exact hR.lt b (.inl hb)
    · exact hS.lt b hb
    · exact hR.lt b (.inr hb)

/-- A new object out of loose blocks and new ones. -/
theorem Good.install (hG : Good W0 M0 e s tm w) {S : Nat → Prop} (hS : Loose W0 M0 e w S) {r : Nat} (hr : s.objs r = none)
    (hsz : w.heap.size ≤ w'.heap.size) (hw : ∀ b, b < w.heap.size → ¬ S b → w'.heap[b]? = w.heap[b]?) (hos : w'.os = w.os) (htape : w'.tape = w.tape) (hout : Oth w w')
    (x : Root T) (ad : Option Addr) (c : Nat) (fp : Nat → Prop) (hfp : ∀ b, fp b → (S b ∨ w.heap.size ≤ b) ∧ b < w'.heap.size) (hp : PinX M0 r x ad c := by exact ⟨fun _ _ _ _ _ h => (by cases h), fun _ _ h => (by cases h)⟩) :
    Keeps e s w (e.put r ad c fp) (s.setO r (some x)) w' ∧ (RelO (e.put r ad c fp) (s.setO r (some x)) w' r x → Good W0 M0 (e.put r ad c fp) (s.setO r (some x)) tm w') := by
  obtain ⟨hR, hF, hP⟩ := hG
  have hno : ∀ q : Ref, q.r = r → ¬ Live s q := fun q hq ⟨o, ho, _⟩ => by rw [hq, hr] at ho; cases ho
  obtain ⟨h1, h2, h3⟩ := Rel.upd (w' := w') (x := x) hR hF hS (Env.put_upd e r ad c fp) (fun _ h => h) (fun _ h => .inl h) hsz (fun b hb _ hs => hw b hb hs) hos htape hout
    (fun b hb => by
      rw [Env.put_fp] at hb
      obtain ⟨k1, k2⟩ := hfp b hb
      exact ⟨.inr k1, k2⟩)
    (fun q rng v hq h => absurd h.1 (hno q hq)) (fun q row col v hq h => absurd h.1 (hno q hq)) (fun v h => by obtain ⟨⟨o, ho⟩, _⟩ := h; rw [hr] at ho; cases ho)
  exact ⟨h1, fun hx => ⟨h3 hx, h2, hP.upd (Env.put_upd ..).adr (Env.put_upd ..).cap (by rw [Env.put_adr, Env.put_cap]; exact hp)⟩⟩

theorem Moved.own {K : Nat → Prop} {ds : List (D T.U)} {vs : List Value} {F : Nat → Nat → Prop} (h : Moved T w K ds vs true F) {j : Nat} {d : D T.U} {v : Value} (hd : ds[j]? = some d) (hv : vs[j]? = some v) : OwnD T w d v (F j) := by
  rcases h.2 j d v hd hv with h | ⟨h, _⟩
  · exact h
  · cases h
theorem Moved.rep {K : Nat → Prop} {S : Nat → Prop} {ds : List (D T.U)} {vs : List Value} {own : Bool} {F : Nat → Nat → Prop} (h : Moved T w K ds vs own F) {j : Nat} {d : D T.U} {v : Value} (hd : ds[j]? = some d) (hv : vs[j]? = some v) (hF : ∀ b, F j b → S b) :
    RepD T w (fun b => K b ∨ S b) d v := by
  rcases h.2 j d v hd hv with h | ⟨_, h⟩
  · exact h.rep.mono (fun b hb => .inr (hF b hb)) fun _ _ => rfl
  · exact h.mono (fun b hb => .inl hb) fun _ _ => rfl

theorem buildSliceM_ok (hT : TblOk P T) (hG : Good W0 M0 e s tm w) {ds : List Deferred} {dd t len : Nat} {ps : Array (Nat × Operand)} {k : C T → M T α} (h : Rn Ok (buildSliceM dd t len ps.toList k) s a s') :
    ∃ c s1 e1 w1 val, Rn Ok (k c) s1 a s' ∧ Good W0 M0 e1 s1 tm w1 ∧ Keeps e s w e1 s1 w1 ∧ s1.regs = s.regs ∧ RelC e1 s1 w1 c val ∧ (Instr.buildSlice t len (ps.map fun (i, x) => (i, Act.eval ⟨tm, ds⟩ x))).run P w = .ok val w1 := by
  unfold buildSliceM at h
  split at h
  · rename_i el hty
    have hX := rn_cond h
    clear h
    obtain ⟨h0, h⟩ := hX
    simp only [Bool.and_eq_true] at h0
    obtain ⟨⟨h01, h02⟩, h03⟩ := h0
    have h01 := nbeq h01
    have h02 := nble h02
    have h03 := nble h03
    have hX := rn_partsM (ds := ds) hG.rel h
    clear h
    obtain ⟨vs, h, h1⟩ := hX
    have hX := elemsOf_ok hT hG Loose.none h1 h
    clear h
    obtain ⟨xs, own, s1, e1, S1, F, h, g1, g2, g3, g4, g5, g6, g7, g8, g9, g10, g11⟩ := hX
    have hX := rn_newO h
    clear h
    obtain ⟨⟨h2, h2b⟩, h⟩ := hX
    obtain ⟨i, k1, k2, k3, z, k4, k5, k6⟩ := hT.info el h03
    have hql : (ps.toList.map fun x => (x.1, Act.eval ⟨tm, ds⟩ x.2)).length = len := by simp only [List.length_map]; exact h01
    have hqs : (ps.map fun (x : Nat × Operand) => (x.1, Act.eval ⟨tm, ds⟩ x.2)).toList = ps.toList.map fun x => (x.1, Act.eval ⟨tm, ds⟩ x.2) := by simp
    generalize (ps.toList.map fun x => (x.1, Act.eval ⟨tm, ds⟩ x.2)) = qs at *
    have hxl : xs.length = len := g7.trans hql
    have hzs : z.cells.size = T.size el := by rw [← Array.length_toList, k5, (hT.zero el h03).1]
    obtain ⟨cs, f1, f2, f3, f4⟩ := fill_seq (T.size el) qs 0 ((Array.range (len * T.size el)).map (fun j => z.cells[j % z.cells.size]!)) g8 (by simp only [Array.size_map, Array.size_range]; exact Nat.mul_le_mul_right _ (by omega))
    have hrun : (Instr.buildSlice t len (ps.map fun (i, x) => (i, Act.eval ⟨tm, ds⟩ x))).run P w = .ok (.slice (some ⟨w.heap.size, 0, none⟩) len len) (w.alloc (.cells cs el)) := by
      by_cases hl0 : len = 0
      · subst hl0
        have hp : qs = [] := List.length_eq_zero_iff.1 hql
        subst hp
        simp only [Instr.fill, Option.some.injEq] at f1
        have f1' : cs = #[] := by rw [← f1]; simp
        subst f1'
        unfold Instr.buildSlice
        simp only [Sem.run_bind, run_underlying (hT.slice _ _ hty), Result.andThen_ok, run_size hT h03, hqs]
        simp [Instr.fill, newRow]
        rw [Array.range_zero']; simp
      · refine run_buildSlice w t el len _ cs i z (hT.slice _ _ hty) k1 k4 (by rw [k2]; omega) (by rw [k2]; exact Nat.mul_ne_zero hl0 (by omega)) ?_
        rw [k2, hqs]
        exact f1
    have hcs : cs.size = len * T.size el := by rw [f2]; simp
    have hw := NewW.push w (.cells cs el)
    have hcell : ∀ i j d, i < xs.length → (row T el xs i)[j]? = some d → cs[i * T.size el + j]? = some ((qs.getD i (0, Value.tuple #[])).2.cells.toList.getD j (Value.tuple #[])) := by
      intro i j d hi hd
      have hj : j < T.size el := by have := (List.getElem?_eq_some_iff.1 hd).1; unfold Go.Sm.row at this; rwa [hT.len] at this
      have hqi : i < qs.length := by omega
      have e1 := List.getElem?_eq_getElem hqi
      have := f4 i j _ e1 hj
      rw [Nat.zero_add] at this
      have e4 : qs.getD i (0, Value.tuple #[]) = qs[i] := by rw [List.getD_eq_getElem?_getD, e1]; rfl
      rw [this, e4, List.getD_eq_getElem?_getD, Array.getElem?_toList]
      obtain ⟨_, hz⟩ := g8 i _ e1
      rw [Array.getElem?_eq_getElem (by omega)]
      rfl
    have hmv : ∀ i j d, i < xs.length → (row T el xs i)[j]? = some d → ∃ v, Moved T w e.K (row T el xs i) v own (F i) ∧ v[j]? = some ((qs.getD i (0, Value.tuple #[])).2.cells.toList.getD j (Value.tuple #[])) := by
      intro i j d hi hd
      have hqi : i < qs.length := by omega
      have e1 := List.getElem?_eq_getElem hqi
      have e2 := List.getElem?_eq_getElem hi
      have hm := g9 i _ _ e2 e1
      have e3 : row T el xs i = T.dget el xs[i] := by unfold Go.Sm.row; rw [List.getD_eq_getElem?_getD, e2]; rfl
      refine ⟨_, by rw [e3]; exact hm, ?_⟩
      have e4 : qs.getD i (0, Value.tuple #[]) = qs[i] := by rw [List.getD_eq_getElem?_getD, e1]; rfl
      rw [e4, List.getD_eq_getElem?_getD]
      have hl := hm.1
      rw [← e3] at hl
      have hj := (List.getElem?_eq_some_iff.1 hd).1
      rw [List.getElem?_eq_getElem (by omega)]
      rfl
    cases own with
    | true =>
      obtain ⟨e2, r1, r2, r3, r4⟩ := Good.newArr (el := (el, false)) (dep := .all) hT g1 (S := S1) ⟨fun b hb => g3.notK b (.inr hb), fun r b hb => g3.notFp r b (.inr hb), fun b hb => g3.lt b (.inr hb), fun b hb => g3.own b (.inr hb)⟩ h2 hw (c := len)
        (F := F) (by omega) (by omega) hcell (fun i j d hi hd => by
          obtain ⟨v, hm, hv⟩ := hmv i j d hi hd
          exact hm.own hd hv) g10 g11
      exact ⟨_, _, e2, _, _, h, r1, g2.trans r2, g6, r3, by rw [hxl]; exact hrun⟩
    | false =>
      have hS1 : Loose W0 M0 e1 w S1 := ⟨fun b hb => g3.notK b (.inr hb), fun r b hb => g3.notFp r b (.inr hb), fun b hb => g3.lt b (.inr hb), fun b hb => g3.own b (.inr hb)⟩
      obtain ⟨q1, q2⟩ := g1.freeze hS1
      obtain ⟨e2, r1, r2, r3, r4⟩ := Good.newArr (el := (el, false)) (dep := .upto 0) hT q1 (S := fun _ => False) Loose.none h2 hw (c := len)
        (F := fun _ _ _ => False) (by omega) (by omega) hcell (fun i j d hi hd => by
          obtain ⟨v, hm, hv⟩ := hmv i j d hi hd
          refine .inr ⟨Nat.zero_le _, ?_⟩
          have := hm.rep hd hv (fun b hb => g10 i j b hb)
          rw [← g5] at this
          exact this) (fun _ _ _ h => h.elim) (fun _ _ _ _ _ h => h.elim)
      exact ⟨_, _, e2, _, _, h, r1, (g2.trans q2).trans r2, g6, r3, by rw [hxl]; exact hrun⟩
  · exact (rn_fail h).elim
theorem makeSliceM_ok (hT : TblOk P T) (hG : Good W0 M0 e s tm w) {dd t : Nat} {n c : Int} {kn kc : IntKind} {k : C T → M T α} (h : Rn Ok (makeSliceM dd t n c k) s a s') :
    ∃ c' s1 e1 w1 val, Rn Ok (k c') s1 a s' ∧ Good W0 M0 e1 s1 tm w1 ∧ Keeps e s w e1 s1 w1 ∧ s1.regs = s.regs ∧ RelC e1 s1 w1 c' val ∧ (Instr.makeSlice t (.int kn n) (.int kc c)).run P w = .ok val w1 := by
  unfold makeSliceM at h
  split at h
  · rename_i el hty
    have hX := rn_cond h
    clear h
    obtain ⟨h0, h⟩ := hX
    rw [Bool.and_eq_true] at h0
    have hnf := h0.2
    have h0 := nble h0.1
    have hX := rn_must h
    clear h
    obtain ⟨h1, h⟩ := hX
    have hX := rn_must h
    clear h
    obtain ⟨h2, h⟩ := hX
    have hX := rn_must h
    clear h
    obtain ⟨⟨h3, h4⟩, h⟩ := hX
    have hX := rn_newO h
    clear h
    obtain ⟨⟨h5, h5b⟩, h⟩ := hX
    obtain ⟨i, k1, k2, k3, z, k4, k5, k6⟩ := hT.info el h0
    obtain ⟨z1, z2⟩ := hT.zero el h0
    have hzs : z.cells.size = T.size el := by rw [← Array.length_toList, k5, z1]
    have hrun := run_make (P := P) w t el i z (hT.slice _ _ hty) k1 k4 kn kc n c h1 h2 (by rw [k3]; rw [Int.mul_comm]; exact h4) h3
    have hw := NewW.push w (.cells (madeCells z.cells (c.toNat * i.size)) el)
    obtain ⟨e2, r1, r2, r3, r4⟩ := Good.newArr (el := (el, false)) (dep := .all) (t := el) (l := List.replicate n.toNat (T.dflt el)) hT hG (S := fun _ => False) Loose.none h5 hw (c := c.toNat) (vals := fun _ j => (T.zero el).getD j (.tuple #[])) (F := fun _ _ _ => False)
      (by simp; omega) (by rw [k2]; simp [madeCells]) (fun i' j d hi hd => by
        simp at hi
        have hj : j < T.size el := by have := (List.getElem?_eq_some_iff.1 hd).1; unfold Go.Sm.row at this; rwa [hT.len] at this
        have hlt : i' * T.size el + j < c.toNat * T.size el := by
          have : (i' + 1) * T.size el ≤ c.toNat * T.size el := Nat.mul_le_mul_right _ (by omega)
          rw [Nat.add_mul] at this
          omega
        rw [k2]
        simp only [madeCells, Array.getElem?_map, Array.getElem?_range, hlt, if_true, Option.map_some]
        rw [hzs, Nat.add_comm, Nat.add_mul_mod_self_right, Nat.mod_eq_of_lt hj]
        rw [List.getD_eq_getElem?_getD, ← k5, Array.getElem?_toList, getElem!_def]
        rw [Array.getElem?_eq_getElem (by omega)]
        rfl) (fun i' j d hi hd => by
        simp at hi
        have hj : j < T.size el := by have := (List.getElem?_eq_some_iff.1 hd).1; unfold Go.Sm.row at this; rwa [hT.len] at this
        have hrow : row T el (List.replicate n.toNat (T.dflt el)) i' = T.dget el (T.dflt el) := by
          unfold Go.Sm.row
          rw [List.getD_eq_getElem?_getD, List.getElem?_replicate]
          split <;> rfl
        rw [hrow] at hd
        have hzj : (T.zero el)[j]? = some ((T.zero el).getD j (.tuple #[])) := by
          rw [List.getD_eq_getElem?_getD, List.getElem?_eq_getElem (by omega)]; rfl
        rcases z2 j d _ hd hzj with hp | ⟨t', rfl, hp⟩ | ⟨hp, _⟩
        rotate_left 2
        · rw [List.any_eq_true.2 ⟨d, List.mem_of_getElem? hd, hp⟩] at hnf; cases hnf
        · cases d <;> simp only [plainD] at hp
          · rw [hp]; exact .bool _ _
          · rw [hp]; exact .int _ _ _
          · rw [hp]; exact .str _ _
        · rw [hp]
          exact .arr t' [] none 0 (fun _ _ => .tuple #[]) (fun _ _ _ => False) _ (Nat.le_refl _) (fun h => absurd rfl h) (fun h => absurd h (Nat.lt_irrefl _)) (fun _ _ _ h => absurd h (Nat.not_lt_zero _)) (fun _ _ _ h => absurd h (Nat.not_lt_zero _)) (fun _ _ _ h => h.elim) (fun _ _ _ _ _ h => h.elim))
      (fun _ _ _ h => h.elim) (fun _ _ _ _ _ h => h.elim)
    refine ⟨_, _, e2, _, _, h, r1, r2, rfl, r3, ?_⟩
    rw [List.length_replicate]
    exact hrun
  · exact (rn_fail h).elim
end
end Go.Sm
end

section
set_option linter.unusedVariables false
namespace Go.Sm
variable {T : Tbl} {α : Type}
section
variable {Ok : Nat → List (A T) → Res T → Prop} {s s' : St T} {a : α} {P : Program} {e e' : Env} {w w' W0 : World} {M0 : Gh} {tm : Array Value}
/-- What an array's rows lead to becomes a thing that never changes; the rows stay the object's. -/
theorem Good.share (hG : Good W0 M0 e s tm w) {r t : Nat} {l : List (T.U t)} {ver : Nat} {nver : NV} (ho : s.objs r = some (.arr t l ver nver .all false)) :
    ∃ e', Good W0 M0 e' (s.setO r (some (.arr t l ver nver.kill (.upto 0) false))) tm w ∧ Keeps e s w e' (s.setO r (some (.arr t l ver nver.kill (.upto 0) false))) w ∧ e'.adr = e.adr ∧ e'.cap = e.cap := by
  obtain ⟨hR, hF, hP⟩ := hG
  obtain ⟨vals, F, hA⟩ := hR.objs _ _ ho
  let N : Nat → Prop := fun b => ∃ i j, F i j b
  let e' : Env := { e with K := fun b => e.K b ∨ N b, fp := fun r' b => e.fp r' b ∧ (r' = r → ¬ N b) }
  have hNfp : ∀ b, N b → e.fp r b := fun b ⟨i, j, h⟩ => (hA.hF i j b h).1
  have hlive : ∀ q : Ref, q.r = r → Live s q → Live (s.setO r (some (.arr t l ver nver.kill (.upto 0) false))) q := fun q hq hl => by
    subst hq
    obtain ⟨o', h1, h2⟩ := hl
    rw [ho] at h1
    cases h1
    refine ⟨_, setO_objs _ _ _, fun t2 l2 ver2 nver2 dep2 pin2 he => ?_⟩
    cases he
    have h2 := h2 _ _ _ _ _ _ rfl
    revert h2; cases q.p <;> (simp only [NV.kill]; omega)
  have hinf : ∀ q : Ref, q.r = r → Live s q → ∀ t2 l2, refInfo (s.setO r (some (.arr t l ver nver.kill (.upto 0) false))) q = some ⟨t2, l2⟩ → q.p = none ∧ refInfo s q = some ⟨t2, l2⟩ := fun q hq hl t2 l2 hi => by
    subst hq
    obtain ⟨o', h1, h2⟩ := hl
    rw [ho] at h1
    cases h1
    have h2 := h2 _ _ _ _ _ _ rfl
    cases hp : q.p with
    | none =>
      refine ⟨rfl, ?_⟩
      unfold refInfo at hi ⊢
      rw [setO_objs] at hi
      rw [ho]
      simp only [hp] at hi ⊢
      exact hi
    | some ic =>
      unfold refInfo at hi
      rw [setO_objs] at hi
      simp only [hp] at hi h2
      rw [if_neg (NV.has_kill (by omega))] at hi
      cases hi
  obtain ⟨h1, h2, h3⟩ := Rel.upd (e' := e') (w' := w) (x := .arr t l ver nver.kill (.upto 0) false) hR hF Loose.none (r := r) ⟨fun _ _ => rfl, fun _ _ => rfl, fun r' b h => ⟨fun x => x.1, fun x => ⟨x, fun h' => absurd h' h⟩⟩⟩
    (fun _ h => .inl h) (fun b h => h.imp id fun h => ⟨.inl (hNfp b h), fun x => x.2 rfl h⟩) (Nat.le_refl _) (fun _ _ _ _ => rfl) rfl rfl (Oth.refl _)
    (fun b h => ⟨.inl h.1, hR.lt b (.inr ⟨_, h.1⟩)⟩)
    (fun q rng v hq h => ⟨hlive q hq h.1, h.2.1, fun t l hi => by
      obtain ⟨hp, hi⟩ := hinf q hq h.1 t l hi
      obtain ⟨A, c, k1, k2⟩ := h.2.2 t l hi
      refine ⟨A, c, ?_, k2⟩
      unfold RefAt at *
      simp only [hp] at *
      exact k1⟩)
    (fun q row col v hq h => ⟨hlive q hq h.1, h.2.1, (fun cs hc hz => by rw [hq, setO_objs] at hc; cases hc), fun t l hi => by
      obtain ⟨hp, hi⟩ := hinf q hq h.1 t l hi
      obtain ⟨A, c, c2, k1, k2⟩ := h.2.2.2 t l hi
      refine ⟨A, c, c2, ?_, k2⟩
      unfold RefAt at *
      simp only [hp] at *
      exact k1⟩)
    (fun v h => ⟨⟨_, setO_objs _ _ _⟩, h.2.1, fun kt et l hm => by rw [setO_objs] at hm; cases hm⟩)
  refine ⟨e', ⟨h3 ⟨vals, fun _ _ _ => False, hA.hc, hA.hA, fun hc => ?_, hA.hcell, fun i j d hi hd => ?_, fun _ _ _ h => h.elim, fun _ _ _ _ _ h => h.elim⟩, h2, hP.upd (fun _ _ => rfl) (fun _ _ => rfl) ⟨fun _ _ _ _ _ h => (by cases h), fun _ _ h => (by cases h)⟩⟩, h1, rfl, rfl⟩
  · obtain ⟨b, off, cs, el, e1, e2, e3, e4⟩ := hA.hblk hc
    exact ⟨b, off, cs, el, e1, ⟨e2, fun _ ⟨i, j, h⟩ => (hA.hF i j b h).2 b off e1 rfl⟩, e3, e4⟩
  · exact .inr ⟨Nat.zero_le _, (OwnD.rep (show OwnD T w d (vals i j) (F i j) from hA.hsub i j d hi hd)).mono (fun b hb => .inr ⟨i, j, hb⟩) fun _ _ => rfl⟩
/-- A part of an array whose rows lead to what never changes. -/
theorem ArrOk.cutU {K : Nat → Prop} {t : Nat} {l l' : List (T.U t)} {A : Option Addr} {c : Nat} {S : Nat → Prop} {vals : Nat → Nat → Value} {F : Nat → Nat → Nat → Prop} {rng : Option (Nat × Nat)} {v : Value} (hA : ArrOk T w K t l (.upto 0) A c S vals F) (hc : IsCut rng l l') (hs : SlOf A c l.length (T.size t) rng v) :
    ∃ A' c' vals', v = .slice A' l'.length c' ∧ ArrOk T w K t l' (.upto 0) A' c' S vals' (fun _ _ _ => False) := by
  have hrep : ∀ i j d, i < l.length → (Go.Sm.row T t l i)[j]? = some d → RepD T w K d (vals i j) := fun i j d hi hd => by
    rcases hA.hsub i j d hi hd with h | h
    · exact absurd h.1 (Nat.not_lt_zero _)
    · exact h.2
  cases rng with
  | none =>
    simp only [IsCut, SlOf] at hc hs
    subst hc
    subst hs
    exact ⟨A, c, vals, rfl, hA.hc, hA.hA, hA.hblk, hA.hcell, fun i j d hi hd => .inr ⟨Nat.zero_le _, hrep i j d hi hd⟩, fun _ _ _ h => h.elim, fun _ _ _ _ _ h => h.elim⟩
  | some x =>
    obtain ⟨off, len⟩ := x
    obtain ⟨h1, rfl⟩ := hc
    obtain ⟨h2, A', rfl, h3⟩ := hs
    have hl : ((l.drop off).take len).length = len := by simp; omega
    have hrow : ∀ i, i < len → Go.Sm.row T t ((l.drop off).take len) i = Go.Sm.row T t l (off + i) := by
      intro i hi
      unfold Go.Sm.row
      congr 1
      simp [List.getD_eq_getElem?_getD, List.getElem?_take, hi, List.getElem?_drop]
    refine ⟨A', c - off, fun i j => vals (off + i) j, by rw [hl], by omega, fun hne => ?_, fun hp => ?_, fun i j d hi hd => ?_, fun i j d hi hd => ?_, fun _ _ _ h => h.elim, fun _ _ _ _ _ h => h.elim⟩
    · have h0 : 0 < len := by
        rcases Nat.eq_zero_or_pos len with h0 | h0
        · subst h0; simp at hne
        · exact h0
      have hc := hA.hc
      obtain ⟨b, o, e1⟩ := hA.hA (fun h => by subst h; simp at h1; omega)
      exact ⟨b, o + off * T.size t, by rw [h3 (by omega), e1]; simp [addr_add]⟩
    · obtain ⟨b, o, cs, el, e1, e2, e3, e4⟩ := hA.hblk (by omega)
      refine ⟨b, o + off * T.size t, cs, el, by rw [h3 (by omega), e1]; simp [addr_add], e2, e3, ?_⟩
      rw [Nat.add_assoc, ← Nat.add_mul]
      rw [show off + (c - off) = c from by omega]
      exact e4
    · rw [hl] at hi
      rw [hrow i hi] at hd
      have hc := hA.hc
      obtain ⟨b, o, e1, e3⟩ := hA.hcell (off + i) j d (by omega) hd
      refine ⟨b, o + off * T.size t, by rw [h3 (by omega), e1]; simp [addr_add], ?_⟩
      rw [show o + off * T.size t + i * T.size t + j = o + (off + i) * T.size t + j from by rw [Nat.add_mul]; omega]
      exact e3
    · rw [hl] at hi
      rw [hrow i hi] at hd
      exact .inr ⟨Nat.zero_le _, hrep (off + i) j d (by omega) hd⟩
end
end Go.Sm
end

section
set_option linter.unusedVariables false
namespace Go.Sm
variable {T : Tbl} {α : Type}
/-- The cells of n rows, told by row and place. -/
def newsOf (n size : Nat) (vals : Nat → Nat → Value) : List Value := (List.range (n * size)).map fun k => vals (k / size) (k % size)
theorem newsOf_length (n size : Nat) (vals : Nat → Nat → Value) : (newsOf n size vals).length = n * size := by simp [newsOf]
theorem row_lt {n size i j : Nat} (hi : i < n) (hj : j < size) : i * size + j < n * size := by
  have : (i + 1) * size ≤ n * size := Nat.mul_le_mul_right _ hi
  rw [Nat.add_mul] at this
  omega
theorem newsOf_get {n size : Nat} {vals : Nat → Nat → Value} {i j : Nat} (hi : i < n) (hj : j < size) : (newsOf n size vals)[i * size + j]? = some (vals i j) := by
  have h := row_lt hi hj
  unfold newsOf
  rw [List.getElem?_map, List.getElem?_range h]
  simp only [Option.map_some]
  rw [Nat.add_comm, Nat.add_mul_div_right _ _ (by omega), Nat.add_mul_mod_self_right, Nat.div_eq_of_lt hj, Nat.mod_eq_of_lt hj, Nat.zero_add]
theorem newsOf_inv {n size : Nat} {vals : Nat → Nat → Value} {k : Nat} {v : Value} (h : (newsOf n size vals)[k]? = some v) : ∃ i j, i < n ∧ j < size ∧ k = i * size + j ∧ v = vals i j := by
  obtain ⟨hk, hv⟩ := List.getElem?_eq_some_iff.1 h
  rw [newsOf_length] at hk
  have hs : 0 < size := by
    rcases Nat.eq_zero_or_pos size with h | h
    · subst h; simp at hk
    · exact h
  refine ⟨k / size, k % size, (Nat.div_lt_iff_lt_mul hs).2 hk, Nat.mod_lt _ hs, by rw [Nat.mul_comm]; exact (Nat.div_add_mod k size).symm, ?_⟩
  rw [← hv]
  simp [newsOf]
section
variable {Ok : Nat → List (A T) → Res T → Prop} {s s' : St T} {a : α} {P : Program} {e e' : Env} {w w' W0 : World} {M0 : Gh} {tm : Array Value}

theorem flat_row (hT : TblOk P T) {t : Nat} (hf : flat T t = true) {x : T.U t} {j : Nat} {d : D T.U} (hd : (T.dget t x)[j]? = some d) : d.isArr = false := by
  have hp := hT.pat t x
  have h1 : ((T.dget t x).map D.isArr)[j]? = some d.isArr := by rw [List.getElem?_map, hd]; rfl
  rw [hp, List.getElem?_map] at h1
  obtain ⟨d', hd', he⟩ := Option.map_eq_some_iff.1 h1
  rw [← he]
  have h2 := nbeq hf
  unfold arrCount at h2
  have h3 := List.length_eq_zero_iff.1 h2
  rw [List.filter_eq_nil_iff] at h3
  have := h3 d' (List.mem_of_getElem? hd')
  simpa using this
theorem flat_own {K S : Nat → Prop} {w' : World} {d : D T.U} {v : Value} (h : RepD T w K d v) (hf : d.isArr = false) : OwnD T w' d v S := by
  cases h with
  | bool b => exact .bool _ _
  | int k n => exact .int _ _ _
  | str s => exact .str _ _
  | nil => cases hf
  | arr => cases hf
  | fn => cases hf

/-- The cells of a list that memory holds. -/
theorem news_of {t : Nat} {l : List (T.U t)} {A : Option Addr} {vals : Nat → Nat → Value} (hT : TblOk P T) (hA : l ≠ [] → ∃ b off, A = some ⟨b, off, none⟩)
    (hcell : ∀ i j d, i < l.length → (row T t l i)[j]? = some d → ∃ b off, A = some ⟨b, off, none⟩ ∧ w.cell? ⟨b, off + i * T.size t + j, none⟩ = some (vals i j)) :
    l.length ≠ 0 → ∃ b off, A = some ⟨b, off, none⟩ ∧ ∀ j v, (newsOf l.length (T.size t) vals)[j]? = some v → w.cell? ⟨b, off + j, none⟩ = some v := by
  intro hl
  obtain ⟨b, off, rfl⟩ := hA (fun h => by subst h; exact hl rfl)
  refine ⟨b, off, rfl, fun j v hv => ?_⟩
  obtain ⟨i, k, h1, h2, rfl, rfl⟩ := newsOf_inv hv
  have hlen : (row T t l i).length = T.size t := by unfold Go.Sm.row; exact hT.len _ _
  obtain ⟨b', off', he, hc⟩ := hcell i k _ h1 (List.getElem?_eq_getElem (by omega))
  simp only [Option.some.injEq, Addr.mk.injEq] at he
  obtain ⟨rfl, rfl, _⟩ := he
  rw [← hc, Nat.add_assoc]

theorem elemsM_ok (hT : TblOk P T) (hG : Good W0 M0 e s tm w) {el : Nat} {c : C T} {u : Value} (hc : RelC e s w c u) {k : List (T.U el) → Bool → M T α} (h : Rn Ok (elemsM el c k) s a s') :
    ∃ (ys : List (T.U el)) (own : Bool) (s1 : St T) (e1 : Env) (S1 : Nat → Prop) (A : Option Addr) (c2 : Nat) (vals : Nat → Nat → Value) (F : Nat → Nat → Nat → Prop),
      Rn Ok (k ys own) s1 a s' ∧ Good W0 M0 e1 s1 tm w ∧ Keeps e s w e1 s1 w ∧ Loose W0 M0 e1 w S1 ∧ (∀ b, e.K b → e1.K b) ∧ s1.regs = s.regs ∧ u = .slice A ys.length c2 ∧
      (ys.length ≠ 0 → ∃ b off, A = some ⟨b, off, none⟩ ∧ ∀ j v, (newsOf ys.length (T.size el) vals)[j]? = some v → w.cell? ⟨b, off + j, none⟩ = some v) ∧
      (∀ i j d, i < ys.length → (row T el ys i)[j]? = some d → (own = true → OwnD T w d (vals i j) (F i j)) ∧ (own = false → RepD T w e1.K d (vals i j))) ∧
      (∀ i j b, F i j b → S1 b) ∧ (∀ i j i' j' b, F i j b → F i' j' b → i = i' ∧ j = j') ∧ (flat T el = true → own = true) := by
  unfold elemsM at h
  cases hf : flat T el with
  | true =>
    rw [hf] at h
    simp only [cond_true] at h
    obtain ⟨l, h, h1⟩ := asArr_ok hG.rel hc h
    rcases h1 with h1 | ⟨rfl, rfl⟩
    · obtain ⟨A, c2, vals, rfl, h2, h3, h4, h5⟩ := h1.arr_inv
      refine ⟨l, true, s, e, fun _ => False, A, c2, vals, fun _ _ _ => False, h, hG, .refl, .none, fun _ h => h, rfl, rfl, news_of hT h3 (fun i j d hi hd => ?_), fun i j d hi hd => ⟨fun _ => ?_, fun hx => by cases hx⟩, fun _ _ _ h => h, fun _ _ _ _ _ h => h.elim, fun _ => rfl⟩
      · obtain ⟨b, off, e1, e2, e3⟩ := h4 i j d hi hd; exact ⟨b, off, e1, e3⟩
      · exact flat_own (h5 i j d hi hd) (flat_row hT hf hd)
    · exact ⟨[], true, s, e, fun _ => False, none, 0, fun _ _ => .tuple #[], fun _ _ _ => False, h, hG, .refl, .none, fun _ h => h, rfl, rfl, fun h => absurd rfl h, fun i j d hi => absurd hi (Nat.not_lt_zero _), fun _ _ _ h => h, fun _ _ _ _ _ h => h.elim, fun _ => rfl⟩
  | false =>
    rw [hf] at h
    simp only [cond_false] at h
    split at h
    · cases hc
      exact ⟨[], true, s, e, fun _ => False, none, 0, fun _ _ => .tuple #[], fun _ _ _ => False, h, hG, .refl, .none, fun _ h => h, rfl, rfl, fun h => absurd rfl h, fun i j d hi => absurd hi (Nat.not_lt_zero _), fun _ _ _ h => h, fun _ _ _ _ _ h => h.elim, fun _ => rfl⟩
    · have hX := rn_withL h
      clear h
      obtain ⟨rfl, h⟩ := hX
      obtain ⟨A, c2, vals, rfl, h2, h3, h4, h5⟩ := RepD.arr_inv hc
      refine ⟨_, false, s, e, fun _ => False, A, c2, vals, fun _ _ _ => False, h, hG, .refl, .none, fun _ h => h, rfl, rfl, news_of hT h3 (fun i j d hi hd => ?_), fun i j d hi hd => ⟨(fun hx => by cases hx), fun _ => h5 i j d hi hd⟩, fun _ _ _ h => h, fun _ _ _ _ _ h => h.elim, fun h => (by cases h)⟩
      obtain ⟨b, off, e1, e2, e3⟩ := h4 i j d hi hd; exact ⟨b, off, e1, e3⟩
    · rename_i q t0 rng ex
      have h := rn_getO h
      split at h
      · rename_i t l ver nver ho hp
        have hX := rn_cond h
        clear h
        obtain ⟨h1, h⟩ := hX
        cases rng with
        | none =>
          replace h : Rn Ok (cut none l fun l => withL el t l fun l => .setO q.r (some .dead) (k l true)) s a s' := h
          have hX := rn_cut h
          clear h
          obtain ⟨l', h2, h⟩ := hX
          have hX := rn_withL h
          clear h
          obtain ⟨rfl, h⟩ := hX
          have h := rn_setO h
          obtain ⟨k1, k2, k3⟩ := hG.kill ho
          obtain ⟨vals, F, hA⟩ := hG.rel.objs _ _ ho
          have hi : refInfo s q = some ⟨t, l⟩ := by unfold refInfo; simp only [ho, hp]; rw [if_pos (nbeq h1)]
          obtain ⟨A, cc, hat, hsl⟩ := hc.2.2 _ _ hi
          unfold RefAt at hat
          simp only [hp] at hat
          obtain ⟨rfl, rfl⟩ := hat
          have hown : OwnD T w (.arr t l) (.slice (e.adr q.r) l.length (e.cap q.r)) (e.fp q.r) := (OwnD.arr_iff e.K).2 ⟨_, _, vals, F, rfl, hA⟩
          obtain ⟨A', c', vals', F', rfl, hA'⟩ := (OwnD.arr_iff e.K).1 (hown.cut h2 hsl)
          exact ⟨l', true, _, e.drop q.r, e.fp q.r, A', c', vals', F', h, k1, k2, k3, fun _ h => h, rfl, rfl, news_of hT hA'.hA hA'.hcell, fun i j d hi hd => ⟨fun _ => hA'.hsub i j d hi hd, fun hx => by cases hx⟩, fun i j b hb => (hA'.hF i j b hb).1, hA'.hdis, fun h => (by cases h)⟩
        | some rng =>
          replace h : Rn Ok (.setO q.r (some (.arr t l ver nver.kill (.upto 0) false)) (cut (some rng) l fun l => withL el t l fun l => k l false)) s a s' := h
          have h := rn_setO h
          obtain ⟨e1, k1, k2, k3, k4⟩ := hG.share ho
          replace hc := k2.c hc
          have hX := rn_cut h
          clear h
          obtain ⟨l', h2, h⟩ := hX
          have hX := rn_withL h
          clear h
          obtain ⟨rfl, h⟩ := hX
          obtain ⟨vals, F, hA⟩ := k1.rel.objs _ _ (setO_objs _ _ _)
          have hi : refInfo (s.setO q.r (some (.arr t l ver nver.kill (.upto 0) false))) q = some ⟨t, l⟩ := by unfold refInfo; simp only [setO_objs, hp]; rw [if_pos (nbeq h1)]
          obtain ⟨A, cc, hat, hsl⟩ := hc.2.2 _ _ hi
          unfold RefAt at hat
          simp only [hp] at hat
          obtain ⟨rfl, rfl⟩ := hat
          obtain ⟨A', c', vals', rfl, hA'⟩ := hA.cutU h2 hsl
          exact ⟨l', false, _, e1, fun _ => False, A', c', vals', fun _ _ _ => False, h, k1, k2, .none, k2.K, rfl, rfl, news_of hT hA'.hA hA'.hcell, fun i j d hi hd => ⟨(fun hx => by cases hx), fun _ => (hA'.hsub i j d hi hd).elim (fun x => absurd x.1 (Nat.not_lt_zero _)) (fun x => x.2)⟩, fun _ _ _ h => h, fun _ _ _ _ _ h => h.elim, fun h => (by cases h)⟩
      · rename_i t l ver nver ho hp
        have hX := rn_cond h
        clear h
        obtain ⟨h1, h⟩ := hX
        have hX := rn_cut h
        clear h
        obtain ⟨l', h2, h⟩ := hX
        have hX := rn_withL h
        clear h
        obtain ⟨rfl, h⟩ := hX
        obtain ⟨vals, F, hA⟩ := hG.rel.objs _ _ ho
        have hi : refInfo s q = some ⟨t, l⟩ := by unfold refInfo; simp only [ho, hp]; rw [if_pos (nbeq h1)]
        obtain ⟨A, cc, hat, hsl⟩ := hc.2.2 _ _ hi
        unfold RefAt at hat
        simp only [hp] at hat
        obtain ⟨rfl, rfl⟩ := hat
        obtain ⟨A', c', vals', rfl, hA'⟩ := hA.cutU h2 hsl
        exact ⟨l', false, s, e, fun _ => False, A', c', vals', fun _ _ _ => False, h, hG, .refl, .none, fun _ h => h, rfl, rfl, news_of hT hA'.hA hA'.hcell, fun i j d hi hd => ⟨(fun hx => by cases hx), fun _ => (hA'.hsub i j d hi hd).elim (fun x => absurd x.1 (Nat.not_lt_zero _)) (fun x => x.2)⟩, fun _ _ _ h => h, fun _ _ _ _ _ h => h.elim, fun h => (by cases h)⟩
      · exact (rn_fail h).elim
    · exact (rn_fail h).elim

theorem Oth.bszE (h : Oth w w') {b : Nat} {cs : Array Value} {el : Nat × Bool} (hb : w.heap[b]? = some (cellsE cs el)) : ∃ cs' : Array Value, w'.heap[b]? = some (cellsE cs' el) ∧ cs'.size = cs.size := by
  obtain ⟨cs', h1, h2⟩ := h.bsz b cs el.1 _ hb
  refine ⟨cs', ?_, h2⟩
  rw [← h2] at h1
  exact h1
theorem cellsE_cs {cs cs' : Array Value} {el el' : Nat × Bool} (h : some (cellsE cs el) = some (cellsE cs' el')) : cs = cs' := by
  have := Option.some.inj h
  simp only [cellsE, Obj.cells.injEq] at this
  exact this.1
theorem setRow_E {b : Nat} {old cs : Array Value} {el : Nat × Bool} (h : w.heap[b]? = some (cellsE old el)) (hs : cs.size = old.size) : (w.setRow b cs).heap[b]? = some (cellsE cs el) := by
  have := setRow_heap w b old cs el.1 _ h
  rw [← hs] at this
  exact this
theorem run_storeCells_E (P : Program) (g o : Nat) (el : Nat × Bool) : ∀ (vs : List Value) (i : Nat) (cur : Array Value) (w : World), w.heap[g]? = some (cellsE cur el) → o + i + vs.length ≤ cur.size → (∀ v ∈ vs, v.oneCell' = true) →
    (storeCells ⟨g, o, none⟩ vs i).run P w = .ok () (w.setRow g (cur.toList.take (o + i) ++ vs ++ cur.toList.drop (o + i + vs.length)).toArray)
  | [], i, cur, w, hg, _, _ => by
    simp only [storeCells, List.append_nil, List.length_nil, Nat.add_zero, List.take_append_drop, Array.toArray_toList]
    rw [setRow_self w g cur el.1 _ hg]
    rfl
  | v :: rest, i, cur, w, hg, hl, h1 => by
    have hi : o + i < cur.size := by simp at hl; omega
    have hadd : (⟨g, o, none⟩ : Addr).add i = ⟨g, o + i, none⟩ := by unfold Addr.add; split <;> simp_all
    have hcell : w.cell? ⟨g, o + i, none⟩ = some cur[o + i] := by simp [World.cell?, hg, hi]
    have hfro : w.frozen? ⟨g, o + i, none⟩ = false := by
      simp only [World.frozen?, hg, Bool.and_eq_false_iff, decide_eq_false_iff_not]
      cases el.2 with
      | true => left; simp only [fzE, cond_true]; omega
      | false => right; simp only [fzE, cond_false]; omega
    have hst : (store ((⟨g, o, none⟩ : Addr).add i) v).run P w = .ok () (w.setRow g (cur.setIfInBounds (o + i) v)) := by
      rw [hadd, run_store P w _ v _ (h1 v (by simp)), hcell]
      simp [hfro, setCell_eq_setRow w g (o + i) cur el.1 _ v hg]
    have ih := run_storeCells_E P g o el rest (i + 1) (cur.setIfInBounds (o + i) v) (w.setRow g (cur.setIfInBounds (o + i) v)) (setRow_E hg (by simp)) (by simp at hl ⊢; omega) (fun x hx => h1 x (by simp [hx]))
    simp only [storeCells, Sem.run_bind, hst, Result.andThen_ok, ih, setRow_setRow]
    congr 3
    have e := list_seg_step cur.toList (o + i) v rest (by simp at hl ⊢; omega)
    simpa [Array.toList_setIfInBounds, Nat.add_assoc] using e
theorem Oth.setRow {b : Nat} {old cs : Array Value} {el : Nat × Bool} (h : w.heap[b]? = some (cellsE old el)) (hs : cs.size = old.size) : Oth w (w.setRow b cs) :=
  ⟨rfl, Nat.le_refl _, fun b' c el' fz hb' => by
    by_cases e : b' = b
    · subst e
      rw [h] at hb'
      cases hb'
      exact ⟨cs, setRow_heap w b' old _ el.1 _ h, hs⟩
    · exact ⟨c, by simp only [World.setRow, Array.getElem?_modify]; rw [if_neg (fun h => e h.symm)]; exact hb', rfl⟩⟩
/-- What an append does to memory. -/
theorem append_memE (hT : TblOk P T) {el : Nat} (hs : 0 < T.size el) (hb : 0 < T.bytes el) {t ty : Nat} (hty : P.underlying t = some (.slice el)) {A : Option Addr} {n c : Nat} (hnc : n ≤ c) (hA0 : A = none → c = 0)
    {tx : Nat} {xv : Value} {m : Nat} {olds news : List Value}
    (hblk : n + m ≤ c → 0 < c → ∃ b off cs ell, A = some ⟨b, off, none⟩ ∧ w.heap[b]? = some (cellsE cs ell) ∧ off + c * T.size el ≤ cs.size)
    (hol : olds.length = n * T.size el) (hold : n ≠ 0 → ∃ b off, A = some ⟨b, off, none⟩ ∧ ∀ j v, olds[j]? = some v → w.cell? ⟨b, off + j, none⟩ = some v)
    (hsrc : Go.Src P (T.size el) tx xv m news w) (hroom : (n + m) * T.bytes el ≤ 140737488355328) :
    ∃ A' c' w', (Builtin.append_ #[t, tx] ty #[.slice A n c, xv]).run P w = .ok (.slice A' (n + m) c') w' ∧ n + m ≤ c' ∧ w.heap.size ≤ w'.heap.size ∧ w'.os = w.os ∧ w'.tape = w.tape ∧ Oth w w' ∧
      (∀ b, b < w.heap.size → (n + m ≤ c → 0 < c → ∀ off, A ≠ some ⟨b, off, none⟩) → w'.heap[b]? = w.heap[b]?) ∧
      (0 < c' → ∃ b off cs ell, A' = some ⟨b, off, none⟩ ∧ (b = w.heap.size → ell = (el, false) ∧ off = 0) ∧ ((n + m ≤ c ∧ 0 < c ∧ A = some ⟨b, off, none⟩) ∨ (b = w.heap.size ∧ w.heap.size < w'.heap.size)) ∧ w'.heap[b]? = some (cellsE cs ell) ∧ off + c' * T.size el ≤ cs.size ∧
        (∀ k v, olds[k]? = some v → cs[off + k]? = some v) ∧ (∀ j v, news[j]? = some v → cs[off + n * T.size el + j]? = some v)) := by
  obtain ⟨i, g1, g2, g3, z, g4, g5, g6⟩ := hT.info el hs
  have hl := hsrc.newsLen
  have h1 := hsrc.one
  have hol' := hol
  have hl' := hl
  rw [← g2] at hol' hl'
  by_cases hr : n + m ≤ c
  · rcases Nat.eq_zero_or_pos m with rfl | hm
    · refine ⟨A, c, w, ?_, hnc, Nat.le_refl _, rfl, rfl, Oth.refl _, fun _ _ _ => rfl, fun hc => ?_⟩
      · have hle : n ≤ c := hnc
        have hn0 : news = [] := List.length_eq_zero_iff.1 (by rw [hl, Nat.zero_mul])
        have hcl := hsrc.cells
        rw [hn0, ← g2] at hcl
        rcases hsrc.kind with ⟨e', hk⟩ | hk <;> cases A <;> simp [Builtin.append_, run_underlying hty, run_underlying hk, sizeOf, typeInfo, g1, hsrc.len, hcl, hle, storeCells]
      · obtain ⟨b, off, cs, ell, e1, e2, e3⟩ := hblk hr hc
        refine ⟨b, off, cs, ell, e1, fun h => absurd h (Nat.ne_of_lt (Array.getElem?_eq_some_iff.1 e2).1), .inl ⟨hr, hc, e1⟩, e2, e3, fun k v hk => ?_, fun j v hj => ?_⟩
        · have hn : n ≠ 0 := fun h => by subst h; simp at hol; subst hol; simp at hk
          obtain ⟨b', off', e4, e5⟩ := hold hn
          rw [e1] at e4
          simp only [Option.some.injEq, Addr.mk.injEq] at e4
          obtain ⟨rfl, rfl, _⟩ := e4
          have := e5 k v hk
          simpa [World.cell?, e2] using this
        · simp at hl; subst hl; simp at hj
    · have hc : 0 < c := by omega
      obtain ⟨b, off, cs, ell, rfl, e2, e3⟩ := hblk hr hc
      have hlt : b < w.heap.size := (Array.getElem?_eq_some_iff.1 e2).1
      have hfit : off + n * T.size el + news.length ≤ cs.size := by
        rw [hl, Nat.add_assoc, ← Nat.add_mul]
        exact Nat.le_trans (Nat.add_le_add_left (Nat.mul_le_mul_right _ hr) _) e3
      have hf := hsrc.cells
      have hst := run_storeCells_E P b (off + n * T.size el) ell news 0 cs w e2 (by omega) h1
      simp only [Nat.add_zero] at hst
      refine ⟨some ⟨b, off, none⟩, c, w.setRow b (cs.toList.take (off + n * T.size el) ++ news ++ cs.toList.drop (off + n * T.size el + news.length)).toArray, ?_, hr, ?_, rfl, rfl, Oth.setRow e2 (by simp only [List.size_toArray, List.length_append, List.length_take, List.length_drop, Array.length_toList]; omega), fun b' hb' hne => ?_, fun _ => ⟨b, off, _, ell, rfl, fun h => absurd h (Nat.ne_of_lt hlt), .inl ⟨hr, hc, rfl⟩, setRow_E e2 (by simp only [List.size_toArray, List.length_append, List.length_take, List.length_drop, Array.length_toList]; omega), ?_, fun k v hk => ?_, fun j v hj => ?_⟩⟩
      · rcases hsrc.kind with ⟨e', hk⟩ | hk <;>
        · simp only [Builtin.append_]
          simp [run_underlying hty, run_underlying hk, sizeOf, typeInfo, g1, hsrc.len, hr, hf, addr_add, g2, hst]
      · show w.heap.size ≤ (w.heap.modify _ _).size
        simp
      · have hbb : b' ≠ b := fun h => hne hr hc off (by rw [h])
        simp only [World.setRow, Array.getElem?_modify]
        rw [if_neg (fun h => hbb h.symm)]
      · simp only [List.size_toArray, List.length_append, List.length_take, List.length_drop, Array.length_toList]
        omega
      · have hk' := (List.getElem?_eq_some_iff.1 hk).1
        have hn : n ≠ 0 := fun h => by subst h; simp at hol; subst hol; simp at hk'
        obtain ⟨b', off', e5, e6⟩ := hold hn
        simp only [Option.some.injEq, Addr.mk.injEq] at e5
        obtain ⟨rfl, rfl, _⟩ := e5
        have := e6 k v hk
        simp only [World.cell?, e2] at this
        simp only [List.getElem?_toArray]
        rw [List.getElem?_append_left (by simp; omega), List.getElem?_append_left (by simp; omega), List.getElem?_take, if_pos (by omega)]
        simpa using this
      · have hj' := (List.getElem?_eq_some_iff.1 hj).1
        simp only [List.getElem?_toArray]
        rw [List.getElem?_append_left (by simp; omega), List.getElem?_append_right (by simp; omega)]
        simp only [List.length_take, Array.length_toList]
        rw [show min (off + n * T.size el) cs.size = off + n * T.size el from by omega]
        rw [← hj]
        congr 1
        omega
  · have hlt : c < n + m := by omega
    have hm : m ≠ 0 := by omega
    have hsmall : n + m ≤ 140737488355328 := by
      have : (n + m) * 1 ≤ (n + m) * T.bytes el := Nat.mul_le_mul_left _ hb
      omega
    have hzs : z.cells.size = T.size el := by rw [← Array.length_toList, g5, (hT.zero el hs).1]
    have hge := grownCap_ge w (n + m) c el
    have hold' : (Builtin.firstCells i.size n (.slice A n c)).run P w.drew = .ok olds.toArray w.drew := by
      cases A with
      | none =>
        have hc0 := hA0 rfl
        subst hc0
        have hn0 : n = 0 := by omega
        subst hn0
        simp at hol
        subst hol
        exact run_firstCells_none w.drew i.size 0 0 0
      | some b0 =>
        exact run_firstCells_some (P := P) w.drew i.size n b0 n c olds hol' fun j v hj => by
          have hn : n ≠ 0 := fun h => by subst h; simp at hol; subst hol; simp at hj
          obtain ⟨b', off', e5, e6⟩ := hold hn
          simp only [Option.some.injEq] at e5
          subst e5
          rw [addr_add]
          have := e6 j v hj
          simpa using this
    have key : ∃ cs, (Builtin.append_ #[t, tx] ty #[.slice A n c, xv]).run P w = .ok (.slice (some ⟨w.heap.size, 0, none⟩) (n + m) (grownCap w (n + m) c el)) (w.drew.alloc (.cells ((olds ++ news).toArray ++ cs) el)) ∧ cs.size = (grownCap w (n + m) c el - (n + m)) * T.size el := by
      have := run_append_grow_src (P := P) (w := w) t tx ty el i z hty g1 g4 A n c olds hold' xv m news (by rw [g2]; exact hsrc) hlt (by omega) (by rw [g3]; exact growslice_fits hlt hroom)
      exact ⟨_, this, by rw [size_zeroCells, hzs]⟩
    obtain ⟨cs, k1, k2⟩ := key
    have hw := NewW.drew w (.cells ((olds ++ news).toArray ++ cs) el)
    refine ⟨_, _, _, k1, hge, by have := hw.size; omega, hw.os, hw.tape, hw.output, fun b hb _ => hw.old b hb, fun _ => ⟨_, 0, _, (el, false), rfl, fun _ => ⟨rfl, rfl⟩, .inr ⟨rfl, by have := hw.size; omega⟩, hw.new, ?_, fun k v hk => ?_, fun j v hj => ?_⟩⟩
    · simp only [Array.size_append, List.size_toArray, List.length_append]
      rw [hol, hl, k2, ← Nat.add_mul, ← Nat.add_mul]
      rw [show n + m + (grownCap w (n + m) c el - (n + m)) = grownCap w (n + m) c el from by omega]
      omega
    · have hk' := (List.getElem?_eq_some_iff.1 hk).1
      rw [Nat.zero_add, Array.getElem?_append_left (by simp; omega), List.getElem?_toArray, List.getElem?_append_left hk']
      exact hk
    · have hj' := (List.getElem?_eq_some_iff.1 hj).1
      rw [Nat.zero_add, ← hol, Array.getElem?_append_left (by simp; omega), List.getElem?_toArray, List.getElem?_append_right (by omega), Nat.add_sub_cancel_left]
      exact hj
theorem append_mem (hT : TblOk P T) {el : Nat} (hs : 0 < T.size el) (hb : 0 < T.bytes el) {t ty : Nat} (hty : P.underlying t = some (.slice el)) {A : Option Addr} {n c : Nat} (hnc : n ≤ c) (hA0 : A = none → c = 0)
    {tx : Nat} {xv : Value} {m : Nat} {olds news : List Value}
    (hblk : n + m ≤ c → 0 < c → ∃ b off cs ell, A = some ⟨b, off, none⟩ ∧ w.heap[b]? = some (cellsE cs ell) ∧ off + c * T.size el ≤ cs.size)
    (hol : olds.length = n * T.size el) (hold : n ≠ 0 → ∃ b off, A = some ⟨b, off, none⟩ ∧ ∀ j v, olds[j]? = some v → w.cell? ⟨b, off + j, none⟩ = some v)
    (hsrc : Go.Src P (T.size el) tx xv m news w) (hroom : (n + m) * T.bytes el ≤ 140737488355328) :
    ∃ A' c' w', (Builtin.append_ #[t, tx] ty #[.slice A n c, xv]).run P w = .ok (.slice A' (n + m) c') w' ∧ n + m ≤ c' ∧ w.heap.size ≤ w'.heap.size ∧ w'.os = w.os ∧ w'.tape = w.tape ∧ Oth w w' ∧
      (∀ b, b < w.heap.size → (n + m ≤ c → 0 < c → ∀ off, A ≠ some ⟨b, off, none⟩) → w'.heap[b]? = w.heap[b]?) ∧
      (0 < c' → ∃ b off cs ell, A' = some ⟨b, off, none⟩ ∧ ((n + m ≤ c ∧ 0 < c ∧ A = some ⟨b, off, none⟩) ∨ (b = w.heap.size ∧ w.heap.size < w'.heap.size)) ∧ w'.heap[b]? = some (cellsE cs ell) ∧ off + c' * T.size el ≤ cs.size ∧
        (∀ k v, olds[k]? = some v → cs[off + k]? = some v) ∧ (∀ j v, news[j]? = some v → cs[off + n * T.size el + j]? = some v)) := by
  obtain ⟨A', c', w', g1, g2, g3, g4, g5, g6, g7, g8⟩ := append_memE hT hs hb (ty := ty) hty hnc hA0 hblk hol hold hsrc hroom
  exact ⟨A', c', w', g1, g2, g3, g4, g5, g6, g7, fun h => by obtain ⟨b, off, cs, ell, e1, _, e2⟩ := g8 h; exact ⟨b, off, cs, ell, e1, e2⟩⟩
end
end Go.Sm
end

section
set_option linter.unusedVariables false
namespace Go.Sm
variable {T : Tbl} {α : Type}
section
variable {Ok : Nat → List (A T) → Res T → Prop} {s s' : St T} {a : α} {P : Program} {e e' : Env} {w w' W0 : World} {M0 : Gh} {tm : Array Value}

theorem row_append_left {t : Nat} {l ys : List (T.U t)} {i : Nat} (hi : i < l.length) : row T t (l ++ ys) i = row T t l i := by
  unfold Go.Sm.row
  rw [List.getD_eq_getElem?_getD, List.getElem?_append_left hi, ← List.getD_eq_getElem?_getD]
theorem row_append_right {t : Nat} {l ys : List (T.U t)} {i : Nat} (hi : ¬ i < l.length) : row T t (l ++ ys) i = row T t ys (i - l.length) := by
  unfold Go.Sm.row
  rw [List.getD_eq_getElem?_getD, List.getElem?_append_right (by omega), ← List.getD_eq_getElem?_getD]
theorem row_len (hT : TblOk P T) {t : Nat} {l : List (T.U t)} {i j : Nat} {d : D T.U} (h : (row T t l i)[j]? = some d) : j < T.size t := by
  have := (List.getElem?_eq_some_iff.1 h).1
  unfold Go.Sm.row at this
  rwa [hT.len] at this
/-- An array with rows behind. -/
theorem app_arr (hT : TblOk P T) {K : Nat → Prop} {t : Nat} {l ys : List (T.U t)} {dep : Dep} {olds news : Nat → Nat → Value} {A' : Option Addr} {c' : Nat} {S : Nat → Prop} {F1 F2 : Nat → Nat → Nat → Prop}
    (hc : l.length + ys.length ≤ c')
    (hblk : 0 < c' → ∃ b off cs el, A' = some ⟨b, off, none⟩ ∧ S b ∧ w'.heap[b]? = some (cellsE cs el) ∧ off + c' * T.size t ≤ cs.size ∧
      (∀ k v, (newsOf l.length (T.size t) olds)[k]? = some v → cs[off + k]? = some v) ∧ (∀ j v, (newsOf ys.length (T.size t) news)[j]? = some v → cs[off + l.length * T.size t + j]? = some v))
    (hold : ∀ i j d, i < l.length → (row T t l i)[j]? = some d → RowOk T w' K dep i d (olds i j) (F1 i j))
    (hnew : ∀ i j d, i < ys.length → (row T t ys i)[j]? = some d → RowOk T w' K dep (l.length + i) d (news i j) (F2 i j))
    (hF1 : ∀ i j b, F1 i j b → S b ∧ ∀ b' off, A' = some ⟨b', off, none⟩ → b ≠ b') (hF2 : ∀ i j b, F2 i j b → S b ∧ ∀ b' off, A' = some ⟨b', off, none⟩ → b ≠ b')
    (hd1 : ∀ i j i' j' b, F1 i j b → F1 i' j' b → i = i' ∧ j = j') (hd2 : ∀ i j i' j' b, F2 i j b → F2 i' j' b → i = i' ∧ j = j') (hd : ∀ i j i' j' b, F1 i j b → ¬ F2 i' j' b) :
    ∃ vals F, ArrOk T w' K t (l ++ ys) dep A' c' S vals F := by
  refine ⟨fun i j => if i < l.length then olds i j else news (i - l.length) j, fun i j b => if i < l.length then F1 i j b else F2 (i - l.length) j b, ?_⟩
  refine ⟨by simp; omega, fun hne => ?_, fun hp => ?_, fun i j d hi hd' => ?_, fun i j d hi hd' => ?_, fun i j b hb => ?_, fun i j i' j' b hb hb' => ?_⟩
  · have hp : 0 < c' := by
      have : (l ++ ys).length ≠ 0 := fun h => hne (List.length_eq_zero_iff.1 h)
      simp at this
      have h2 : ¬ (l.length = 0 ∧ ys.length = 0) := fun ⟨h1, h2⟩ => this (List.length_eq_zero_iff.1 h1) (List.length_eq_zero_iff.1 h2)
      omega
    obtain ⟨b, off, cs, el, e1, _⟩ := hblk hp
    exact ⟨b, off, e1⟩
  · obtain ⟨b, off, cs, el, e1, e2, e3, e4, _⟩ := hblk hp
    exact ⟨b, off, cs, el, e1, e2, e3, e4⟩
  · simp only [List.length_append] at hi
    obtain ⟨b, off, cs, el, e1, e2, e3, e4, e5, e6⟩ := hblk (by omega)
    refine ⟨b, off, e1, ?_⟩
    simp only [World.cell?, e3]
    by_cases h : i < l.length
    · rw [row_append_left h] at hd'
      rw [if_pos h, Nat.add_assoc]
      simpa using e5 _ _ (newsOf_get h (row_len hT hd'))
    · rw [row_append_right h] at hd'
      rw [if_neg h]
      have := e6 _ _ (newsOf_get (vals := news) (show i - l.length < ys.length by omega) (row_len hT hd'))
      rw [show off + l.length * T.size t + ((i - l.length) * T.size t + j) = off + i * T.size t + j from by
        rw [← Nat.add_assoc, Nat.add_assoc off, ← Nat.add_mul]
        rw [show l.length + (i - l.length) = i from by omega]] at this
      simpa using this
  · simp only [List.length_append] at hi
    by_cases h : i < l.length
    · rw [row_append_left h] at hd'
      simp only [h, if_true]
      exact hold i j d h hd'
    · rw [row_append_right h] at hd'
      simp only [h, if_false]
      have := hnew (i - l.length) j d (by omega) hd'
      rw [show l.length + (i - l.length) = i from by omega] at this
      exact this
  · by_cases h : i < l.length
    · rw [if_pos h] at hb; exact hF1 i j b hb
    · rw [if_neg h] at hb; exact hF2 _ j b hb
  · by_cases h : i < l.length <;> by_cases h' : i' < l.length
    · rw [if_pos h] at hb; rw [if_pos h'] at hb'; exact hd1 _ _ _ _ _ hb hb'
    · rw [if_pos h] at hb; rw [if_neg h'] at hb'; exact absurd hb' (hd _ _ _ _ _ hb)
    · rw [if_neg h] at hb; rw [if_pos h'] at hb'; exact absurd hb (hd _ _ _ _ _ hb')
    · rw [if_neg h] at hb
      rw [if_neg h'] at hb'
      obtain ⟨k1, k2⟩ := hd2 _ _ _ _ _ hb hb'
      exact ⟨by omega, k2⟩

/-- References to an array of which the turn is counted on: they are void now. -/
theorem RelRef.stale {q : Ref} {t t' : Nat} {l : List (T.U t)} {l' : List (T.U t')} {ver : Nat} {nver : NV} {dep dep' : Dep} {pin pin' : Bool} (ho : s.objs q.r = some (.arr t l ver nver dep pin)) {rng : Option (Nat × Nat)} {v : Value}
    (h : RelRef e s w q rng v) : RelRef e' (s.setO q.r (some (.arr t' l' (ver + 1) nver.kill dep' pin'))) w' q rng v := by
  obtain ⟨o, h1, h2⟩ := h.1
  have h2 := h2 _ _ _ _ _ _ (Option.some.inj (h1.symm.trans ho))
  refine ⟨⟨_, setO_objs _ _ _, fun _ _ _ _ _ _ hx => by cases hx; revert h2; cases q.p <;> (simp only [NV.kill]; omega)⟩, h.2.1, fun t2 l2 hi => ?_⟩
  unfold refInfo at hi
  rw [setO_objs] at hi
  revert h2 hi
  cases hp : q.p with
  | none =>
    simp only
    intro h2 hi
    rw [if_neg (by omega)] at hi
    cases hi
  | some x =>
    simp only
    intro h2 hi
    rw [if_neg (NV.has_kill h2)] at hi
    cases hi
theorem RelPtr.stale {q : Ref} {t t' : Nat} {l : List (T.U t)} {l' : List (T.U t')} {ver : Nat} {nver : NV} {dep dep' : Dep} {pin pin' : Bool} (ho : s.objs q.r = some (.arr t l ver nver dep pin)) {row col : Nat} {v : Value}
    (h : RelPtr e s w q row col v) : RelPtr e' (s.setO q.r (some (.arr t' l' (ver + 1) nver.kill dep' pin'))) w' q row col v := by
  obtain ⟨o, h1, h2⟩ := h.1
  have h2 := h2 _ _ _ _ _ _ (Option.some.inj (h1.symm.trans ho))
  refine ⟨⟨_, setO_objs _ _ _, fun _ _ _ _ _ _ hx => by cases hx; revert h2; cases q.p <;> (simp only [NV.kill]; omega)⟩, h.2.1, (fun cs hc => by rw [setO_objs] at hc; cases hc), fun t2 l2 hi => ?_⟩
  unfold refInfo at hi
  rw [setO_objs] at hi
  revert h2 hi
  cases hp : q.p with
  | none =>
    simp only
    intro h2 hi
    rw [if_neg (by omega)] at hi
    cases hi
  | some x =>
    simp only
    intro h2 hi
    rw [if_neg (NV.has_kill h2)] at hi
    cases hi
theorem relMap_arr {r : Nat} {t t' : Nat} {l : List (T.U t)} {l' : List (T.U t')} {ver ver' : Nat} {nver nver' : NV} {dep dep' : Dep} {pin pin' : Bool} {v : Value} (h : RelC0 e s w (.map r : C T) v) :
    RelC0 e' (s.setO r (some (.arr t' l' ver' nver' dep' pin'))) w' (.map r : C T) v :=
  ⟨⟨_, setO_objs _ _ _⟩, h.2.1, fun kt et l hm => by rw [setO_objs] at hm; cases hm⟩

theorem roomM_inv {el n : Nat} {k : M T α} (h : Rn Ok (roomM el n k) s a s') : 0 < T.bytes el ∧ 0 < T.size el ∧ n * T.bytes el ≤ 140737488355328 ∧ Rn Ok k s a s' := by
  obtain ⟨h1, h⟩ := rn_cond h
  obtain ⟨h2, h⟩ := rn_must h
  simp only [Bool.and_eq_true] at h1
  exact ⟨nble h1.1, nble h1.2, h2, h⟩

/-- Cells of values that have one cell each. -/
theorem news_one {t : Nat} {ys : List (T.U t)} {vals : Nat → Nat → Value} (hT : TblOk P T) (h : ∀ i j d, i < ys.length → (row T t ys i)[j]? = some d → ∃ K, RepD T w K d (vals i j)) : ∀ v ∈ newsOf ys.length (T.size t) vals, v.oneCell' = true := by
  intro v hv
  obtain ⟨k, hk⟩ := List.getElem?_of_mem hv
  obtain ⟨i, j, h1, h2, rfl, rfl⟩ := newsOf_inv hk
  have hlen : (row T t ys i).length = T.size t := by unfold Go.Sm.row; exact hT.len _ _
  obtain ⟨K, hr⟩ := h i j _ h1 (List.getElem?_eq_getElem (by omega))
  exact hr.one

/-- An append whose outcome is a new object. -/
theorem Good.appNew (hT : TblOk P T) (hG : Good W0 M0 e s tm w) {S : Nat → Prop} (hS : Loose W0 M0 e w S) {r : Nat} (hr : s.objs r = none) {t ty el : Nat} (hty : P.underlying t = some (.slice el)) (hs : 0 < T.size el) (hb : 0 < T.bytes el)
    {l ys : List (T.U el)} {dep : Dep} {A : Option Addr} {tx : Nat} {xv : Value} {c : Nat} {olds news : Nat → Nat → Value} {F1 F2 : Nat → Nat → Nat → Prop} (hnc : l.length ≤ c) (hA0 : A = none → c = 0)
    (hblk : l.length + ys.length ≤ c → 0 < c → ∃ b off cs ell, A = some ⟨b, off, none⟩ ∧ S b ∧ w.heap[b]? = some (cellsE cs ell) ∧ off + c * T.size el ≤ cs.size)
    (hold : l.length ≠ 0 → ∃ b off, A = some ⟨b, off, none⟩ ∧ ∀ j v, (newsOf l.length (T.size el) olds)[j]? = some v → w.cell? ⟨b, off + j, none⟩ = some v)
    (hsrc : Go.Src P (T.size el) tx xv ys.length (newsOf ys.length (T.size el) news) w)
    (hro : ∀ i j d, i < l.length → (row T el l i)[j]? = some d → RowOk T w e.K dep i d (olds i j) (F1 i j))
    (hrn : ∀ i j d, i < ys.length → (row T el ys i)[j]? = some d → RowOk T w e.K dep (l.length + i) d (news i j) (F2 i j) ∧ ∃ K, RepD T w K d (news i j))
    (hF1 : ∀ i j b, F1 i j b → S b ∧ ∀ b' off, A = some ⟨b', off, none⟩ → b ≠ b') (hF2 : ∀ i j b, F2 i j b → S b ∧ ∀ b' off, A = some ⟨b', off, none⟩ → b ≠ b')
    (hd1 : ∀ i j i' j' b, F1 i j b → F1 i' j' b → i = i' ∧ j = j') (hd2 : ∀ i j i' j' b, F2 i j b → F2 i' j' b → i = i' ∧ j = j') (hd : ∀ i j i' j' b, F1 i j b → ¬ F2 i' j' b)
    (hroom : (l.length + ys.length) * T.bytes el ≤ 140737488355328) :
    ∃ e' w' val, Good W0 M0 e' (s.setO r (some (.arr el (l ++ ys) 0 0 dep false))) tm w' ∧ Keeps e s w e' (s.setO r (some (.arr el (l ++ ys) 0 0 dep false))) w' ∧
      RelC e' (s.setO r (some (.arr el (l ++ ys) 0 0 dep false))) w' (.own ⟨r, 0, none⟩ el none false) val ∧
      (Builtin.append_ #[t, tx] ty #[.slice A l.length c, xv]).run P w = .ok val w' := by
  obtain ⟨A', c', w', g1, g2, g3, g4, g5, g6, g7, g8⟩ := append_mem (P := P) (w := w) (ty := ty) hT hs hb hty hnc hA0 (m := ys.length) (olds := newsOf l.length (T.size el) olds) (news := newsOf ys.length (T.size el) news)
    (fun h1 h2 => by obtain ⟨b, off, cs, ell, e1, e2, e3, e4⟩ := hblk h1 h2; exact ⟨b, off, cs, ell, e1, e3, e4⟩) (newsOf_length ..) hold hsrc hroom
  have hlt : ∀ b, S b → b < w'.heap.size := fun b hb => Nat.lt_of_lt_of_le (hS.lt b hb) g3
  have hAS : ∀ b off, l.length + ys.length ≤ c → 0 < c → A = some ⟨b, off, none⟩ → S b := fun b off h1 h2 h3 => by
    obtain ⟨b', off', cs, ell, e1, e2, _⟩ := hblk h1 h2
    rw [h3] at e1
    simp only [Option.some.injEq, Addr.mk.injEq] at e1
    exact e1.1 ▸ e2
  have hsame : ∀ b, b < w.heap.size → ¬ S b → w'.heap[b]? = w.heap[b]? := fun b hb hn => g7 b hb fun h1 h2 off he => hn (hAS b off h1 h2 he)
  -- blocks of what lies deeper
  have hdeep : ∀ b, S b → (∀ b' off, A = some ⟨b', off, none⟩ → b ≠ b') → w'.heap[b]? = w.heap[b]? := fun b hb hne => g7 b (hS.lt b hb) fun h1 h2 off he => hne b off he rfl
  obtain ⟨k1, k2⟩ := hG.install hS hr g3 hsame g4 g5 g6 (.arr el (l ++ ys) 0 0 dep false) A' c' (fun b => S b ∨ (b = w.heap.size ∧ w.heap.size < w'.heap.size)) (fun b hb => by
    rcases hb with hb | ⟨rfl, hb⟩
    · exact ⟨.inl hb, hlt b hb⟩
    · exact ⟨.inr (Nat.le_refl _), hb⟩)
  have hA'ne : ∀ b, S b → (∀ b' off, A = some ⟨b', off, none⟩ → b ≠ b') → 0 < c' → ∀ b' off, A' = some ⟨b', off, none⟩ → b ≠ b' := by
    intro b hb hne hc' b' off he
    obtain ⟨b2, off2, cs, ell, e1, e2, _⟩ := g8 hc'
    rw [he] at e1
    simp only [Option.some.injEq, Addr.mk.injEq] at e1
    obtain ⟨rfl, rfl, _⟩ := e1
    rcases e2 with ⟨_, _, e2⟩ | ⟨e2, _⟩
    · exact hne _ _ e2
    · have := hS.lt b hb; omega
  have hro' : ∀ i j d, i < l.length → (row T el l i)[j]? = some d → RowOk T w' e.K dep i d (olds i j) (fun b => F1 i j b ∧ i < l.length) := fun i j d hi hd => by
    have h1 := (hro i j d hi hd).mono (w' := w') (fun _ h => h) (fun b hb => hsame b (hG.rel.lt b (.inl hb)) (fun h => hS.notK b h hb)) (fun b hb => hdeep b (hF1 i j b hb).1 (hF1 i j b hb).2)
    cases dep with
    | all => exact OwnD.wider h1 fun b hb => ⟨hb, hi⟩
    | upto m => exact h1.imp (fun x => ⟨x.1, x.2.wider fun b hb => ⟨hb, hi⟩⟩) id
    | hole m => exact h1.imp id fun x => OwnD.wider x fun b hb => ⟨hb, hi⟩
  have hrn' : ∀ i j d, i < ys.length → (row T el ys i)[j]? = some d → RowOk T w' e.K dep (l.length + i) d (news i j) (fun b => F2 i j b ∧ i < ys.length) := fun i j d hi hd => by
    have h1 := (hrn i j d hi hd).1.mono (w' := w') (fun _ h => h) (fun b hb => hsame b (hG.rel.lt b (.inl hb)) (fun h => hS.notK b h hb)) (fun b hb => hdeep b (hF2 i j b hb).1 (hF2 i j b hb).2)
    cases dep with
    | all => exact OwnD.wider h1 fun b hb => ⟨hb, hi⟩
    | upto m => exact h1.imp (fun x => ⟨x.1, x.2.wider fun b hb => ⟨hb, hi⟩⟩) id
    | hole m => exact h1.imp id fun x => OwnD.wider x fun b hb => ⟨hb, hi⟩
  obtain ⟨vals, F, hA⟩ := app_arr (w' := w') (K := e.K) (dep := dep) (S := fun b => S b ∨ (b = w.heap.size ∧ w.heap.size < w'.heap.size)) hT g2 (fun hc' => by
      obtain ⟨b, off, cs, ell, e1, e2, e3, e4, e5, e6⟩ := g8 hc'
      refine ⟨b, off, cs, ell, e1, ?_, e3, e4, e5, e6⟩
      rcases e2 with ⟨h1, h2, h3⟩ | ⟨rfl, h2⟩
      · exact .inl (hAS b off h1 h2 h3)
      · exact .inr ⟨rfl, h2⟩) hro' hrn' (fun i j b hb => ⟨.inl (hF1 i j b hb.1).1, hA'ne b (hF1 i j b hb.1).1 (hF1 i j b hb.1).2 (by have := hb.2; omega)⟩) (fun i j b hb => ⟨.inl (hF2 i j b hb.1).1, hA'ne b (hF2 i j b hb.1).1 (hF2 i j b hb.1).2 (by have := hb.2; omega)⟩)
      (fun i j i' j' b h h' => hd1 _ _ _ _ _ h.1 h'.1) (fun i j i' j' b h h' => hd2 _ _ _ _ _ h.1 h'.1) (fun i j i' j' b h h' => hd _ _ _ _ _ h.1 h'.1)
  refine ⟨_, w', _, k2 ⟨vals, F, ?_⟩, k1, own_rel (setO_objs _ _ _) el (Env.put_adr ..) (Env.put_cap ..), ?_⟩
  · rw [Env.put_adr, Env.put_cap]
    have : (e.put r A' c' fun b => S b ∨ (b = w.heap.size ∧ w.heap.size < w'.heap.size)).fp r = fun b => S b ∨ (b = w.heap.size ∧ w.heap.size < w'.heap.size) := by funext b; simp [Env.put]
    rw [this]
    exact hA
  · rw [g1, List.length_append]
end
end Go.Sm
end

section
set_option linter.unusedVariables false
namespace Go.Sm
variable {T : Tbl} {α : Type}
section
variable {Ok : Nat → List (A T) → Res T → Prop} {s s' : St T} {a : α} {P : Program} {e e' : Env} {w w' W0 : World} {M0 : Gh} {tm : Array Value}

/-- An append that turns an object on. -/
theorem Good.appOld (hT : TblOk P T) (hG : Good W0 M0 e s tm w) {S : Nat → Prop} (hS : Loose W0 M0 e w S) {r : Nat} {t ty el : Nat} {l0 : List (T.U el)} {ver : Nat} {nver : NV} {dep0 : Dep} {pin : Bool} (ho : s.objs r = some (.arr el l0 ver nver dep0 pin)) (hty : P.underlying t = some (.slice el)) (hs : 0 < T.size el) (hb : 0 < T.bytes el)
    {l ys : List (T.U el)} {dep : Dep} {A : Option Addr} {tx : Nat} {xv : Value} {c : Nat} {news : Nat → Nat → Value} {olds : Nat → Nat → Value} {F1 F2 : Nat → Nat → Nat → Prop} {depA : Dep}
    (hA : ArrOk T w e.K el l depA A c (e.fp r) olds F1) (hdep : l = [] ∨ (dep = depA ∧ (depA = .all ∨ depA = .upto 0)))
    (hsrc : Go.Src P (T.size el) tx xv ys.length (newsOf ys.length (T.size el) news) w)
    (hrn : ∀ i j d, i < ys.length → (row T el ys i)[j]? = some d → RowOk T w e.K dep (l.length + i) d (news i j) (F2 i j) ∧ ∃ K, RepD T w K d (news i j))
    (hF2 : ∀ i j b, F2 i j b → S b) (hd2 : ∀ i j i' j' b, F2 i j b → F2 i' j' b → i = i' ∧ j = j')
    (hroom : (l.length + ys.length) * T.bytes el ≤ 140737488355328) :
    ∃ e' w' val, Good W0 M0 e' (s.setO r (some (.arr el (l ++ ys) (ver + 1) nver.kill dep false))) tm w' ∧ Keeps e s w e' (s.setO r (some (.arr el (l ++ ys) (ver + 1) nver.kill dep false))) w' ∧
      RelC e' (s.setO r (some (.arr el (l ++ ys) (ver + 1) nver.kill dep false))) w' (.own ⟨r, ver + 1, none⟩ el none false) val ∧
      (Builtin.append_ #[t, tx] ty #[.slice A l.length c, xv]).run P w = .ok val w' := by
  have hA0 : A = none → c = 0 := fun h => by
    rcases Nat.eq_zero_or_pos c with h0 | h0
    · exact h0
    · obtain ⟨b, off, cs, ell, e1, _⟩ := hA.hblk h0
      rw [h] at e1; cases e1
  have hold : l.length ≠ 0 → ∃ b off, A = some ⟨b, off, none⟩ ∧ ∀ j v, (newsOf l.length (T.size el) olds)[j]? = some v → w.cell? ⟨b, off + j, none⟩ = some v := news_of hT hA.hA hA.hcell
  obtain ⟨A', c', w', g1, g2, g3, g4, g5, g6, g7, g8⟩ := append_mem (P := P) (w := w) (ty := ty) hT hs hb hty hA.hc hA0 (m := ys.length) (olds := newsOf l.length (T.size el) olds) (news := newsOf ys.length (T.size el) news)
    (fun h1 h2 => by obtain ⟨b, off, cs, ell, e1, e2, e3, e4⟩ := hA.hblk h2; exact ⟨b, off, cs, ell, e1, e3, e4⟩) (newsOf_length ..) hold hsrc hroom
  have hAS : ∀ b off, 0 < c → A = some ⟨b, off, none⟩ → e.fp r b := fun b off h2 h3 => by
    obtain ⟨b', off', cs, ell, e1, e2, _⟩ := hA.hblk h2
    rw [h3] at e1
    simp only [Option.some.injEq, Addr.mk.injEq] at e1
    exact e1.1 ▸ e2
  have hsame : ∀ b, b < w.heap.size → ¬ e.fp r b → w'.heap[b]? = w.heap[b]? := fun b hb hn => g7 b hb fun h1 h2 off he => hn (hAS b off h2 he)
  have hlt : ∀ b, e.fp r b → b < w.heap.size := fun b hb => hG.rel.lt b (.inr ⟨r, hb⟩)
  let fp : Nat → Prop := fun b => e.fp r b ∨ S b ∨ (b = w.heap.size ∧ w.heap.size < w'.heap.size)
  obtain ⟨k1, k2, k3⟩ := Rel.upd (w' := w') (x := .arr el (l ++ ys) (ver + 1) nver.kill dep false) hG.rel hG.fr hS (Env.put_upd e r A' c' fp) (fun _ h => h) (fun _ h => .inl h) g3 (fun b hb hn _ => hsame b hb hn) g4 g5 g6
    (fun b hb => by
      rw [Env.put_fp] at hb
      rcases hb with hb | hb | ⟨rfl, hb⟩
      · exact ⟨.inl hb, Nat.lt_of_lt_of_le (hlt b hb) g3⟩
      · exact ⟨.inr (.inl hb), Nat.lt_of_lt_of_le (hS.lt b hb) g3⟩
      · exact ⟨.inr (.inr (Nat.le_refl _)), hb⟩)
    (fun q rng v hq h => by subst hq; exact RelRef.stale ho h) (fun q row col v hq h => by subst hq; exact RelPtr.stale ho h) (fun v h => relMap_arr (l := l0) (ver := ver) (nver := nver) (dep := dep0) (pin := pin) h)
  have hnotA : ∀ b, (∀ b' off, 0 < c → A = some ⟨b', off, none⟩ → b ≠ b') → b < w.heap.size → 0 < c' → ∀ b' off, A' = some ⟨b', off, none⟩ → b ≠ b' := by
    intro b hne hb hc' b' off he
    obtain ⟨b2, off2, cs, ell, e1, e2, _⟩ := g8 hc'
    rw [he] at e1
    simp only [Option.some.injEq, Addr.mk.injEq] at e1
    obtain ⟨rfl, rfl, _⟩ := e1
    rcases e2 with ⟨_, h0, e2⟩ | ⟨e2, _⟩
    · exact hne _ _ h0 e2
    · omega
  have hro' : ∀ i j d, i < l.length → (row T el l i)[j]? = some d → RowOk T w' e.K dep i d (olds i j) (fun b => F1 i j b ∧ i < l.length) := fun i j d hi hd => by
    rcases hdep with rfl | ⟨rfl, hd2⟩
    · exact absurd hi (Nat.not_lt_zero _)
    · have h1 := (hA.hsub i j d hi hd).mono (w' := w') (fun _ h => h) (fun b hb => hsame b (hG.rel.lt b (.inl hb)) (fun h => hG.rel.disK _ _ h hb)) (fun b hb => g7 b (hlt b (hA.hF i j b hb).1) fun _ _ off he => (hA.hF i j b hb).2 _ _ he rfl)
      rcases hd2 with rfl | rfl
      · exact OwnD.wider h1 fun b hb => ⟨hb, hi⟩
      · exact h1.imp (fun x => absurd x.1 (Nat.not_lt_zero _)) id
  have hrn' : ∀ i j d, i < ys.length → (row T el ys i)[j]? = some d → RowOk T w' e.K dep (l.length + i) d (news i j) (fun b => F2 i j b ∧ i < ys.length) := fun i j d hi hd => by
    have h1 := (hrn i j d hi hd).1.mono (w' := w') (fun _ h => h) (fun b hb => hsame b (hG.rel.lt b (.inl hb)) (fun h => hG.rel.disK _ _ h hb)) (fun b hb => hsame b (hS.lt b (hF2 i j b hb)) (hS.notFp _ _ (hF2 i j b hb)))
    cases dep with
    | all => exact OwnD.wider h1 fun b hb => ⟨hb, hi⟩
    | upto m => exact h1.imp (fun x => ⟨x.1, x.2.wider fun b hb => ⟨hb, hi⟩⟩) id
    | hole m => exact h1.imp id fun x => OwnD.wider x fun b hb => ⟨hb, hi⟩
  obtain ⟨vals, F, hA'⟩ := app_arr (w' := w') (K := e.K) (dep := dep) (S := fp) hT g2 (fun hc' => by
      obtain ⟨b, off, cs, ell, e1, e2, e3, e4, e5, e6⟩ := g8 hc'
      refine ⟨b, off, cs, ell, e1, ?_, e3, e4, e5, e6⟩
      rcases e2 with ⟨h1, h2, h3⟩ | ⟨rfl, h2⟩
      · exact .inl (hAS b off h2 h3)
      · exact .inr (.inr ⟨rfl, h2⟩)) hro' hrn' (fun i j b hb => ⟨.inl (hA.hF i j b hb.1).1, hnotA b (fun b' off _ he => (hA.hF i j b hb.1).2 b' off he) (hlt b (hA.hF i j b hb.1).1) (by have := hb.2; omega)⟩)
      (fun i j b hb => ⟨.inr (.inl (hF2 i j b hb.1)), hnotA b (fun b' off h0 he hbb => by subst hbb; exact hS.notFp r b (hF2 i j b hb.1) (hAS b off h0 he)) (hS.lt b (hF2 i j b hb.1)) (by have := hb.2; omega)⟩)
      (fun i j i' j' b h h' => hA.hdis _ _ _ _ _ h.1 h'.1) (fun i j i' j' b h h' => hd2 _ _ _ _ _ h.1 h'.1) (fun i j i' j' b h h' => hS.notFp r b (hF2 _ _ _ h'.1) (hA.hF _ _ _ h.1).1)
  refine ⟨_, w', _, ⟨k3 ⟨vals, F, ?_⟩, k2, hG.pin.upd (Env.put_upd ..).adr (Env.put_upd ..).cap ⟨fun _ _ _ _ _ h => (by cases h), fun _ _ h => (by cases h)⟩⟩, k1, own_rel (setO_objs _ _ _) el (Env.put_adr ..) (Env.put_cap ..), ?_⟩
  · rw [Env.put_adr, Env.put_cap]
    have : (e.put r A' c' fp).fp r = fp := by funext b; simp [Env.put]
    rw [this]
    exact hA'
  · rw [g1, List.length_append]

/-- What a row of an object leads to is taken out of the object. -/
theorem OwnD.header {d : D T.U} {v : Value} {S : Nat → Prop} (h : OwnD T w d v S) (hd : d.isArr = true) : ∃ A n c, v = .slice A n c ∧ ∀ t l, d = .arr t l → n = l.length := by
  cases d with
  | arr t l => obtain ⟨A, c, _, _, he, _⟩ := (OwnD.arr_iff (fun _ => False)).1 h; exact ⟨A, _, c, he, fun t2 l2 e => by cases e; rfl⟩
  | nil => cases h; exact ⟨none, 0, 0, rfl, fun t l e => by cases e⟩
  | fn t x => cases h
  | _ => cases hd
theorem Good.release (hG : Good W0 M0 e s tm w) {r t i col : Nat} {l : List (T.U t)} {ver : Nat} {nver : NV} {pin : Bool} (ho : s.objs r = some (.arr t l ver nver .all pin)) (hi : i < l.length) {d : D T.U} (hd : (row T t l i)[col]? = some d)
    {ad : Addr} (had : e.adr r = some ad) (hsp : ad.spot = none) {v : Value} (hv : w.cell? ⟨ad.block, ad.off + i * T.size t + col, none⟩ = some v) :
    ∃ e1 S, Good W0 M0 e1 (s.setO r (some (.arr t l ver nver.kill (.hole i) pin))) tm w ∧ Keeps e s w e1 (s.setO r (some (.arr t l ver nver.kill (.hole i) pin))) w ∧ e1.K = e.K ∧ Loose W0 M0 e1 w S ∧ OwnD T w d v S := by
  obtain ⟨vals, F, hA⟩ := hG.rel.objs _ _ ho
  obtain ⟨b0, off0, sp0⟩ := ad
  simp only at hsp hv
  subst hsp
  have hvv : v = vals i col := by
    have := hA.vals_at had hi hd
    rw [hv] at this
    exact Option.some.inj this
  have hown : OwnD T w d v (F i col) := by rw [hvv]; exact hA.hsub i col d hi hd
  let e1 : Env := { e with fp := fun r' b => e.fp r' b ∧ ¬ (r' = r ∧ F i col b) }
  have hrefI : ∀ q : Ref, q.r = r → q.p = none → refInfo (s.setO r (some (.arr t l ver nver.kill (.hole i) pin))) q = refInfo s q := fun q hq hp => by
    subst hq
    unfold refInfo
    rw [setO_objs, ho]
    simp only [hp]
  have hrefS : ∀ q : Ref, q.r = r → Live s q → ∀ x, q.p = some x → refInfo (s.setO r (some (.arr t l ver nver.kill (.hole i) pin))) q = none := fun q hq hl x hp => by
    subst hq
    obtain ⟨o, h1, h2⟩ := hl
    have h2 := h2 _ _ _ _ _ _ (Option.some.inj (h1.symm.trans ho))
    unfold refInfo
    rw [setO_objs]
    simp only [hp] at h2 ⊢
    rw [if_neg (NV.has_kill (by simpa using h2))]
  have hlive : ∀ q : Ref, q.r = r → Live s q → Live (s.setO r (some (.arr t l ver nver.kill (.hole i) pin))) q := fun q hq hl => by
    subst hq
    obtain ⟨o, h1, h2⟩ := hl
    have h2 := h2 _ _ _ _ _ _ (Option.some.inj (h1.symm.trans ho))
    refine ⟨_, setO_objs _ _ _, fun _ _ _ _ _ _ hx => by cases hx; revert h2; cases q.p <;> (simp only [NV.kill]; omega)⟩
  obtain ⟨k1, k2, k3⟩ := Rel.upd (e' := e1) (w' := w) (x := .arr t l ver nver.kill (.hole i) pin) hG.rel hG.fr Loose.none (r := r) ⟨fun _ _ => rfl, fun _ _ => rfl, fun r' b h => ⟨fun x => x.1, fun x => ⟨x, fun y => h y.1⟩⟩⟩ (fun _ h => h) (fun _ h => .inl h) (Nat.le_refl _) (fun _ _ _ _ => rfl) rfl rfl (Oth.refl _)
    (fun b hb => ⟨.inl hb.1, hG.rel.lt b (.inr ⟨_, hb.1⟩)⟩)
    (fun q rng v hq h => by
      refine ⟨hlive q hq h.1, h.2.1, fun t' l' hi' => ?_⟩
      cases hp : q.p with
      | none =>
        rw [hrefI q hq hp] at hi'
        obtain ⟨A, c, h1, h2⟩ := h.2.2 t' l' hi'
        refine ⟨A, c, ?_, h2⟩
        unfold RefAt at *
        simp only [hp] at *
        exact h1
      | some x => rw [hrefS q hq h.1 x hp] at hi'; cases hi')
    (fun q row col v hq h => by
      refine ⟨hlive q hq h.1, h.2.1, (fun cs hc => by rw [hq, setO_objs] at hc; cases hc), fun t' l' hi' => ?_⟩
      cases hp : q.p with
      | none =>
        rw [hrefI q hq hp] at hi'
        obtain ⟨A, c, c2, h1, h2⟩ := h.2.2.2 t' l' hi'
        refine ⟨A, c, c2, ?_, h2⟩
        unfold RefAt at *
        simp only [hp] at *
        exact h1
      | some x => rw [hrefS q hq h.1 x hp] at hi'; cases hi')
    (fun v h => relMap_arr (t := t) (l := l) (ver := ver) (nver := nver) (dep := .all) (pin := pin) h)
  refine ⟨e1, F i col, ⟨k3 ⟨vals, fun i' j' b => i' ≠ i ∧ F i' j' b, ?_⟩, k2, hG.pin.upd (fun _ _ => rfl) (fun _ _ => rfl) ⟨fun _ _ _ _ _ h => (by cases h; exact hG.pin.arr _ _ _ _ _ _ ho), fun _ _ h => (by cases h)⟩⟩, k1, rfl, ⟨fun b hb => hG.rel.disK _ _ (hA.hF _ _ _ hb).1, fun r' b hb h => ?_, fun b hb => hG.rel.lt b (.inr ⟨_, (hA.hF _ _ _ hb).1⟩), fun b hb => hG.fr.own _ _ (hA.hF _ _ _ hb).1⟩, hown⟩
  · refine ⟨hA.hc, hA.hA, fun hp => ?_, hA.hcell, fun i' j' d' hi' hd' => ?_, fun i' j' b hb => ?_, fun i' j' i2 j2 b h1 h2 => hA.hdis _ _ _ _ _ h1.2 h2.2⟩
    · obtain ⟨b, off, cs, el, e1, e2, e3, e4⟩ := hA.hblk hp
      exact ⟨b, off, cs, el, e1, ⟨e2, fun ⟨_, hF⟩ => (hA.hF _ _ _ hF).2 _ _ e1 rfl⟩, e3, e4⟩
    · by_cases h : i' = i
      · cases hd' : d'.isArr with
        | true =>
          refine .inl ⟨h, hd', ?_⟩
          have h1 : OwnD T w d' (vals i' j') (F i' j') := hA.hsub i' j' d' hi' (by assumption)
          exact h1.header hd'
        | false =>
          refine .inr ?_
          have h1 : OwnD T w d' (vals i' j') (F i' j') := hA.hsub i' j' d' hi' (by assumption)
          exact flat_own h1.rep hd'
      · exact .inr (OwnD.wider (hA.hsub i' j' d' hi' hd') fun b hb => ⟨h, hb⟩)
    · exact ⟨⟨(hA.hF _ _ _ hb.2).1, fun ⟨_, hF⟩ => hb.1 (hA.hdis _ _ _ _ _ hb.2 hF).1⟩, (hA.hF _ _ _ hb.2).2⟩
  · have hr' := hG.rel.dis _ _ _ h.1 (hA.hF _ _ _ hb).1
    exact h.2 ⟨hr', hb⟩
end
end Go.Sm
end

section
set_option linter.unusedVariables false
namespace Go.Sm
variable {T : Tbl} {α : Type}
section
variable {Ok : Nat → List (A T) → Res T → Prop} {s s' : St T} {a : α} {P : Program} {e e' : Env} {w w' W0 : World} {M0 : Gh} {tm : Array Value}

/-- What an operation leaves: a state of the same registers, and a cell to be put. -/
def Made (Ok : Nat → List (A T) → Res T → Prop) (P : Program) (W0 : World) (M0 : Gh) (e : Env) (s : St T) (tm : Array Value) (w : World) (k : C T → M T α) (a : α) (s' : St T) (m : Sem Value) : Prop :=
  ∃ c s1 e1 w1 val, Rn Ok (k c) s1 a s' ∧ Good W0 M0 e1 s1 tm w1 ∧ Keeps e s w e1 s1 w1 ∧ s1.regs = s.regs ∧ RelC e1 s1 w1 c val ∧ m.run P w = .ok val w1

theorem rn_appRows {own : Bool} {K : Nat → Prop} {el n : Nat} {ys : List (T.U el)} {vals : Nat → Nat → Value} {F : Nat → Nat → Nat → Prop}
    (h : ∀ i j d, i < ys.length → (row T el ys i)[j]? = some d → (own = true → OwnD T w d (vals i j) (F i j)) ∧ (own = false → RepD T w K d (vals i j))) :
    ∀ i j d, i < ys.length → (row T el ys i)[j]? = some d → RowOk T w K (depOf own) (n + i) d (vals i j) (F i j) ∧ ∃ K, RepD T w K d (vals i j) := by
  intro i j d hi hd
  obtain ⟨h1, h2⟩ := h i j d hi hd
  cases own with
  | true => exact ⟨h1 rfl, _, (h1 rfl).rep⟩
  | false => exact ⟨.inr ⟨Nat.zero_le _, h2 rfl⟩, _, h2 rfl⟩

theorem appendB_ok (hT : TblOk P T) {s1 : St T} {e1 : Env} {S1 : Nat → Prop} (g1 : Good W0 M0 e1 s1 tm w) (g3 : Loose W0 M0 e1 w S1) {dd t tx ty el : Nat} (hty : T.ty t = .slice el) {x : C T} {u xv : Value} (hx : RelC e1 s1 w x u)
    {ys : List (T.U el)} {own : Bool} {news : Nat → Nat → Value} {F2 : Nat → Nat → Nat → Prop} (g7 : Go.Src P (T.size el) tx xv ys.length (newsOf ys.length (T.size el) news) w)
    (g8 : ∀ i j d, i < ys.length → (row T el ys i)[j]? = some d → (own = true → OwnD T w d (news i j) (F2 i j)) ∧ (own = false → RepD T w e1.K d (news i j)))
    (g9 : ∀ i j b, F2 i j b → S1 b) (g10 : ∀ i j i' j' b, F2 i j b → F2 i' j' b → i = i' ∧ j = j') (g11 : flat T el = true → own = true) {k : C T → M T α} (h : Rn Ok (appendB dd el x ys own k) s1 a s') :
    Made Ok P W0 M0 e1 s1 tm w k a s' (Builtin.append_ #[t, tx] ty #[u, xv]) := by
  have hund := hT.slice _ _ hty
  unfold appendB at h
  split at h
  · -- nil
    obtain ⟨r1, r2, r3, h⟩ := roomM_inv h
    have hX := rn_newO h
    clear h
    obtain ⟨⟨h0, h0b⟩, h⟩ := hX
    cases hx
    obtain ⟨e', w', val, q1, q2, q3, q4⟩ := Good.appNew (l := ([] : List (T.U el))) (A := none) (c := 0) (olds := fun _ _ => .tuple #[]) (F1 := fun _ _ _ => False) (t := t) (ty := ty) hT g1 g3 h0 hund r2 r1 (Nat.le_refl _) (fun _ => rfl)
      (fun _ h => absurd h (Nat.lt_irrefl _)) (fun h => absurd rfl h) g7 (fun i j d hi => absurd hi (Nat.not_lt_zero _)) (rn_appRows (n := 0) g8) (fun _ _ _ h => h.elim) (fun i j b hb => ⟨g9 i j b hb, fun _ _ h => by cases h⟩) (fun _ _ _ _ _ h => h.elim) g10 (fun _ _ _ _ _ h => h.elim)
      (by simpa using r3)
    exact ⟨_, _, e', w', val, h, q1, q2, rfl, q3, q4⟩
  · -- full
    rename_i t' l
    have hX := rn_cond h
    clear h
    obtain ⟨hf, h⟩ := hX
    have hX := rn_withL h
    clear h
    obtain ⟨rfl, h⟩ := hX
    rcases rn_br h with ⟨h1, h⟩ | ⟨_, h⟩
    · obtain ⟨r1, r2, r3, h⟩ := roomM_inv h
      have hX := rn_newO h
      clear h
      obtain ⟨⟨h0, h0b⟩, h⟩ := hX
      obtain ⟨Ax, rfl, hr⟩ := hx
      obtain ⟨A, c, vals, he, k2, k3, k4, k5⟩ := hr.arr_inv
      simp only [Value.slice.injEq, true_and] at he
      obtain ⟨rfl, rfl⟩ := he
      have hne : ys.length ≠ 0 := fun h => by rw [List.length_eq_zero_iff] at h; subst h; simp at h1
      have hown := g11 hf
      subst hown
      obtain ⟨e', w', val, q1, q2, q3, q4⟩ := Good.appNew (l := l) (A := Ax) (c := l.length) (olds := vals) (F1 := fun _ _ _ => False) (dep := .all) (F2 := fun _ _ _ => False) (t := t) (ty := ty) hT g1 g3 h0 hund r2 r1 (Nat.le_refl _)
        (fun h => by
          rcases Nat.eq_zero_or_pos l.length with h0 | h0
          · exact h0
          · obtain ⟨b, off, he⟩ := k3 (fun h => by subst h; exact absurd h0 (Nat.lt_irrefl _))
            rw [h] at he; cases he)
        (fun h _ => absurd h (by omega)) (news_of hT k3 fun i j d hi hd => by obtain ⟨b, off, e1, _, e3⟩ := k4 i j d hi hd; exact ⟨b, off, e1, e3⟩) g7
        (fun i j d hi hd => flat_own (k5 i j d hi hd) (flat_row hT hf hd)) (fun i j d hi hd => ⟨flat_own ((g8 i j d hi hd).1 rfl).rep (flat_row hT hf hd), _, ((g8 i j d hi hd).1 rfl).rep⟩)
        (fun _ _ _ h => h.elim) (fun _ _ _ h => h.elim) (fun _ _ _ _ _ h => h.elim) (fun _ _ _ _ _ h => h.elim) (fun _ _ _ _ _ h => h.elim)
        (by rw [← List.length_append]; exact r3)
      exact ⟨_, _, e', w', val, h, q1, q2, rfl, q3, q4⟩
    · exact (rn_fail h).elim
  · -- one's own
    rename_i q t0 rng
    replace h := rn_getO h
    split at h
    · rename_i t' l0 ver nver dep pin ho
      split at h
      · rename_i hp
        have hX := rn_cond h
        clear h
        obtain ⟨h0, h⟩ := hX
        simp only [Bool.and_eq_true, Bool.not_eq_true'] at h0
        have hX := rn_withL h
        clear h
        obtain ⟨rfl, h⟩ := hX
        have hX := rn_cut h
        clear h
        obtain ⟨l, hcut, h⟩ := hX
        have hver := nbeq h0.1
        have hi : refInfo s1 q = some ⟨t', l0⟩ := by unfold refInfo; simp only [ho, hp]; rw [if_pos hver]
        obtain ⟨A, c, hat, hsl⟩ := hx.2.2 _ _ hi
        unfold RefAt at hat
        simp only [hp] at hat
        obtain ⟨rfl, rfl⟩ := hat
        obtain ⟨vals0, F0, hA0⟩ := g1.rel.objs _ _ ho
        have hq : q = ⟨q.r, ver, none⟩ := by cases q; simp at hp hver; subst hp; subst hver; rfl
        have key : ∀ (own' : Bool), own' = own → (l = [] ∨ depOf own' = .all) → dep = .all → Rn Ok (roomM t' (l ++ ys).length (.setO q.r (some (.arr t' (l ++ ys) (ver + 1) nver.kill (depOf own') false)) (k (.own ⟨q.r, ver + 1, none⟩ t' none false)))) s1 a s' →
            Made Ok P W0 M0 e1 s1 tm w k a s' (Builtin.append_ #[t, tx] ty #[u, xv]) := by
          intro own' hown hl hdep hk
          subst hown
          subst hdep
          obtain ⟨r1, r2, r3, hk⟩ := roomM_inv hk
          replace hk := rn_setO hk
          have hown : OwnD T w (.arr t' l0) (.slice (e1.adr q.r) l0.length (e1.cap q.r)) (e1.fp q.r) := (OwnD.arr_iff e1.K).2 ⟨_, _, vals0, F0, rfl, hA0⟩
          obtain ⟨A', c', vals', F', rfl, hA'⟩ := (OwnD.arr_iff e1.K).1 (hown.cut hcut hsl)
          obtain ⟨e', w', val, q1, q2, q3, q4⟩ := Good.appOld (t := t) (ty := ty) (dep := depOf own') hT g1 g3 ho hund r2 r1 hA' (hl.imp id fun h => ⟨h, .inl rfl⟩) g7 (rn_appRows g8) g9 g10 (by rw [← List.length_append]; exact r3)
          exact ⟨_, _, e', w', val, hk, q1, q2, rfl, q3, q4⟩
        split at h
        · exact key true rfl (.inr rfl) rfl h
        · exact key false rfl (.inl rfl) rfl h
        · have hX := rn_cond h
          clear h
          obtain ⟨hr, h⟩ := hX
          cases rng with
          | some x => cases hr
          | none =>
            obtain ⟨r1, r2, r3, h⟩ := roomM_inv h
            have hpin := h0.2
            subst hpin
            replace h := rn_setO h
            replace h := rn_setO h
            obtain ⟨e2, k1, k2, k3, k4⟩ := g1.share ho
            obtain ⟨vals, F, hA⟩ := k1.rel.objs _ _ (setO_objs _ _ _)
            simp only [IsCut, SlOf] at hcut hsl
            subst hcut
            subst hsl
            obtain ⟨e', w', val, q1, q2, q3, q4⟩ := Good.appOld (t := t) (ty := ty) (dep := .upto 0) (F2 := fun _ _ _ => False) hT k1 Loose.none (setO_objs _ _ _) hund r2 r1 hA (.inr ⟨rfl, .inr rfl⟩) g7
              (fun i j d hi hd => by
                have := ((g8 i j d hi hd).2 rfl).mono (w' := w) k2.K fun _ _ => rfl
                exact ⟨.inr ⟨Nat.zero_le _, this⟩, _, this⟩) (fun _ _ _ h => h.elim) (fun _ _ _ _ _ h => h.elim) (by rw [← List.length_append]; exact r3)
            rw [k3, k4] at q4
            exact ⟨_, _, e', w', val, h, q1, k2.trans q2, rfl, q3, q4⟩
        · have hX := rn_cond h
          clear h
          obtain ⟨hr, h⟩ := hX
          cases rng with
          | some x => cases hr
          | none =>
            obtain ⟨r1, r2, r3, h⟩ := roomM_inv h
            replace h := rn_setO h
            simp only [IsCut, SlOf] at hcut hsl
            subst hcut
            subst hsl
            obtain ⟨e', w', val, q1, q2, q3, q4⟩ := Good.appOld (t := t) (ty := ty) (dep := .upto 0) (F2 := fun _ _ _ => False) hT g1 Loose.none ho hund r2 r1 hA0 (.inr ⟨rfl, .inr rfl⟩) g7
              (fun i j d hi hd => by
                have := (g8 i j d hi hd).2 rfl
                exact ⟨.inr ⟨Nat.zero_le _, this⟩, _, this⟩) (fun _ _ _ h => h.elim) (fun _ _ _ _ _ h => h.elim) (by rw [← List.length_append]; exact r3)
            exact ⟨_, _, e', w', val, h, q1, q2, rfl, q3, q4⟩
        · exact (rn_fail h).elim
      · rename_i i col hp
        have hX := rn_cond h
        clear h
        obtain ⟨h0, h⟩ := hX
        simp only [Bool.and_eq_true] at h0
        obtain ⟨⟨h01, hf⟩, h03⟩ := h0
        have hver := nbeq h01
        have hX := rn_must h
        clear h
        obtain ⟨hi, h⟩ := hX
        split at h
        · rename_i t2 l2 hd
          have hX := rn_withL h
          clear h
          obtain ⟨rfl, h⟩ := hX
          have hX := rn_cut h
          clear h
          obtain ⟨l, hcut, h⟩ := hX
          obtain ⟨r1, r2, r3, h⟩ := roomM_inv h
          have h := rn_setO h
          have hX := rn_newO h
          clear h
          obtain ⟨⟨h0, h0b⟩, h⟩ := hX
          have hd : (row T t' l0 i)[col]? = some (.arr t2 l2) := hd
          have hinf : refInfo s1 q = some ⟨t2, l2⟩ := by
            unfold refInfo; simp only [ho, hp]; rw [if_pos (NV.has_of hver), if_pos hi]
            rw [hd]
          obtain ⟨A, c, hat, hsl⟩ := hx.2.2 _ _ hinf
          unfold RefAt at hat
          simp only [hp] at hat
          obtain ⟨t3, l3, ver3, nver3, dep3, pin3, b, off, n, k1, k2, k3, k4⟩ := hat
          rw [ho] at k1
          cases k1
          obtain ⟨e2, S, q1, q2, q3, q4, q5⟩ := g1.release ho hi hd k3 rfl k4
          have hn : n = l2.length := by
            obtain ⟨_, _, _, _, he, _⟩ := (OwnD.arr_iff e1.K).1 q5
            simp only [Value.slice.injEq] at he
            exact he.2.1
          subst hn
          obtain ⟨A', c', vals', F', rfl, hA'⟩ := (OwnD.arr_iff e2.K).1 (q5.cut hcut hsl)
          have hown := g11 hf
          subst hown
          obtain ⟨e', w', val, p1, p2, p3, p4⟩ := Good.appNew (l := l) (A := A') (c := c') (olds := vals') (F1 := fun _ _ _ => False) (dep := .all) (F2 := fun _ _ _ => False) (t := t) (ty := ty) hT q1 q4 h0 hund r2 r1 hA'.hc
            (fun h => by
              rcases Nat.eq_zero_or_pos c' with h0 | h0
              · exact h0
              · obtain ⟨b, off, cs, ell, e1, _⟩ := hA'.hblk h0
                rw [h] at e1; cases e1)
            (fun _ h => by obtain ⟨b, off, cs, ell, e1, e2, e3, e4⟩ := hA'.hblk h; exact ⟨b, off, cs, ell, e1, e2, e3, e4⟩) (news_of hT hA'.hA hA'.hcell) g7
            (fun i j d hi hd => flat_own (K := e2.K) (w := w) (OwnD.rep (hA'.hsub i j d hi hd) |>.mono (K' := fun _ => True) (fun _ _ => trivial) (fun _ _ => rfl) |> fun x => flat_rep x (flat_row hT hf hd)) (flat_row hT hf hd))
            (fun i j d hi hd => ⟨flat_own ((g8 i j d hi hd).1 rfl).rep (flat_row hT hf hd), _, ((g8 i j d hi hd).1 rfl).rep⟩)
            (fun _ _ _ h => h.elim) (fun _ _ _ h => h.elim) (fun _ _ _ _ _ h => h.elim) (fun _ _ _ _ _ h => h.elim) (fun _ _ _ _ _ h => h.elim)
            (by rw [← List.length_append]; exact r3)
          exact ⟨_, _, e', w', val, h, p1, q2.trans p2, rfl, p3, p4⟩
        · exact (rn_fail h).elim
    · exact (rn_fail h).elim
  · exact (rn_fail h).elim
/-- What a slice yields to be laid on. -/
theorem src_slice {tx e' n c : Nat} {A : Option Addr} {size : Nat} {news : List Value} (hk : P.underlying tx = some (.slice e')) (hl : news.length = n * size)
    (h : n ≠ 0 → ∃ b off, A = some ⟨b, off, none⟩ ∧ ∀ j v, news[j]? = some v → w.cell? ⟨b, off + j, none⟩ = some v) (h1 : ∀ v ∈ news, v.oneCell' = true) : Go.Src P size tx (.slice A n c) n news w := by
  rcases Nat.eq_zero_or_pos n with rfl | hn
  · have hn0 : news = [] := List.length_eq_zero_iff.1 (by rw [hl, Nat.zero_mul])
    subst hn0
    cases A with
    | none => exact Go.Src.ofNil w hk c
    | some a => exact Go.Src.ofSlice w hk a 0 c [] (by simp) (fun _ _ h => by cases h) (fun _ h => by cases h)
  · obtain ⟨b, off, rfl, h2⟩ := h (by omega)
    exact Go.Src.ofSlice w hk ⟨b, off, none⟩ n c news hl (fun j u hj => by rw [addr_add]; exact h2 j u hj) h1
theorem appendM_ok (hT : TblOk P T) (hG : Good W0 M0 e s tm w) {dd t ty el : Nat} (hty : T.ty t = .slice el) {x y : C T} {u v : Value} (hx : RelC e s w x u) (hy : RelC e s w y v) {k : C T → M T α} (h : Rn Ok (appendM dd el x y k) s a s') :
    Made Ok P W0 M0 e s tm w k a s' (Builtin.append_ #[t, t] ty #[u, v]) := by
  unfold appendM at h
  have hX := elemsM_ok hT hG hy h
  clear h
  obtain ⟨ys, own, s1, e1, S1, A2, c2, news, F2, h, g1, g2, g3, g4, g5, g6, g7, g8, g9, g10, g11⟩ := hX
  subst g6
  obtain ⟨c, s2, e2, w2, val, r1, r2, r3, r4, r5, r6⟩ := appendB_ok (ty := ty) hT g1 g3 hty (g2.c hx) (src_slice (hT.slice _ _ hty) (newsOf_length ..) g7 (news_one hT fun i j d hi hd => (rn_appRows (n := 0) g8 i j d hi hd).2)) g8 g9 g10 g11 h
  exact ⟨c, s2, e2, w2, val, r1, r2, g2.trans r3, r4.trans g5, r5, r6⟩
end
end Go.Sm
end

section
set_option linter.unusedVariables false
namespace Go.Sm
variable {T : Tbl} {α : Type}
section
variable {Ok : Nat → List (A T) → Res T → Prop} {s s' : St T} {a : α} {P : Program} {e e' : Env} {w w' W0 : World} {M0 : Gh} {tm : Array Value}

/-- A world in which one row has been rewritten. -/
structure RowW (w w' : World) (b : Nat) (cs : Array Value) (el : Nat × Bool) : Prop where
  size : w'.heap.size = w.heap.size
  blk : w'.heap[b]? = some (cellsE cs el)
  oth : ∀ b', b' ≠ b → w'.heap[b']? = w.heap[b']?
  os : w'.os = w.os
  tape : w'.tape = w.tape
  output : Oth w w'
theorem RowW.set {b : Nat} {old cs : Array Value} {el : Nat × Bool} (h : w.heap[b]? = some (cellsE old el)) (hs : cs.size = old.size) : RowW w (w.setRow b cs) b cs el :=
  ⟨by show (w.heap.modify _ _).size = _; simp, setRow_E h hs, fun b' hb => by simp only [World.setRow, Array.getElem?_modify]; rw [if_neg (fun h => hb h.symm)], rfl, rfl, Oth.setRow h hs⟩

theorem run_storeAt (hT : TblOk P T) {t b off : Nat} {el : Nat × Bool} {cs : Array Value} {v : Value} (hb : w.heap[b]? = some (cellsE cs el)) (hs : 0 < T.size t) (hl : v.cells.size = T.size t) (hfit : off + v.cells.size ≤ cs.size) (h1 : ∀ u ∈ v.cells.toList, u.oneCell' = true) :
    ∃ w', (Instr.storeAt t (.pointer (some ⟨b, off, none⟩)) v).run P w = .ok () w' ∧ RowW w w' b (putAt cs.toList off v.cells.toList).toArray el := by
  refine ⟨_, ?_, RowW.set hb (by simp only [List.size_toArray]; rw [putAt_length _ _ _ (by simpa using hfit)]; simp)⟩
  have hst := run_storeCells_E P b off el v.cells.toList 0 cs w hb (by simpa using hfit) h1
  simp only [Instr.storeAt, Instr.sureAddr, storeVar, Sem.run_bind, Sem.run_pure, Result.andThen_ok, run_size hT hs, hl]
  simp only [ne_eq, not_true_eq_false, if_false, Sem.run_bind, Sem.run_pure, Result.andThen_ok]
  rw [hst]
  simp [putAt]

theorem ArrOk.store (hT : TblOk P T) {K K' : Nat → Prop} {t : Nat} {l : List (T.U t)} {dep dep' : Dep} {A : Option Addr} {c : Nat} {S S' : Nat → Prop} {vals : Nat → Nat → Value} {F : Nat → Nat → Nat → Prop} (h : ArrOk T w K t l dep A c S vals F)
    {rw col b off : Nat} {el : Nat × Bool} {cs : Array Value} (hrw : rw < l.length) (hA : A = some ⟨b, off, none⟩) (hcs : w.heap[b]? = some (cellsE cs el)) {x : T.U t} {ds : List (D T.U)} {us : List Value} (hx : T.dget t x = putAt (row T t l rw) col ds)
    (hfit : col + ds.length ≤ T.size t) (hul : us.length = ds.length) {G : Nat → Nat → Prop}
    (hb : w'.heap[b]? = some (cellsE (putAt cs.toList (off + rw * T.size t + col) us).toArray el))
    (hrow : ∀ j d, (T.dget t x)[j]? = some d → RowOk T w' K' dep' rw d (if col ≤ j ∧ j < col + us.length then us.getD (j - col) (.tuple #[]) else vals rw j) (G j))
    (hoth : ∀ i j d, i < l.length → i ≠ rw → (row T t l i)[j]? = some d → RowOk T w' K' dep' i d (vals i j) (F i j))
    (hS : ∀ b, S b → S' b) (hG : ∀ j b', G j b' → S' b' ∧ b' ≠ b) (hdr : ∀ j j' b', G j b' → G j' b' → j = j') (hd : ∀ i j j' b', i ≠ rw → F i j b' → ¬ G j' b') :
    ∃ vals' F', ArrOk T w' K' t (l.set rw x) dep' A c S' vals' F' := by
  have hpos : 0 < c := Nat.lt_of_lt_of_le (Nat.lt_of_le_of_lt (Nat.zero_le _) hrw) h.hc
  have hsz : off + c * T.size t ≤ cs.size ∧ S b := by
    obtain ⟨b', off', cs', el', e1, e2, e3, e4⟩ := h.hblk hpos
    rw [hA] at e1
    simp only [Option.some.injEq, Addr.mk.injEq] at e1
    obtain ⟨rfl, rfl, _⟩ := e1
    obtain rfl := cellsE_cs (hcs.symm.trans e3)
    exact ⟨e4, e2⟩
  have hrl : rw * T.size t + T.size t ≤ c * T.size t := by
    have : (rw + 1) * T.size t ≤ c * T.size t := Nat.mul_le_mul_right _ (Nat.lt_of_lt_of_le hrw h.hc)
    rw [Nat.add_mul] at this
    omega
  have hpl : off + rw * T.size t + col + us.length ≤ cs.toList.length := by simp only [Array.length_toList]; omega
  have hrowx : row T t (l.set rw x) rw = T.dget t x := by
    unfold Go.Sm.row
    rw [List.getD_eq_getElem?_getD, List.getElem?_set_self hrw]
    rfl
  have hrowo : ∀ i, i ≠ rw → row T t (l.set rw x) i = row T t l i := fun i hi => by
    unfold Go.Sm.row
    rw [List.getD_eq_getElem?_getD, List.getElem?_set_ne (fun h => hi h.symm), ← List.getD_eq_getElem?_getD]
  refine ⟨fun i j => if i = rw then (if col ≤ j ∧ j < col + us.length then us.getD (j - col) (.tuple #[]) else vals rw j) else vals i j, fun i j b' => if i = rw then G j b' else F i j b', by simpa using h.hc, fun _ => ⟨b, off, hA⟩, fun _ => ⟨b, off, _, el, hA, hS b hsz.2, hb, ?_⟩, fun i j d hi hd' => ?_, fun i j d hi hd' => ?_, fun i j b' hb' => ?_, fun i j i' j' b' h1 h2 => ?_⟩
  · simp only [List.size_toArray]
    rw [putAt_length _ _ _ hpl]
    simpa using hsz.1
  · simp only [List.length_set] at hi
    have hj := row_len hT hd'
    have hold : ∃ d0, (row T t l i)[j]? = some d0 := by
      have : (row T t l i).length = T.size t := by unfold Go.Sm.row; exact hT.len _ _
      exact ⟨_, List.getElem?_eq_getElem (by omega)⟩
    obtain ⟨d0, hd0⟩ := hold
    obtain ⟨b', off', e1, e2⟩ := h.hcell i j d0 hi hd0
    rw [hA] at e1
    simp only [Option.some.injEq, Addr.mk.injEq] at e1
    obtain ⟨rfl, rfl, _⟩ := e1
    refine ⟨b, off, hA, ?_⟩
    simp only [World.cell?, hb, hcs, Option.isSome_none, Bool.false_eq_true, if_false] at e2 ⊢
    simp only [List.getElem?_toArray]
    rw [putAt_get _ _ _ hpl]
    by_cases hir : i = rw
    · subst hir
      rw [if_pos (rfl : i = i)]
      by_cases hjc : col ≤ j ∧ j < col + us.length
      · rw [if_neg (by omega), if_pos (by omega), if_pos hjc]
        rw [show off + i * T.size t + j - (off + i * T.size t + col) = j - col from by omega]
        rw [List.getD_eq_getElem?_getD, List.getElem?_eq_getElem (by omega)]
        rfl
      · rw [if_neg hjc]
        by_cases h1 : j < col
        · rw [if_pos (by omega)]; simpa using e2
        · rw [if_neg (by omega), if_neg (by omega)]; simpa using e2
    · rw [if_neg hir]
      have hne : ¬ (off + rw * T.size t + col ≤ off + i * T.size t + j ∧ off + i * T.size t + j < off + rw * T.size t + col + us.length) := by
        rcases Nat.lt_or_gt_of_ne hir with hlt | hlt
        · have : (i + 1) * T.size t ≤ rw * T.size t := Nat.mul_le_mul_right _ hlt
          rw [Nat.add_mul] at this
          omega
        · have : (rw + 1) * T.size t ≤ i * T.size t := Nat.mul_le_mul_right _ hlt
          rw [Nat.add_mul] at this
          omega
      by_cases h1 : off + i * T.size t + j < off + rw * T.size t + col
      · rw [if_pos h1]; simpa using e2
      · rw [if_neg h1, if_neg (by omega)]; simpa using e2
  · simp only [List.length_set] at hi
    by_cases hir : i = rw
    · subst hir
      rw [hrowx] at hd'
      simp only [if_true]
      exact hrow j d hd'
    · rw [hrowo i hir] at hd'
      simp only [hir, if_false]
      exact hoth i j d hi hir hd'
  · by_cases hir : i = rw
    · rw [if_pos hir] at hb'
      obtain ⟨k1, k2⟩ := hG j b' hb'
      exact ⟨k1, fun b2 off2 he => by rw [hA] at he; simp only [Option.some.injEq, Addr.mk.injEq] at he; rw [← he.1]; exact k2⟩
    · rw [if_neg hir] at hb'
      obtain ⟨k1, k2⟩ := h.hF i j b' hb'
      exact ⟨hS _ k1, k2⟩
  · by_cases h3 : i = rw <;> by_cases h4 : i' = rw
    · rw [if_pos h3] at h1; rw [if_pos h4] at h2; exact ⟨h3.trans h4.symm, hdr _ _ _ h1 h2⟩
    · rw [if_pos h3] at h1; rw [if_neg h4] at h2; exact absurd h1 (hd _ _ _ _ h4 h2)
    · rw [if_neg h3] at h1; rw [if_pos h4] at h2; exact absurd h2 (hd _ _ _ _ h3 h1)
    · rw [if_neg h3] at h1; rw [if_neg h4] at h2; exact h.hdis _ _ _ _ _ h1 h2
end
end Go.Sm
end

section
set_option linter.unusedVariables false
namespace Go.Sm
variable {T : Tbl} {α : Type}
section
variable {Ok : Nat → List (A T) → Res T → Prop} {s s' : St T} {a : α} {P : Program} {e e' : Env} {w w' W0 : World} {M0 : Gh} {tm : Array Value}

theorem Env.put_fp_eq (e : Env) (r : Nat) (ad : Option Addr) (c : Nat) (S : Nat → Prop) : (e.put r ad c S).fp r = S := by funext b; simp [Env.put]
/-- A row of an array has been rewritten: what is left to show. -/
theorem Good.setArr (hG : Good W0 M0 e s tm w) {S : Nat → Prop} (hS : Loose W0 M0 e w S) {r t : Nat} {l l' : List (T.U t)} {ver : Nat} {nver nver' : NV} {dep dep' : Dep} {pin : Bool} (ho : s.objs r = some (.arr t l ver nver dep pin)) (hn : nver.n ≤ nver'.n)
    (hll : l'.length = l.length) {b : Nat} {el : Nat × Bool} {cs : Array Value} (hb : e.fp r b) (hw : RowW w w' b cs el)
    (hinf : ∀ q t2 l2, q.r = r → Live s q → refInfo (s.setO r (some (.arr t l' ver nver' dep' pin))) q = some ⟨t2, l2⟩ → ∃ l3 : List (T.U t2), refInfo s q = some ⟨t2, l3⟩ ∧ l3.length = l2.length ∧
      ∀ A c, RefAt e s w q A c → RefAt (e.put r (e.adr r) (e.cap r) fun b => e.fp r b ∨ S b) (s.setO r (some (.arr t l' ver nver' dep' pin))) w' q A c)
    (hx : Keeps e s w (e.put r (e.adr r) (e.cap r) fun b => e.fp r b ∨ S b) (s.setO r (some (.arr t l' ver nver' dep' pin))) w' → ∃ vals F, ArrOk T w' e.K t l' dep' (e.adr r) (e.cap r) (fun b => e.fp r b ∨ S b) vals F) :
    Good W0 M0 (e.put r (e.adr r) (e.cap r) fun b => e.fp r b ∨ S b) (s.setO r (some (.arr t l' ver nver' dep' pin))) tm w' ∧ Keeps e s w (e.put r (e.adr r) (e.cap r) fun b => e.fp r b ∨ S b) (s.setO r (some (.arr t l' ver nver' dep' pin))) w' := by
  have hlive : ∀ q : Ref, q.r = r → Live s q → Live (s.setO r (some (.arr t l' ver nver' dep' pin))) q := fun q hq hl => by
    subst hq
    obtain ⟨o, h1, h2⟩ := hl
    have h2 := h2 _ _ _ _ _ _ (Option.some.inj (h1.symm.trans ho))
    refine ⟨_, setO_objs _ _ _, fun _ _ _ _ _ _ hx => by cases hx; revert h2; cases q.p <;> (simp only [NV.kill]; omega)⟩
  obtain ⟨k1, k2, k3⟩ := Rel.upd (w' := w') (x := .arr t l' ver nver' dep' pin) hG.rel hG.fr hS (Env.put_upd e r (e.adr r) (e.cap r) fun b => e.fp r b ∨ S b) (fun _ h => h) (fun _ h => .inl h) (Nat.le_of_eq hw.size.symm)
    (fun b' _ hn _ => hw.oth b' fun h => hn (h ▸ hb)) hw.os hw.tape hw.output
    (fun b' hb' => by
      rw [Env.put_fp] at hb'
      rw [hw.size]
      rcases hb' with hb' | hb'
      · exact ⟨.inl hb', hG.rel.lt b' (.inr ⟨_, hb'⟩)⟩
      · exact ⟨.inr (.inl hb'), hS.lt b' hb'⟩)
    (fun q rng v hq h => ⟨hlive q hq h.1, h.2.1, fun t2 l2 hi => by
      obtain ⟨l3, h1, h2, h3⟩ := hinf q t2 l2 hq h.1 hi
      obtain ⟨A, c, h4, h5⟩ := h.2.2 _ _ h1
      exact ⟨A, c, h3 A c h4, h2 ▸ h5⟩⟩)
    (fun q row col v hq h => ⟨hlive q hq h.1, h.2.1, (fun cs hc => by rw [hq, setO_objs] at hc; cases hc), fun t2 l2 hi => by
      obtain ⟨l3, h1, h2, h3⟩ := hinf q t2 l2 hq h.1 hi
      obtain ⟨A, c, c2, h4, h5⟩ := h.2.2.2 _ _ h1
      exact ⟨A, c, c2, h3 _ _ h4, h5⟩⟩)
    (fun v h => relMap_arr (t := t) (l := l) (ver := ver) (nver := nver) (dep := dep) (pin := pin) h)
  obtain ⟨vals, F, hA⟩ := hx k1
  exact ⟨⟨k3 ⟨vals, F, by rw [Env.put_adr, Env.put_cap, Env.put_fp_eq]; exact hA⟩, k2, hG.pin.upd (Env.put_upd ..).adr (Env.put_upd ..).cap ⟨fun _ _ _ _ _ h => (by
    cases h
    rw [Env.put_adr, Env.put_cap, hll]
    exact hG.pin.arr _ _ _ _ _ _ ho), fun _ _ h => (by cases h)⟩⟩, k1⟩

theorem Rel.blk (hR : Rel e s tm w) {r t : Nat} {l : List (T.U t)} {ver : Nat} {nver : NV} {dep : Dep} {pin : Bool} (ho : s.objs r = some (.arr t l ver nver dep pin)) {i : Nat} (hi : i < l.length) {b off : Nat} (hA : e.adr r = some ⟨b, off, none⟩) :
    ∃ cs el, w.heap[b]? = some (cellsE cs el) ∧ off + e.cap r * T.size t ≤ cs.size ∧ e.fp r b ∧ l.length ≤ e.cap r := by
  obtain ⟨vals, F, h⟩ := hR.objs _ _ ho
  obtain ⟨b', off', cs, el, e1, e2, e3, e4⟩ := h.hblk (Nat.lt_of_lt_of_le (Nat.lt_of_le_of_lt (Nat.zero_le _) hi) h.hc)
  rw [hA] at e1
  simp only [Option.some.injEq, Addr.mk.injEq] at e1
  obtain ⟨rfl, rfl, _⟩ := e1
  exact ⟨cs, el, e3, e4, e2, h.hc⟩

theorem rn_depStore {dep : Dep} {row : Nat} {own : Bool} {k : Dep → M T α} (h : Rn Ok (depStore dep row own k) s a s') :
    ∃ dep', Rn Ok (k dep') s a s' ∧ ((dep = .all ∧ own = true ∧ dep' = .all) ∨ (∃ n, dep = .upto n ∧ own = true ∧ ((row = n ∧ dep' = .upto (n + 1)) ∨ (row ≠ n ∧ dep' = .upto n))) ∨
      (∃ i, dep = .hole i ∧ own = true ∧ ((row = i ∧ dep' = .all) ∨ (row ≠ i ∧ dep' = .hole i))) ∨ (dep = .upto 0 ∧ own = false ∧ dep' = .upto 0)) := by
  unfold depStore at h
  split at h
  · exact ⟨_, h, .inl ⟨rfl, rfl, rfl⟩⟩
  · rename_i n
    rcases rn_br h with ⟨h1, h⟩ | ⟨h1, h⟩
    · exact ⟨_, h, .inr (.inl ⟨n, rfl, rfl, .inl ⟨of_decide_eq_true h1, rfl⟩⟩)⟩
    · exact ⟨_, h, .inr (.inl ⟨n, rfl, rfl, .inr ⟨of_decide_eq_false h1, rfl⟩⟩)⟩
  · rename_i i
    rcases rn_br h with ⟨h1, h⟩ | ⟨h1, h⟩
    · exact ⟨_, h, .inr (.inr (.inl ⟨i, rfl, rfl, .inl ⟨of_decide_eq_true h1, rfl⟩⟩))⟩
    · exact (rn_fail h).elim
  · exact ⟨_, h, .inr (.inr (.inr ⟨rfl, rfl, rfl⟩))⟩
  · exact (rn_fail h).elim

theorem RowOk.rep {K : Nat → Prop} {dep : Dep} {i : Nat} {d : D T.U} {v : Value} {S : Nat → Prop} (h : RowOk T w K dep i d v S) (hf : d.isArr = false) (S' : Nat → Prop) (w' : World) : OwnD T w' d v S' := by
  have := RowOk.flat (K' := fun _ => False) (w' := w) h hf
  exact flat_own this hf

/-- The pattern of a row that was rewritten in part. -/
theorem pat_put (hT : TblOk P T) {t : Nat} {y x : T.U t} {col : Nat} {ds : List (D T.U)} (hx : T.dget t x = putAt (T.dget t y) col ds) {j : Nat} {d d' : D T.U} (h : (T.dget t y)[j]? = some d) (h' : (T.dget t x)[j]? = some d') : d.isArr = d'.isArr := by
  have e1 : ((T.dget t y).map D.isArr)[j]? = some d.isArr := by rw [List.getElem?_map, h]; rfl
  have e2 : ((T.dget t x).map D.isArr)[j]? = some d'.isArr := by rw [List.getElem?_map, h']; rfl
  rw [hT.pat, ← hT.pat t x, e2] at e1
  exact (Option.some.inj e1).symm
theorem filter_one {β : Type} {p : β → Bool} : ∀ {l : List β} {i j : Nat} {x y : β}, (l.filter p).length = 1 → l[i]? = some x → l[j]? = some y → p x = true → p y = true → i = j
  | [], i, j, x, y, h, hx, hy, _, _ => by simp at hx
  | z :: l, i, j, x, y, h, hx, hy, hpx, hpy => by
    have none_of : (l.filter p).length = 0 → ∀ {k : Nat} {u : β}, l[k]? = some u → p u = true → False := fun h0 k u hu hpu => by
      have := List.filter_eq_nil_iff.1 (List.length_eq_zero_iff.1 h0) u (List.mem_of_getElem? hu)
      exact this hpu
    cases i with
    | zero =>
      simp at hx
      subst hx
      have h0 : (l.filter p).length = 0 := by simpa [List.filter_cons, hpx] using h
      cases j with
      | zero => rfl
      | succ j => exact (none_of h0 (by simpa using hy) hpy).elim
    | succ i =>
      cases j with
      | zero =>
        simp at hy
        subst hy
        have h0 : (l.filter p).length = 0 := by simpa [List.filter_cons, hpy] using h
        exact (none_of h0 (by simpa using hx) hpx).elim
      | succ j =>
        have h1 : (l.filter p).length = 1 := by
          cases hz : p z with
          | false => simpa [List.filter_cons, hz] using h
          | true =>
            have h0 : (l.filter p).length = 0 := by simpa [List.filter_cons, hz] using h
            exact (none_of h0 (by simpa using hx) hpx).elim
        have := filter_one (i := i) (j := j) h1 (by simpa using hx) (by simpa using hy) hpx hpy
        rw [this]
theorem count_one (hT : TblOk P T) {t : Nat} (hc : arrCount T t = 1) (x : T.U t) {i j : Nat} {d d' : D T.U} (h : (T.dget t x)[i]? = some d) (h' : (T.dget t x)[j]? = some d') (hd : d.isArr = true) (hd' : d'.isArr = true) : i = j := by
  have h1 : ((T.dget t x).filter D.isArr).length = 1 := by
    have : ∀ l : List (D T.U), (l.filter D.isArr).length = ((l.map D.isArr).filter id).length := fun l => by
      rw [List.filter_map, List.length_map]; rfl
    rw [this, hT.pat, ← this]
    exact hc
  exact filter_one h1 h h' hd hd'
end
end Go.Sm
end

section
set_option linter.unusedVariables false
namespace Go.Sm
variable {T : Tbl} {α : Type}
section
variable {Ok : Nat → List (A T) → Res T → Prop} {s s' : St T} {a : α} {P : Program} {e e' : Env} {w w' W0 : World} {M0 : Gh} {tm : Array Value}

theorem Good.storeRow (hT : TblOk P T) (hG : Good W0 M0 e s tm w) {S : Nat → Prop} (hS : Loose W0 M0 e w S) {r t : Nat} {l : List (T.U t)} {ver : Nat} {nver nver' : NV} {dep dep' : Dep} {pin : Bool} (ho : s.objs r = some (.arr t l ver nver dep pin))
    {row col b off : Nat} {el : Nat × Bool} (hrw : row < l.length) (had : e.adr r = some ⟨b, off, none⟩) {x : T.U t} {ds : List (D T.U)} {us : List Value} (hx : T.dget t x = putAt (Go.Sm.row T t l row) col ds) (hfit : col + ds.length ≤ T.size t) (hul : us.length = ds.length)
    {cs : Array Value} (hcs : w.heap[b]? = some (cellsE cs el)) (hw : RowW w w' b (putAt cs.toList (off + row * T.size t + col) us).toArray el)
    {vals : Nat → Nat → Value} {F : Nat → Nat → Nat → Prop} (hA : ArrOk T w e.K t l dep (e.adr r) (e.cap r) (e.fp r) vals F) {G : Nat → Nat → Prop}
    (hin : ∀ j d, col ≤ j → j < col + us.length → (T.dget t x)[j]? = some d → RowOk T w e.K dep' row d (us.getD (j - col) (.tuple #[])) (G j))
    (hout : ∀ j d, ¬ (col ≤ j ∧ j < col + us.length) → (T.dget t x)[j]? = some d → RowOk T w e.K dep row d (vals row j) (F row j) → RowOk T w e.K dep' row d (vals row j) (G j))
    (hoth : ∀ i j d, i < l.length → i ≠ row → (Go.Sm.row T t l i)[j]? = some d → RowOk T w e.K dep i d (vals i j) (F i j) → RowOk T w e.K dep' i d (vals i j) (F i j))
    (hG' : ∀ j b', G j b' → (F row j b') ∨ S b') (hdr : ∀ j j' b', G j b' → G j' b' → j = j')
    (hver : (nver' = nver ∧ nestedAt ds = false ∧ dep' = dep) ∨ (nver' = nver.touch row ∧ ∀ i, ownedAt dep i → ownedAt dep' i)) :
    ∃ e', Good W0 M0 e' (s.setO r (some (.arr t (l.set row x) ver nver' dep' pin))) tm w' ∧ Keeps e s w e' (s.setO r (some (.arr t (l.set row x) ver nver' dep' pin))) w' := by
  obtain ⟨cs0, el0, h1, h2, hbf, _⟩ := hG.rel.blk ho hrw had
  have hbK : ∀ b', e.K b' → b' ≠ b := fun b' hk h => hG.rel.disK _ _ hbf (h ▸ hk)
  have hSb : ∀ b', S b' → b' ≠ b := fun b' hs h => hS.notFp _ _ (h ▸ hs) hbf
  have hFb : ∀ i j b', F i j b' → b' ≠ b := fun i j b' hf => (hA.hF i j b' hf).2 _ _ had
  have hGb : ∀ j b', G j b' → b' ≠ b := fun j b' hg => (hG' j b' hg).elim (hFb _ _ _) (hSb _)
  have hmono : ∀ {dp : Dep} {i : Nat} {d : D T.U} {v : Value} {X : Nat → Prop}, (∀ b', X b' → b' ≠ b) → RowOk T w e.K dp i d v X → RowOk T w' e.K dp i d v X := fun hX h => h.mono (fun _ h => h) (fun b' hb => hw.oth b' (hbK b' hb)) (fun b' hb => hw.oth b' (hX b' hb))
  have hdx : ∀ j d, ¬ (col ≤ j ∧ j < col + us.length) → (T.dget t x)[j]? = some d → (Go.Sm.row T t l row)[j]? = some d := fun j d hj hd => by
    rw [hx, putAt_get _ _ _ (by unfold Go.Sm.row; rw [hT.len]; exact hfit)] at hd
    by_cases h1 : j < col
    · rwa [if_pos h1] at hd
    · rwa [if_neg h1, if_neg (by omega)] at hd
  have hres := hG.setArr (l' := l.set row x) (nver' := nver') (dep' := dep') hS ho (by rcases hver with ⟨rfl, _⟩ | ⟨rfl, _⟩ <;> (first | exact Nat.le_refl _ | exact Nat.le_succ _)) (by simp) hbf hw (fun q t2 l2 hq hl hi => by
      subst hq
      cases hp : q.p with
      | none =>
        unfold refInfo at hi
        rw [setO_objs] at hi
        simp only [hp] at hi
        split at hi
        · rename_i hv
          simp only [Option.some.injEq, Sigma.mk.injEq] at hi
          obtain ⟨rfl, hi⟩ := hi
          cases hi
          refine ⟨l, ?_, by simp, fun A c h => ?_⟩
          · unfold refInfo
            simp only [ho, hp]
            rw [if_pos hv]
          · unfold RefAt at *
            simp only [hp] at *
            rw [Env.put_adr, Env.put_cap]
            exact h
        · cases hi
      | some ic =>
        obtain ⟨i, c⟩ := ic
        obtain ⟨hnv, hil, hic⟩ := info_nonempty hp (setO_objs _ _ _) hi
        rcases hver with ⟨hv, hfl, hdp⟩ | ⟨hv, hmo⟩
        · subst hv
          subst hdp
          have hic' : (Go.Sm.row T t l i)[c]? = some (.arr t2 l2) := by
            by_cases hir : i = row
            · subst hir
              have e1 : Go.Sm.row T t (l.set i x) i = T.dget t x := by
                unfold Go.Sm.row
                rw [List.getD_eq_getElem?_getD, List.getElem?_set_self hrw]
                rfl
              rw [e1] at hic
              refine hdx c _ (fun hr => ?_) hic
              rw [hx, putAt_get _ _ _ (by unfold Go.Sm.row; rw [hT.len]; exact hfit), if_neg (by omega), if_pos (by omega)] at hic
              have := nested_false hfl hic
              cases this
            · have e1 : Go.Sm.row T t (l.set row x) i = Go.Sm.row T t l i := by
                unfold Go.Sm.row
                rw [List.getD_eq_getElem?_getD, List.getElem?_set_ne (fun h => hir h.symm), ← List.getD_eq_getElem?_getD]
              rw [e1] at hic
              exact hic
          simp only [List.length_set] at hil
          refine ⟨l2, ?_, rfl, fun A cc h => ?_⟩
          · unfold refInfo
            simp only [ho, hp]
            rw [if_pos hnv, if_pos hil, hic']
          · unfold RefAt at *
            simp only [hp] at *
            obtain ⟨t3, l3, ver3, nver3, dep3, pin3, b3, off3, n3, k1, k2, k3, k4⟩ := h
            rw [ho] at k1
            cases k1
            rw [had] at k3
            simp only [Option.some.injEq, Addr.mk.injEq] at k3
            obtain ⟨rfl, rfl, _⟩ := k3
            refine ⟨t, _, _, _, _, _, b, off, n3, setO_objs _ _ _, ?_, by rw [Env.put_adr]; exact had, ?_⟩
            · exact k2
            · have hout' : ¬ (off + row * T.size t + col ≤ off + i * T.size t + c ∧ off + i * T.size t + c < off + row * T.size t + col + us.length) := by
                have hcl := row_len hT hic'
                by_cases hir : i = row
                · subst hir
                  intro hr
                  have e1 : Go.Sm.row T t (l.set i x) i = T.dget t x := by
                    unfold Go.Sm.row
                    rw [List.getD_eq_getElem?_getD, List.getElem?_set_self hrw]
                    rfl
                  rw [e1, hx, putAt_get _ _ _ (by unfold Go.Sm.row; rw [hT.len]; exact hfit), if_neg (by omega), if_pos (by omega)] at hic
                  have := nested_false hfl hic
                  cases this
                · rcases Nat.lt_or_gt_of_ne hir with hlt | hlt
                  · have : (i + 1) * T.size t ≤ row * T.size t := Nat.mul_le_mul_right _ hlt
                    rw [Nat.add_mul] at this
                    omega
                  · have : (row + 1) * T.size t ≤ i * T.size t := Nat.mul_le_mul_right _ hlt
                    rw [Nat.add_mul] at this
                    omega
              have hpl : off + row * T.size t + col + us.length ≤ cs.toList.length := by
                have : (row + 1) * T.size t ≤ e.cap q.r * T.size t := Nat.mul_le_mul_right _ (Nat.lt_of_lt_of_le hrw hA.hc)
                rw [Nat.add_mul] at this
                obtain rfl := cellsE_cs (hcs.symm.trans h1)
                simp only [Array.length_toList]
                omega
              simp only [World.cell?, hcs, hw.blk, Option.isSome_none, Bool.false_eq_true, if_false, List.getElem?_toArray] at k4 ⊢
              rw [putAt_get _ _ _ hpl]
              by_cases h1 : off + i * T.size t + c < off + row * T.size t + col
              · rw [if_pos h1]; simpa using k4
              · rw [if_neg h1, if_neg (by omega)]; simpa using k4
        · subst hv
          obtain ⟨o, ho1, h2⟩ := hl
          have h2 := h2 _ _ _ _ _ _ (Option.some.inj (ho1.symm.trans ho))
          simp only [hp] at h2
          obtain ⟨hnv, hir⟩ := NV.has_touch h2 hnv
          have e1 : Go.Sm.row T t (l.set row x) i = Go.Sm.row T t l i := by
            unfold Go.Sm.row
            rw [List.getD_eq_getElem?_getD, List.getElem?_set_ne (fun h => hir h.symm), ← List.getD_eq_getElem?_getD]
          have hic' : (Go.Sm.row T t l i)[c]? = some (.arr t2 l2) := by rw [e1] at hic; exact hic
          simp only [List.length_set] at hil
          refine ⟨l2, ?_, rfl, fun A cc h => ?_⟩
          · unfold refInfo
            simp only [ho, hp]
            rw [if_pos hnv, if_pos hil, hic']
          · unfold RefAt at *
            simp only [hp] at *
            obtain ⟨t3, l3, ver3, nver3, dep3, pin3, b3, off3, n3, k1, k2, k3, k4⟩ := h
            rw [ho] at k1
            cases k1
            rw [had] at k3
            simp only [Option.some.injEq, Addr.mk.injEq] at k3
            obtain ⟨rfl, rfl, _⟩ := k3
            refine ⟨t, _, _, _, _, _, b, off, n3, setO_objs _ _ _, hmo _ k2, by rw [Env.put_adr]; exact had, ?_⟩
            have hout' : ¬ (off + row * T.size t + col ≤ off + i * T.size t + c ∧ off + i * T.size t + c < off + row * T.size t + col + us.length) := by
              have hcl := row_len hT hic'
              rcases Nat.lt_or_gt_of_ne hir with hlt | hlt
              · have : (i + 1) * T.size t ≤ row * T.size t := Nat.mul_le_mul_right _ hlt
                rw [Nat.add_mul] at this
                omega
              · have : (row + 1) * T.size t ≤ i * T.size t := Nat.mul_le_mul_right _ hlt
                rw [Nat.add_mul] at this
                omega
            have hpl : off + row * T.size t + col + us.length ≤ cs.toList.length := by
              have : (row + 1) * T.size t ≤ e.cap q.r * T.size t := Nat.mul_le_mul_right _ (Nat.lt_of_lt_of_le hrw hA.hc)
              rw [Nat.add_mul] at this
              obtain rfl := cellsE_cs (hcs.symm.trans h1)
              simp only [Array.length_toList]
              omega
            simp only [World.cell?, hcs, hw.blk, Option.isSome_none, Bool.false_eq_true, if_false, List.getElem?_toArray] at k4 ⊢
            rw [putAt_get _ _ _ hpl]
            by_cases h1 : off + i * T.size t + c < off + row * T.size t + col
            · rw [if_pos h1]; simpa using k4
            · rw [if_neg h1, if_neg (by omega)]; simpa using k4)
    (fun _ => ArrOk.store (w' := w') (K' := e.K) (dep' := dep') (S' := fun b => e.fp r b ∨ S b) (G := G) hT hA hrw had hcs hx hfit hul hw.blk (fun j d hd => by
        by_cases hj : col ≤ j ∧ j < col + us.length
        · rw [if_pos hj]; exact hmono (hGb j) (hin j d hj.1 hj.2 hd)
        · rw [if_neg hj]; exact hmono (hGb j) (hout j d hj hd (hA.hsub row j d hrw (hdx j d hj hd))))
      (fun i j d hi hir hd => hmono (hFb i j) (hoth i j d hi hir hd (hA.hsub i j d hi hd))) (fun _ h => .inl h)
      (fun j b' hg => ⟨(hG' j b' hg).imp (fun h => (hA.hF _ _ _ h).1) id, hGb j b' hg⟩) hdr (fun i j j' b' hir hf hg => by
        rcases hG' j' b' hg with h | h
        · exact hir (hA.hdis _ _ _ _ _ hf h).1
        · exact hS.notFp _ _ h (hA.hF _ _ _ hf).1))
  exact ⟨_, hres⟩
end
end Go.Sm
end

section
set_option linter.unusedVariables false
namespace Go.Sm
variable {T : Tbl} {α : Type}
section
variable {Ok : Nat → List (A T) → Res T → Prop} {s s' : St T} {a : α} {P : Program} {e e' : Env} {w w' W0 : World} {M0 : Gh} {tm : Array Value}

theorem row_set (t : Nat) (l : List (T.U t)) (i : Nat) (x : T.U t) (hi : i < l.length) : row T t (l.set i x) i = T.dget t x := by
  unfold Go.Sm.row
  rw [List.getD_eq_getElem?_getD, List.getElem?_set_self hi]
  rfl
theorem row_set_ne (t : Nat) (l : List (T.U t)) (i j : Nat) (x : T.U t) (hi : j ≠ i) : row T t (l.set i x) j = row T t l j := by
  unfold Go.Sm.row
  rw [List.getD_eq_getElem?_getD, List.getElem?_set_ne (fun h => hi h.symm), ← List.getD_eq_getElem?_getD]
theorem rowOk_plain {K0 K S : Nat → Prop} {d : D T.U} {v : Value} {w0 : World} (h : RepD T w0 K0 d v) (hf : d.isArr = false) (dep : Dep) (i : Nat) : RowOk T w' K dep i d v S := by
  cases dep with
  | all => exact flat_own h hf
  | upto k =>
    by_cases hk : i < k
    · exact .inl ⟨hk, flat_own h hf⟩
    · exact .inr ⟨by omega, flat_rep h hf⟩
  | hole k => exact .inr (flat_own h hf)
theorem Moved.any {K : Nat → Prop} {ds : List (D T.U)} {vs : List Value} {own : Bool} {F : Nat → Nat → Prop} (h : Moved T w K ds vs own F) {j : Nat} {d : D T.U} (hd : ds[j]? = some d) : ∃ K', RepD T w K' d (vs.getD j (.tuple #[])) := by
  have hj := (List.getElem?_eq_some_iff.1 hd).1
  have hl := h.1
  have hv : vs[j]? = some (vs.getD j (.tuple #[])) := by rw [List.getD_eq_getElem?_getD, List.getElem?_eq_getElem (by omega)]; rfl
  rcases h.2 j d _ hd hv with h | ⟨_, h⟩
  · exact ⟨_, h.rep⟩
  · exact ⟨_, h⟩
/-- A row of an array that an array's row leads to is rewritten. -/
theorem Good.storeDeep (hT : TblOk P T) (hG : Good W0 M0 e s tm w) {q : Ref} {t i c : Nat} {l : List (T.U t)} {ver : Nat} {nver : NV} {dep : Dep} {pin : Bool} (ho : s.objs q.r = some (.arr t l ver nver dep pin)) (hp : q.p = some (i, c)) (hnv : nver.n = q.ver) (hnh : ∀ m, dep = .hole m → i ≠ m) (hi : i < l.length)
    {t2 : Nat} {l2 : List (T.U t2)} (hd : (row T t l i)[c]? = some (.arr t2 l2)) {b off cc : Nat} (hat : RefAt e s w q (some ⟨b, off, none⟩) cc) {rw col : Nat} (hrw : rw < l2.length) {x2 : T.U t2} {ds : List (D T.U)} {us : List Value}
    (hx2 : T.dget t2 x2 = putAt (row T t2 l2 rw) col ds) (hfit : col + ds.length ≤ T.size t2) (hul : us.length = ds.length) (hfl : nestedAt ds = false) (hus : ∀ j d, ds[j]? = some d → ∃ K', RepD T w K' d (us.getD j (.tuple #[])))
    {x : T.U t} (hx : T.dget t x = putAt (row T t l i) c [.arr t2 (l2.set rw x2)]) :
    ∃ cs el, w.heap[b]? = some (cellsE cs el) ∧ off + rw * T.size t2 + T.size t2 ≤ cs.size ∧ ∀ w', RowW w w' b (putAt cs.toList (off + rw * T.size t2 + col) us).toArray el →
      ∃ e', Good W0 M0 e' (s.setO q.r (some (.arr t (l.set i x) ver nver dep pin))) tm w' ∧ Keeps e s w e' (s.setO q.r (some (.arr t (l.set i x) ver nver dep pin))) w' := by
  unfold RefAt at hat
  simp only [hp] at hat
  obtain ⟨t3, l3, ver3, nver3, dep3, pin3, b3, off3, n3, k1, k2, k3, k4⟩ := hat
  rw [ho] at k1
  cases k1
  obtain ⟨vals, F, hA⟩ := hG.rel.objs _ _ ho
  have hvv : Value.slice (some ⟨b, off, none⟩) n3 cc = vals i c := by
    have := hA.vals_at k3 hi hd
    rw [k4] at this
    exact Option.some.inj this
  have hown : OwnD T w (.arr t2 l2) (.slice (some ⟨b, off, none⟩) n3 cc) (F i c) := by
    rw [hvv]
    have := hA.hsub i c _ hi hd
    cases dep with
    | all => exact this
    | upto k => exact this.elim (fun x => x.2) fun x => absurd k2 (by simp only [ownedAt]; omega)
    | hole k => exact this.elim (fun x => absurd x.1 (hnh k rfl)) id
  obtain ⟨A2, c2, vals2, F2, he, hA2⟩ := (OwnD.arr_iff e.K).1 hown
  simp only [Value.slice.injEq] at he
  obtain ⟨rfl, rfl, rfl⟩ := he
  have hpos : 0 < cc := Nat.lt_of_lt_of_le (Nat.lt_of_le_of_lt (Nat.zero_le _) hrw) hA2.hc
  obtain ⟨b', off', cs, el, e1, e2, e3, e4⟩ := hA2.hblk hpos
  simp only [Option.some.injEq, Addr.mk.injEq] at e1
  obtain ⟨rfl, rfl, _⟩ := e1
  have hbf : e.fp q.r b := (hA.hF _ _ _ e2).1
  have hb3 : b ≠ b3 := (hA.hF _ _ _ e2).2 _ _ k3
  have hrl : rw * T.size t2 + T.size t2 ≤ cc * T.size t2 := by
    have : (rw + 1) * T.size t2 ≤ cc * T.size t2 := Nat.mul_le_mul_right _ (Nat.lt_of_lt_of_le hrw hA2.hc)
    rw [Nat.add_mul] at this
    omega
  refine ⟨cs, el, e3, by omega, fun w' hw => ?_⟩
  have hbK : ∀ b', e.K b' → w'.heap[b']? = w.heap[b']? := fun b' hk => hw.oth b' fun h => hG.rel.disK _ _ hbf (h ▸ hk)
  -- the inner array
  obtain ⟨vals2', F2', hA2'⟩ := ArrOk.store (w' := w') (K' := e.K) (dep' := .all) (S' := F i c) (G := F2 rw) hT hA2 hrw rfl e3 hx2 hfit hul hw.blk (fun j d hdj => by
      by_cases hj : col ≤ j ∧ j < col + us.length
      · rw [if_pos hj]
        rw [hx2, putAt_get _ _ _ (by unfold Go.Sm.row; rw [hT.len]; exact hfit), if_neg (by omega), if_pos (by omega)] at hdj
        obtain ⟨K', hr⟩ := hus _ _ hdj
        exact flat_own hr (nested_false hfl hdj)
      · rw [if_neg hj]
        have hdj' : (row T t2 l2 rw)[j]? = some d := by
          rw [hx2, putAt_get _ _ _ (by unfold Go.Sm.row; rw [hT.len]; exact hfit)] at hdj
          by_cases h1 : j < col
          · rwa [if_pos h1] at hdj
          · rwa [if_neg h1, if_neg (by omega)] at hdj
        exact (hA2.hsub rw j d hrw hdj').mono (fun _ h => h) hbK fun b' hb' => hw.oth b' fun h => (hA2.hF _ _ _ hb').2 _ _ rfl h)
    (fun i' j d hi' hir hd' => (hA2.hsub i' j d hi' hd').mono (fun _ h => h) hbK fun b' hb' => hw.oth b' fun h => (hA2.hF _ _ _ hb').2 _ _ rfl h) (fun _ h => h)
    (fun j b' hb' => ⟨(hA2.hF _ _ _ hb').1, (hA2.hF _ _ _ hb').2 _ _ rfl⟩) (fun j j' b' h h' => (hA2.hdis _ _ _ _ _ h h').2) (fun i' j j' b' hir h h' => hir (hA2.hdis _ _ _ _ _ h h').1)
  have hown' : OwnD T w' (.arr t2 (l2.set rw x2)) (vals i c) (F i c) := by
    rw [← hvv]
    have := (OwnD.arr_iff e.K).2 ⟨_, _, vals2', F2', rfl, hA2'⟩
    rwa [List.length_set] at this
  have hcl := row_len hT hd
  have hdx : ∀ j, (T.dget t x)[j]? = if j = c then some (.arr t2 (l2.set rw x2)) else (row T t l i)[j]? := fun j => by
    rw [hx, putAt_get _ _ _ (by unfold Go.Sm.row; rw [hT.len]; simp; omega)]
    by_cases h1 : j < c
    · rw [if_pos h1, if_neg (by omega)]
    · by_cases h2 : j = c
      · subst h2; simp
      · rw [if_neg h1, if_neg (by simp; omega), if_neg h2]
  obtain ⟨g1, g2⟩ := hG.setArr (l' := l.set i x) (nver' := nver) (dep' := dep) (S := fun _ => False) Loose.none ho (Nat.le_refl _) (by simp) hbf hw (fun q2 t4 l4 hq hl hi4 => by
      cases hp2 : q2.p with
      | none =>
        unfold refInfo at hi4
        rw [hq, setO_objs] at hi4
        simp only [hp2] at hi4
        split at hi4
        · rename_i hv
          simp only [Option.some.injEq, Sigma.mk.injEq] at hi4
          obtain ⟨rfl, hi4⟩ := hi4
          cases hi4
          refine ⟨l, ?_, by simp, fun A c h => ?_⟩
          · unfold refInfo
            rw [hq]
            simp only [ho, hp2]
            rw [if_pos hv]
          · unfold RefAt at *
            rw [hq] at *
            simp only [hp2] at *
            rw [Env.put_adr, Env.put_cap]
            exact h
        · cases hi4
      | some ic =>
        obtain ⟨i2, c2⟩ := ic
        obtain ⟨hnv2, hil, hic⟩ := info_nonempty hp2 (by rw [hq]; exact setO_objs _ _ _) hi4
        simp only [List.length_set] at hil
        have hcell : ∀ A cc', RefAt e s w q2 A cc' → RefAt (e.put q.r (e.adr q.r) (e.cap q.r) fun b => e.fp q.r b ∨ False) (s.setO q.r (some (.arr t (l.set i x) ver nver dep pin))) w' q2 A cc' := fun A cc' h => by
          unfold RefAt at *
          rw [hq] at *
          simp only [hp2] at *
          obtain ⟨t5, l5, ver5, nver5, dep5, pin5, b5, off5, n5, m1, m2, m3, m4⟩ := h
          rw [ho] at m1
          cases m1
          rw [k3] at m3
          simp only [Option.some.injEq, Addr.mk.injEq] at m3
          obtain ⟨rfl, rfl, _⟩ := m3
          refine ⟨t, _, _, _, _, _, b3, off3, n5, setO_objs _ _ _, m2, by rw [Env.put_adr]; exact k3, ?_⟩
          rw [cell_same (hw.oth b3 fun h => hb3 h.symm)]
          exact m4
        by_cases hii : i2 = i
        · subst hii
          rw [row_set _ _ _ _ hi, hdx] at hic
          by_cases hcc : c2 = c
          · subst hcc
            simp only [if_true, Option.some.injEq, D.arr.injEq] at hic
            obtain ⟨rfl, hic⟩ := hic
            cases hic
            refine ⟨l2, ?_, by simp, hcell⟩
            unfold refInfo
            rw [hq]
            simp only [ho, hp2]
            rw [if_pos hnv2, if_pos hil, hd]
          · rw [if_neg hcc] at hic
            refine ⟨l4, ?_, rfl, hcell⟩
            unfold refInfo
            rw [hq]
            simp only [ho, hp2]
            rw [if_pos hnv2, if_pos hil, hic]
        · rw [row_set_ne _ _ _ _ _ hii] at hic
          refine ⟨l4, ?_, rfl, hcell⟩
          unfold refInfo
          rw [hq]
          simp only [ho, hp2]
          rw [if_pos hnv2, if_pos hil, hic])
    (fun _ => by
      have hmono : ∀ {i' j : Nat} {d : D T.U}, i' < l.length → ¬ (i' = i ∧ j = c) → (row T t l i')[j]? = some d → RowOk T w' e.K dep i' d (vals i' j) (F i' j) := fun hi' hne hd' =>
        (hA.hsub _ _ _ hi' hd').mono (fun _ h => h) hbK fun b' hb' => hw.oth b' fun h => hne (hA.hdis _ _ _ _ _ (h ▸ hb') e2)
      refine ⟨vals, F, by simpa using hA.hc, fun _ => ⟨b3, off3, k3⟩, fun hp' => ?_, fun i' j d hi' hd' => ?_, fun i' j d hi' hd' => ?_, fun i' j b' hb' => ⟨.inl (hA.hF _ _ _ hb').1, (hA.hF _ _ _ hb').2⟩, hA.hdis⟩
      · obtain ⟨b5, off5, cs5, el5, m1, m2, m3, m4⟩ := hA.hblk hp'
        rw [k3] at m1
        simp only [Option.some.injEq, Addr.mk.injEq] at m1
        obtain ⟨rfl, rfl, _⟩ := m1
        exact ⟨b3, off3, cs5, el5, k3, .inl m2, by rw [hw.oth b3 fun h => hb3 h.symm]; exact m3, m4⟩
      · simp only [List.length_set] at hi'
        have hj : j < T.size t := row_len hT hd'
        have hex : ∃ d0, (row T t l i')[j]? = some d0 := by
          have : (row T t l i').length = T.size t := by unfold Go.Sm.row; exact hT.len _ _
          exact ⟨_, List.getElem?_eq_getElem (by omega)⟩
        obtain ⟨d0, hd0⟩ := hex
        obtain ⟨b5, off5, m1, m2⟩ := hA.hcell i' j d0 hi' hd0
        rw [k3] at m1
        simp only [Option.some.injEq, Addr.mk.injEq] at m1
        obtain ⟨rfl, rfl, _⟩ := m1
        exact ⟨b3, off3, k3, by rw [cell_same (hw.oth b3 fun h => hb3 h.symm)]; exact m2⟩
      · simp only [List.length_set] at hi'
        by_cases hii : i' = i
        · subst hii
          rw [row_set _ _ _ _ hi, hdx] at hd'
          by_cases hjc : j = c
          · subst hjc
            simp only [if_true, Option.some.injEq] at hd'
            subst hd'
            cases dep with
            | all => exact hown'
            | upto k => exact .inl ⟨k2, hown'⟩
            | hole k => exact .inr hown'
          · rw [if_neg hjc] at hd'
            exact hmono hi' (fun h => hjc h.2) hd'
        · rw [row_set_ne _ _ _ _ _ hii] at hd'
          exact hmono hi' (fun h => hii h.1) hd')
  exact ⟨_, g1, g2⟩
end
end Go.Sm
end

section
set_option linter.unusedVariables false
namespace Go.Sm
variable {T : Tbl} {α : Type}
section
variable {Ok : Nat → List (A T) → Res T → Prop} {s s' : St T} {a : α} {P : Program} {e e' : Env} {w w' W0 : World} {M0 : Gh} {tm : Array Value}

/-- What an operation leaves that puts nothing. -/
def Did (Ok : Nat → List (A T) → Res T → Prop) (P : Program) (W0 : World) (M0 : Gh) (e : Env) (s : St T) (tm : Array Value) (w : World) (k : M T α) (a : α) (s' : St T) (m : Sem Unit) : Prop :=
  ∃ s1 e1 w1, Rn Ok k s1 a s' ∧ Good W0 M0 e1 s1 tm w1 ∧ Keeps e s w e1 s1 w1 ∧ s1.regs = s.regs ∧ m.run P w = .ok () w1

theorem storeArr_ok (hT : TblOk P T) (hG : Good W0 M0 e s tm w) {S1 : Nat → Prop} (hS : Loose W0 M0 e w S1) {q : Ref} {rw col : Nat} {pv : Value} (hp : RelPtr e s w q rw col pv) {ds : List (D T.U)} {own : Bool} {us : List Value} {F2 : Nat → Nat → Prop}
    (hm : Moved T w e.K ds us own F2) (hF : ∀ j b, F2 j b → S1 b) (hdis : ∀ i j b, F2 i b → F2 j b → i = j) (h1 : ∀ u ∈ us, u.oneCell' = true) {t : Nat} {v : Value} (hv : v.cells.toList = us) (hst : 0 < T.size t) (hsz : v.cells.size = T.size t) {k : M T α}
    (h : Rn Ok (storeArr q rw col ds own k) s a s') : Did Ok P W0 M0 e s tm w k a s' (Instr.storeAt t pv v) := by
  have hul : us.length = ds.length := hm.1
  have hus : v.cells.size = us.length := by rw [← hv]; simp
  unfold storeArr at h
  replace h := rn_getO h
  split at h
  · rename_i t' l ver nver dep pin ho
    split at h
    · rename_i hqp
      have hX := rn_cond h
      clear h
      obtain ⟨h0, h⟩ := hX
      have hver := nbeq h0
      have hX := rn_must h
      clear h
      obtain ⟨hrw, h⟩ := hX
      have hX := rn_cond h
      clear h
      obtain ⟨hfit, h⟩ := hX
      have hfit := nble hfit
      rw [hT.len] at hfit
      have hi : refInfo s q = some ⟨t', l⟩ := by unfold refInfo; simp only [ho, hqp]; rw [if_pos hver]
      obtain ⟨b, off, c, hat, rfl⟩ := hp.2.2.2 _ _ hi
      unfold RefAt at hat
      simp only [hqp] at hat
      obtain ⟨had, rfl⟩ := hat
      have had := had.symm
      obtain ⟨vals, F, hA⟩ := hG.rel.objs _ _ ho
      obtain ⟨cs, el, g1, g2, g3, g4⟩ := hG.rel.blk ho hrw had
      have hrl : rw * T.size t' + T.size t' ≤ e.cap q.r * T.size t' := by
        have : (rw + 1) * T.size t' ≤ e.cap q.r * T.size t' := Nat.mul_le_mul_right _ (Nat.lt_of_lt_of_le hrw g4)
        rw [Nat.add_mul] at this
        omega
      obtain ⟨w', hrun, hw⟩ := run_storeAt (v := v) (off := off + rw * T.size t' + col) hT g1 hst hsz (by omega) (by rw [hv]; exact h1)
      rw [hv] at hw
      split at h
      · rename_i x hx
        have hx := hT.get _ _ _ hx
        replace hx : T.dget t' x = putAt (Go.Sm.row T t' l rw) col ds := hx
        have hget : ∀ j, (T.dget t' x)[j]? = if j < col then (Go.Sm.row T t' l rw)[j]? else if j < col + ds.length then ds[j - col]? else (Go.Sm.row T t' l rw)[j]? := fun j => by
          rw [hx, putAt_get _ _ _ (by unfold Go.Sm.row; rw [hT.len]; exact hfit)]
        cases hn : nestedAt ds with
        | true =>
          rw [hn] at h
          simp only [cond_true] at h
          have hX := rn_cond h
          clear h
          obtain ⟨hc1, h⟩ := hX
          have hc1 := nbeq hc1
          have hX := rn_depStore h
          clear h
          obtain ⟨dep', h, hdep⟩ := hX
          replace h := rn_setO h
          -- the one leading cell lies in what is written
          have hlead : ∃ (j0 : Nat) (d0 : D T.U), ds[j0]? = some d0 ∧ d0.isArr = true := by
            unfold nestedAt at hn
            obtain ⟨d0, h1, h2⟩ := List.any_eq_true.1 hn
            obtain ⟨j0, h3⟩ := List.getElem?_of_mem h1
            exact ⟨j0, d0, h3, h2⟩
          obtain ⟨j0, d0, hj0, hd0⟩ := hlead
          have hj0l := (List.getElem?_eq_some_iff.1 hj0).1
          have hflat : ∀ j d, ¬ (col ≤ j ∧ j < col + us.length) → (T.dget t' x)[j]? = some d → d.isArr = false := fun j d hj hd => by
            cases hda : d.isArr with
            | false => rfl
            | true =>
              have e0 : (T.dget t' x)[col + j0]? = some d0 := by rw [hget, if_neg (by omega), if_pos (by omega)]; rw [show col + j0 - col = j0 from by omega]; exact hj0
              have := count_one hT hc1 x e0 hd hd0 hda
              omega
          have hin0 : ∀ j d, col ≤ j → j < col + us.length → (T.dget t' x)[j]? = some d → ds[j - col]? = some d ∧ us[j - col]? = some (us.getD (j - col) (.tuple #[])) := fun j d h1 h2 hd => by
            rw [hget, if_neg (by omega), if_pos (by omega)] at hd
            refine ⟨hd, ?_⟩
            rw [List.getD_eq_getElem?_getD, List.getElem?_eq_getElem (by omega)]; rfl
          have hmo : ∀ i, ownedAt dep i → ownedAt dep' i := fun i hi => by
            rcases hdep with ⟨rfl, _, rfl⟩ | ⟨n, rfl, _, ⟨_, rfl⟩ | ⟨_, rfl⟩⟩ | ⟨n, rfl, _, ⟨_, rfl⟩ | ⟨_, rfl⟩⟩ | ⟨rfl, _, rfl⟩ <;> (simp only [ownedAt] at hi ⊢; try omega)
          -- what is written is kept by the object, or becomes a thing that never changes
          have keep : own = true → (∀ (d : D T.U) (v : Value) (X : Nat → Prop), OwnD T w d v X → RowOk T w e.K dep' rw d v X) → (∀ i d v X, i ≠ rw → RowOk T w e.K dep i d v X → RowOk T w e.K dep' i d v X) → Did Ok P W0 M0 e s tm w k a s' (Instr.storeAt t (.pointer (some ⟨b, off + rw * T.size t' + col, none⟩)) v) := by
            intro ho1 hk1 hk2
            subst ho1
            obtain ⟨e', q1, q2⟩ := hG.storeRow (w' := w') (G := fun j b' => col ≤ j ∧ j < col + us.length ∧ F2 (j - col) b') (nver' := nver.touch rw) (dep' := dep') hT hS ho hrw had hx hfit hul g1 hw hA
              (fun j d h1 h2 hd => by
                obtain ⟨k1, k2⟩ := hin0 j d h1 h2 hd
                refine hk1 _ _ _ (OwnD.wider (hm.own k1 k2) fun b hb => ⟨h1, h2, hb⟩))
              (fun j d hj hd hro => rowOk_plain (RowOk.flat (K' := fun _ => False) (w' := w) hro (hflat j d hj hd)) (hflat j d hj hd) _ _)
              (fun i j d hi hir hd hro => hk2 _ _ _ _ hir hro) (fun j b' hb => .inr (hF _ _ hb.2.2)) (fun j j' b' h1 h2 => by have := hdis _ _ _ h1.2.2 h2.2.2; omega) (.inr ⟨rfl, hmo⟩)
            exact ⟨_, e', w', h, q1, q2, rfl, hrun⟩
          have frz : (∀ (d : D T.U) (v : Value) (X : Nat → Prop), RepD T w (e.more S1).K d v → RowOk T w (e.more S1).K dep' rw d v X) → (∀ i d v X, i ≠ rw → RowOk T w (e.more S1).K dep i d v X → RowOk T w (e.more S1).K dep' i d v X) → Did Ok P W0 M0 e s tm w k a s' (Instr.storeAt t (.pointer (some ⟨b, off + rw * T.size t' + col, none⟩)) v) := by
            intro hk1 hk2
            obtain ⟨f1, f2⟩ := hG.freeze hS
            have hA' : ArrOk T w (e.more S1).K t' l dep ((e.more S1).adr q.r) ((e.more S1).cap q.r) ((e.more S1).fp q.r) vals F := hA.mono (fun _ h => .inl h) (fun _ _ => rfl) (fun _ _ => rfl)
            obtain ⟨e', q1, q2⟩ := f1.storeRow (w' := w') (S := fun _ => False) (G := fun _ _ => False) (nver' := nver.touch rw) (dep' := dep') hT Loose.none ho hrw had hx hfit hul g1 hw hA'
              (fun j d h1 h2 hd => by
                obtain ⟨k1, k2⟩ := hin0 j d h1 h2 hd
                exact hk1 _ _ _ (hm.rep k1 k2 fun b hb => hF _ _ hb))
              (fun j d hj hd hro => rowOk_plain (RowOk.flat (K' := fun _ => False) (w' := w) hro (hflat j d hj hd)) (hflat j d hj hd) _ _)
              (fun i j d hi hir hd hro => hk2 _ _ _ _ hir hro) (fun _ _ h => h.elim) (fun _ _ _ h => h.elim) (.inr ⟨rfl, hmo⟩)
            exact ⟨_, e', w', h, q1, f2.trans q2, rfl, hrun⟩
          rcases hdep with ⟨rfl, ho1, rfl⟩ | ⟨n, rfl, ho1, hd1⟩ | ⟨i, rfl, ho1, hd1⟩ | ⟨rfl, ho1, rfl⟩
          · exact keep ho1 (fun d v X h => h) (fun i d v X hi h => h)
          · rcases hd1 with ⟨rfl, rfl⟩ | ⟨hne, rfl⟩
            · exact keep ho1 (fun d v X h => .inl ⟨by omega, h⟩) (fun i d v X hi h => h.elim (fun x => .inl ⟨by omega, x.2⟩) (fun x => .inr ⟨by omega, x.2⟩))
            · by_cases hlt : rw < n
              · exact keep ho1 (fun d v X h => .inl ⟨hlt, h⟩) (fun i d v X hi h => h)
              · exact frz (fun d v X h => .inr ⟨by omega, h⟩) (fun i d v X hi h => h)
          · rcases hd1 with ⟨rfl, rfl⟩ | ⟨hne, rfl⟩
            · exact keep ho1 (fun d v X h => h) (fun i d v X hi h => h.elim (fun x => absurd x.1 hi) id)
            · exact keep ho1 (fun d v X h => .inr h) (fun i d v X hi h => h)
          · exact frz (fun d v X h => .inr ⟨Nat.zero_le _, h⟩) (fun i d v X hi h => h)
        | false =>
          rw [hn] at h
          simp only [cond_false] at h
          replace h := rn_setO h
          obtain ⟨e', q1, q2⟩ := hG.storeRow (w' := w') (S := fun _ => False) (G := F rw) (nver' := nver) (dep' := dep) hT Loose.none ho hrw had hx hfit hul g1 hw hA
            (fun j d h1 h2 hd => by
              rw [hget, if_neg (by omega), if_pos (by omega)] at hd
              obtain ⟨K', hr⟩ := hm.any hd
              exact rowOk_plain hr (nested_false hn hd) _ _) (fun _ _ _ _ h => h) (fun _ _ _ _ _ _ h => h) (fun _ _ h => .inl h) (fun j j' b' h h' => (hA.hdis _ _ _ _ _ h h').2) (.inl ⟨rfl, hn, rfl⟩)
          exact ⟨_, e', w', h, q1, q2, rfl, hrun⟩
      · exact (rn_fail h).elim
    · rename_i i c hqp
      have hX := rn_cond h
      clear h
      obtain ⟨h0, h⟩ := hX
      have hver := nbeq h0
      have hX := rn_notHole h
      clear h
      obtain ⟨hnh, h⟩ := hX
      have hX := rn_must h
      clear h
      obtain ⟨hi, h⟩ := hX
      split at h
      · rename_i t2 l2 hd
        have hX := rn_must h
        clear h
        obtain ⟨hrw, h⟩ := hX
        cases hn : nestedAt ds with
        | true => rw [hn] at h; exact (rn_fail h).elim
        | false =>
          rw [hn] at h
          simp only [cond_false] at h
          have hX := rn_cond h
          clear h
          obtain ⟨hfit, h⟩ := hX
          have hfit := nble hfit
          rw [hT.len] at hfit
          split at h
          · rename_i x2 hx2
            split at h
            · rename_i x hx
              replace h := rn_setO h
              have hinf : refInfo s q = some ⟨t2, l2⟩ := by
                unfold refInfo
                simp only [ho, hqp]
                rw [if_pos (NV.has_of hver), if_pos hi]
                rw [show (Go.Sm.row T t' l i)[c]? = some (.arr t2 l2) from hd]
              obtain ⟨b, off, cc, hat, rfl⟩ := hp.2.2.2 _ _ hinf
              obtain ⟨cs, el, g1, g2, g3⟩ := hG.storeDeep (us := us) hT ho hqp hver hnh hi hd hat hrw (hT.get _ _ _ hx2) hfit hul hn (fun j d hd => hm.any hd) (hT.get _ _ _ hx)
              obtain ⟨w', hrun, hw⟩ := run_storeAt (v := v) (off := off + rw * T.size t2 + col) hT g1 hst hsz (by omega) (by rw [hv]; exact h1)
              rw [hv] at hw
              obtain ⟨e', q1, q2⟩ := g3 w' hw
              exact ⟨_, e', w', h, q1, q2, rfl, hrun⟩
            · exact (rn_fail h).elim
          · exact (rn_fail h).elim
      · exact (rn_fail h).elim
  · exact (rn_fail h).elim

theorem takeRow_ok (hG : Good W0 M0 e s tm w) {q : Ref} {t0 : Nat} {rng : Option (Nat × Nat)} {ex : Bool} {u : Value} (hc : RelC e s w (.own q t0 rng ex) u) {k : D T.U → M T α} (h : Rn Ok (takeRow q rng k) s a s') :
    ∃ d s1 e1 S, Rn Ok (k d) s1 a s' ∧ Good W0 M0 e1 s1 tm w ∧ Keeps e s w e1 s1 w ∧ Loose W0 M0 e1 w S ∧ e1.K = e.K ∧ s1.regs = s.regs ∧ OwnD T w d u S := by
  unfold takeRow at h
  replace h := rn_getO h
  split at h
  · rename_i t l ver nver pin i c ho hp
    have hX := rn_cond h
    clear h
    obtain ⟨hver, h⟩ := hX
    have hver := nbeq hver
    have hX := rn_must h
    clear h
    obtain ⟨hi, h⟩ := hX
    split at h
    · rename_i t2 l2 hd
      have hX := rn_cut h
      clear h
      obtain ⟨l3, h2, h⟩ := hX
      replace h := rn_setO h
      have hinf : refInfo s q = some ⟨t2, l2⟩ := by
        unfold refInfo
        simp only [ho, hp]
        rw [if_pos (NV.has_of hver), if_pos hi]
        change (match (Go.Sm.row T t l i)[c]? with | some (.arr t' l') => some (⟨t', l'⟩ : (t : Nat) × List (T.U t)) | _ => none) = _
        rw [show (Go.Sm.row T t l i)[c]? = some (.arr t2 l2) from hd]
      obtain ⟨A, cc, hat, hsl⟩ := hc.2.2 _ _ hinf
      unfold RefAt at hat
      simp only [hp] at hat
      obtain ⟨t3, l3', ver3, nver3, dep3, pin3, b, off, n3, k1, k2, k3, k4⟩ := hat
      rw [ho] at k1
      cases k1
      obtain ⟨e1, S, q1, q2, q3, q4, q5⟩ := hG.release ho hi (d := .arr t2 l2) hd k3 rfl k4
      have hn : n3 = l2.length := by
        obtain ⟨A', c', _, _, he, _⟩ := (OwnD.arr_iff e.K).1 q5
        simp only [Value.slice.injEq] at he
        exact he.2.1
      subst hn
      exact ⟨_, _, e1, S, h, q1, q2, q4, q3, rfl, q5.cut h2 hsl⟩
    · exact (rn_fail h).elim
  · exact (rn_fail h).elim
theorem rowView_is {vs : List (C T)} {q : Ref} {rng : Option (Nat × Nat)} (h : rowView vs = some (q, rng)) : ∃ t0 ex, vs = [.own q t0 rng ex] := by
  unfold rowView at h
  split at h
  · rename_i q' t0 rng' ex
    cases hq : q'.p.isSome with
    | true => rw [hq] at h; cases h; exact ⟨t0, ex, rfl⟩
    | false => rw [hq] at h; cases h
  · cases h
theorem storeM_ok (hT : TblOk P T) (hG : Good W0 M0 e s tm w) {t : Nat} (hst : 0 < T.size t) {c : C T} {v : V T} {pv u : Value} (hp : RelC e s w c pv) (hv : RelV e s w v u) {k : M T α} (h : Rn Ok (storeM t c v k) s a s') :
    Did Ok P W0 M0 e s tm w k a s' (Instr.storeAt t pv u) := by
  unfold storeM at h
  split at h
  · exact (rn_fail h).elim
  · rename_i vs hvs
    have hX := rn_cond h
    clear h
    obtain ⟨hl, h⟩ := hX
    have hl := nbeq hl
    have hc := RelV.cells hv hvs
    have hcl := hc.1
    simp only [Array.length_toList] at hcl
    split at h
    · rename_i q rw col
      replace h := rn_getO h
      split at h
      · rename_i cs ho
        have hX := rn_cond h
        clear h
        obtain ⟨h0, h⟩ := hX
        simp only [Bool.and_eq_true] at h0
        have hr0 := nbeq h0.1
        have hfit := nble h0.2
        replace h := rn_setO h
        obtain ⟨b0, arr, el, g1, g2, g3, g4⟩ := hG.rel.objs _ _ ho
        obtain ⟨b, hb, rfl⟩ := hp.2.2.1 cs ho hr0
        rw [g1] at hb
        simp only [Option.some.injEq, Addr.mk.injEq] at hb
        obtain ⟨rfl, _⟩ := hb
        have hal := g4.1
        simp only [Array.length_toList] at hal
        obtain ⟨w', hrun, hw⟩ := run_storeAt (v := u) (off := col) hT g3 hst (by omega) (by omega) (RelCs.one hc)
        obtain ⟨k1, k2, k3⟩ := Rel.upd (e' := e) (w' := w') (x := .var (putAt cs col vs)) hG.rel hG.fr Loose.none (r := q.r) ⟨fun _ _ => rfl, fun _ _ => rfl, fun _ _ _ => Iff.rfl⟩ (fun _ h => h) (fun _ h => .inl h) (Nat.le_of_eq hw.size.symm)
          (fun b' _ hn _ => hw.oth b' fun h => hn (h ▸ g2)) hw.os hw.tape hw.output (fun b' hb' => ⟨.inl hb', by rw [hw.size]; exact hG.rel.lt b' (.inr ⟨_, hb'⟩)⟩)
          (fun q2 rng v2 hq h => ⟨⟨_, by rw [hq]; exact setO_objs _ _ _, fun _ _ _ _ _ _ hx => by cases hx⟩, h.2.1, fun t2 l2 hi => by unfold refInfo at hi; rw [hq, setO_objs] at hi; cases hi⟩)
          (fun q2 r2 c2 v2 hq h => ⟨⟨_, by rw [hq]; exact setO_objs _ _ _, fun _ _ _ _ _ _ hx => by cases hx⟩, h.2.1, (fun cs' hc' hz => h.2.2.1 cs (by rw [hq]; exact ho) hz), fun t2 l2 hi => by unfold refInfo at hi; rw [hq, setO_objs] at hi; cases hi⟩)
          (fun v2 h => ⟨⟨_, setO_objs _ _ _⟩, h.2.1, fun kt et l hm => by rw [setO_objs] at hm; cases hm⟩)
        refine ⟨_, e, w', h, ⟨k3 ⟨b0, _, el, g1, g2, hw.blk, ?_⟩, k2, hG.pin.upd (fun _ _ => rfl) (fun _ _ => rfl) (.old hG.pin ho rfl)⟩, k1, rfl, hrun⟩
        simpa using (k1.cs g4).put (k1.cs hc) hfit
      · split at h
        · rename_i q' rng hrv
          obtain ⟨t0, ex, rfl⟩ := rowView_is hrv
          obtain ⟨u0, hu0⟩ : ∃ u0, u.cells.toList = [u0] := List.length_eq_one_iff.1 hc.1
          have hcu : RelC e s w (.own q' t0 rng ex) u0 := hc.2 0 _ u0 rfl (by rw [hu0]; rfl)
          have hX := takeRow_ok hG hcu h
          clear h
          obtain ⟨d, s1, e1, S1, h, g1, g2, g3, g4, g5, g6⟩ := hX
          have hm : Moved T w e1.K [d] [u0] true (fun j b => j = 0 ∧ S1 b) := ⟨rfl, fun j d' v' hj hv' => by
            cases j with
            | zero => cases hj; cases hv'; exact .inl (OwnD.wider g6 fun b hb => ⟨rfl, hb⟩)
            | succ j => cases hj⟩
          obtain ⟨s2, e2, w2, q1, q2, q3, q4, q5⟩ := storeArr_ok (v := u) (t := t) hT g1 (S1 := S1) g3 (g2.ptr _ _ _ _ hp)
            (hm.fix t) (fun j b hb => hb.2) (fun i j b hi hj => hi.1.trans hj.1.symm) (fun x hx => RelCs.one hc x (by rw [hu0]; exact hx)) hu0 hst (by omega) h
          exact ⟨s2, e2, w2, q1, q2, g2.trans q3, q4.trans g5, q5⟩
        have hX := moveCs_ok hG Loose.none hc h
        clear h
        obtain ⟨ds, own, s1, e1, S1, F, h, g1, g2, g3, g4, g5, g6, g7, g8, g9, g10, g11, g12, g13⟩ := hX
        obtain ⟨s2, e2, w2, q1, q2, q3, q4, q5⟩ := storeArr_ok (v := u) (t := t) hT g1 (S1 := S1) ⟨fun b hb => g3.notK b (.inr hb), fun r b hb => g3.notFp r b (.inr hb), fun b hb => g3.lt b (.inr hb), fun b hb => g3.own b (.inr hb)⟩ (g2.ptr _ _ _ _ hp)
          (by rw [g5]; exact g11.fix t) g12 g13 (RelCs.one hc) rfl hst (by omega) h
        exact ⟨s2, e2, w2, q1, q2, g2.trans q3, q4.trans g6, q5⟩
      · exact (rn_fail h).elim
    · exact (rn_fail h).elim
end
end Go.Sm
end

section
set_option linter.unusedVariables false
namespace Go.Sm
variable {T : Tbl} {α : Type}
section
variable {Ok : Nat → List (A T) → Res T → Prop} {s s' : St T} {a : α} {P : Program} {e e' : Env} {w w' W0 : World} {M0 : Gh} {tm : Array Value}

theorem makeMapM_ok (hT : TblOk P T) (hG : Good W0 M0 e s tm w) {d t : Nat} {k : C T → M T α} (h : Rn Ok (makeMapM d t k) s a s') {n : Option Int} {hnt : Option Value} (hn : OptV n hnt) :
    ∃ c s1 e1 w1 val, Rn Ok (k c) s1 a s' ∧ Good W0 M0 e1 s1 tm w1 ∧ Keeps e s w e1 s1 w1 ∧ s1.regs = s.regs ∧ RelC e1 s1 w1 c val ∧ (Instr.makeMap t hnt).run P w = .ok val w1 := by
  unfold makeMapM at h
  split at h
  · rename_i kt et hty
    obtain ⟨h1, h⟩ := rn_newO h
    have hw : NewW w (w.alloc (.map #[] 0)) (.map #[] 0) := NewW.push w _
    obtain ⟨k1, k2⟩ := hG.new Loose.none h1.1 hw (.map kt et []) 0 ⟨fun _ _ _ _ _ h => (by cases h), fun _ _ h => (by cases h)⟩
    refine ⟨_, _, _, _, _, h, k2 ⟨_, #[], 0, Env.put_adr .., (Env.put_fp ..).2 (.inl rfl), hw.new, rfl, fun j x me hx => by simp at hx⟩, k1, rfl,
      ⟨⟨_, setO_objs _ _ _⟩, ⟨_, rfl⟩, fun kt' et' l' hm => ⟨_, Env.put_adr .., rfl⟩⟩, ?_⟩
    cases n with
    | none =>
      cases hnt with
      | none => rfl
      | some v => exact hn.elim
    | some n =>
      cases hnt with
      | none => exact hn.elim
      | some v =>
        obtain ⟨ki, rfl⟩ := hn
        simp only [Instr.makeMap, Sem.run_bind, run_underlying (hT.map _ _ _ hty), Result.andThen_ok]
        rfl
  · exact (rn_fail h).elim
theorem rn_withM {kt et kt' et' : Nat} {l : List (T.U kt' × T.U et')} {k : List (T.U kt × T.U et) → M T α} (h : Rn Ok (withM kt et kt' et' l k) s a s') :
    ∃ (h1 : kt' = kt) (h2 : et' = et), Rn Ok (k (h1 ▸ h2 ▸ l)) s a s' := by
  unfold withM at h
  split at h
  · split at h
    · exact ⟨_, _, h⟩
    · exact (rn_fail h).elim
  · exact (rn_fail h).elim
/-- Where a key stands. -/
theorem find_rel (hT : TblOk P T) {kt et : Nat} {kj : IntKind} (hk : T.ty kt = .int kj) (n : Int) {K : Nat → Prop} : ∀ {l : List (T.U kt × T.U et)} {es : List MapEntry} (i0 : Nat), es.length = l.length →
    (∀ (j : Nat) (x : T.U kt × T.U et) (me : MapEntry), l[j]? = some x → es[j]? = some me → ∃ kd, T.dget kt x.1 = [kd] ∧ RepD T w K kd me.key) →
    (l.findIdx? (fun e => decide (n = numOf (T.dget kt e.1))) = none ∧ l.find? (fun e => decide (n = numOf (T.dget kt e.1))) = none ∧ Instr.findNow (.int kj) (.int kj n) es i0 = some none) ∨
    (∃ i x me, l.findIdx? (fun e => decide (n = numOf (T.dget kt e.1))) = some i ∧ l.find? (fun e => decide (n = numOf (T.dget kt e.1))) = some x ∧ l[i]? = some x ∧ es[i]? = some me ∧ me.key = .int kj n ∧ Instr.findNow (.int kj) (.int kj n) es i0 = some (some (i0 + i, me.val)))
  | [], [], i0, _, _ => .inl ⟨rfl, rfl, rfl⟩
  | [], _ :: _, i0, h, _ => by cases h
  | _ :: _, [], i0, h, _ => by cases h
  | x :: l, me :: es, i0, hl, h => by
    obtain ⟨kd, h1, h2⟩ := h 0 x me rfl rfl
    obtain ⟨m, h3⟩ := hT.intC kt kj hk x.1
    rw [h1] at h3
    cases h3
    have hkey : me.key = .int kj m := by generalize me.key = v at h2; cases h2; rfl
    by_cases hnm : n = m
    · subst hnm
      exact .inr ⟨0, x, me, by simp [List.findIdx?_cons, h1, numOf], by simp [List.find?_cons, h1, numOf], rfl, rfl, hkey, by simp [Instr.findNow, Instr.sameNow, hkey]⟩
    · have hp : decide (n = numOf (T.dget kt x.1)) = false := by rw [h1]; simp [numOf, hnm]
      have hs : Instr.findNow (.int kj) (.int kj n) (me :: es) i0 = Instr.findNow (.int kj) (.int kj n) es (i0 + 1) := by
        have : (n == m) = false := by simp [hnm]
        simp [Instr.findNow, Instr.sameNow, hkey, this]
      rcases find_rel hT hk n (i0 + 1) (by simpa using hl) (fun j x' me' a b => h (j + 1) x' me' (by simpa using a) (by simpa using b)) with ⟨g1, g2, g3⟩ | ⟨i, x', me', g1, g2, g3, g4, g5, g6⟩
      · exact .inl ⟨by simp [List.findIdx?_cons, hp, g1], by simp [List.find?_cons, hp, g2], hs.trans g3⟩
      · exact .inr ⟨i + 1, x', me', by simp [List.findIdx?_cons, hp, g1], by simp [List.find?_cons, hp, g2], by simpa using g3, by simpa using g4, g5, by rw [hs, g6]; congr 3; omega⟩
/-- What leads nowhere is in no need of surroundings. -/
theorem relW_any {x : Bool × List (C T)} {v : Value} (h : RelW (T := T) ⟨fun _ => False, fun _ => none, fun _ => 0, fun _ _ => False⟩ ⟨fun _ => .undef, fun _ => none⟩ w x v) : RelW e s w x v := by
  refine Keeps.pw (e := ⟨fun _ => False, fun _ => none, fun _ => 0, fun _ _ => False⟩) (s := ⟨fun _ => .undef, fun _ => none⟩) (w := w) ⟨Oth.refl _, fun _ h => h.elim, fun _ h => h.elim, ?_, ?_, ?_⟩ h
  · rintro q rng v ⟨⟨o, ho, _⟩, _⟩; cases ho
  · rintro q row col v ⟨⟨o, ho, _⟩, _⟩; cases ho
  · rintro r v ⟨⟨o, ho⟩, _⟩; cases ho
theorem relW_any' (ho : Oth w w') {x : Bool × List (C T)} {v : Value} (h : RelW (T := T) ⟨fun _ => False, fun _ => none, fun _ => 0, fun _ _ => False⟩ ⟨fun _ => .undef, fun _ => none⟩ w x v) : RelW (T := T) ⟨fun _ => False, fun _ => none, fun _ => 0, fun _ _ => False⟩ ⟨fun _ => .undef, fun _ => none⟩ w' x v := by
  refine Keeps.pw (e := ⟨fun _ => False, fun _ => none, fun _ => 0, fun _ _ => False⟩) (s := ⟨fun _ => .undef, fun _ => none⟩) (w := w) ⟨ho, fun _ h => h, fun _ h => h.elim, ?_, ?_, ?_⟩ h
  · rintro q rng v ⟨⟨o, ho, _⟩, _⟩; cases ho
  · rintro q row col v ⟨⟨o, ho, _⟩, _⟩; cases ho
  · rintro r v ⟨⟨o, ho⟩, _⟩; cases ho
theorem plain_rep {K : Nat → Prop} {d : D T.U} {v : Value} (h : plainD d v) : RepD T w K d v := by
  cases d with
  | bool b => cases h; exact .bool b
  | int k n => cases h; exact .int k n
  | str x => cases h; exact .str x
  | _ => exact h.elim
theorem zero_relW (hT : TblOk P T) {t : Nat} (hs : 0 < T.size t) (hf : flat T t = true) : ∃ z, (zeroValue t).run P w = .ok z w ∧ RelW e s w (Go.Sm.isAgg T t, (T.dget t (T.dflt t)).map ofD) z := by
  obtain ⟨i, g1, g2, g3, z, g4, g5, g6⟩ := hT.info t hs
  refine ⟨z, by simp [zeroValue, run_typeInfo w g1, g4], ?_⟩
  obtain ⟨z1, z2⟩ := hT.zero t hs
  have hcs : RelCs e s w ((T.dget t (T.dflt t)).map ofD) (T.zero t) := ofD_rel (z1.trans (hT.len _ _).symm) fun j d v hd hv => by
    rcases z2 j d v hd hv with h | ⟨u, rfl, _⟩ | ⟨h, _⟩
    · exact plain_rep h
    · have := flat_row hT hf hd
      cases this
    · have := flat_row hT hf hd
      cases d with
      | fn => cases this
      | _ => cases h
  cases hag : Go.Sm.isAgg T t with
  | true =>
    obtain ⟨cs, rfl⟩ := g6 hag
    exact ⟨cs.toList, by simp, by rw [← g5] at hcs; exact hcs⟩
  | false =>
    obtain ⟨i', z', k1, k2, k3⟩ := hT.zv t hs hag
    rw [g1] at k1; cases k1
    rw [g4] at k2; cases k2
    have : z.cells = #[z] := by
      cases z with
      | agg cs => exact absurd rfl (k3 cs)
      | _ => rfl
    rw [this] at g5
    show RelCs e s w _ [z]
    rw [show [z] = T.zero t from g5]
    exact hcs
theorem lookupM_ok (hT : TblOk P T) (hR : Rel e s tm w) {t : Nat} {c : C T} {u : Value} (hc : RelC e s w c u) {ki : IntKind} {n : Int} {ok : Bool} {k : V T → M T α} (h : Rn Ok (lookupM t c ki n ok k) s a s') :
    ∃ v val, Rn Ok (k v) s a s' ∧ RelV e s w v val ∧ (Instr.lookup t u (.int ki n) ok).run P w = .ok val w := by
  unfold lookupM at h
  split at h
  · rename_i kt et r hty
    split at h
    · rename_i kj hkt
      have hX := rn_ite h
      clear h
      obtain ⟨hkk, h⟩ := hX
      subst hkk
      replace h := rn_getO h
      split at h
      · rename_i kt' et' l ho
        have hX := rn_withM h
        clear h
        obtain ⟨h1, h2, h⟩ := hX
        subst h1; subst h2
        have hX := rn_cond h
        clear h
        obtain ⟨hf, h⟩ := hX
        simp only [Bool.and_eq_true] at hf
        obtain ⟨hf, hs⟩ := hf
        have hs := nble hs
        obtain ⟨b, es, clk, e1, e2, e3, e4, e5⟩ := hR.objs _ _ ho
        obtain ⟨_, _, hm⟩ := hc
        obtain ⟨b', e6, rfl⟩ := hm _ _ _ ho
        rw [e1] at e6
        cases e6
        have hu := run_underlying (w := w) (hT.map _ _ _ hty)
        have hck := fun em => Go.MapKept.run_checkKey (w := w) (k := .int ki n) (hT.int _ _ hkt) rfl em 9999
        obtain ⟨v0, hv0, hrun⟩ : ∃ v0, RelW e s w (Go.Sm.isAgg T et', (T.dget et' ((mget kt' et' l n).getD (T.dflt et'))).map ofD) v0 ∧
            (Instr.lookup t (.map (some b)) (.int ki n) ok).run P w = .ok (if ok then .tuple #[v0, .bool (mget kt' et' l n).isSome] else v0) w := by
          rcases find_rel (w := w) hT hkt n (l := l) (es := es.toList) 0 (by simpa using e4) (fun j x me hx hme => (e5 j x me hx (by simpa using hme)).1) with ⟨g1, g2, g3⟩ | ⟨i, x, me, g1, g2, g3, g4, g5, g6⟩
          · obtain ⟨z, z1, z2⟩ := zero_relW (e := e) (s := s) (w := w) hT hs hf
            refine ⟨z, by simpa [mget, g2] using z2, ?_⟩
            simp only [Instr.lookup, Sem.run_bind, hu, Result.andThen_ok, Go.MapKept.run_getObj_map e3, Sem.run_pure, hck, Go.MapKept.run_findKey (hT.int _ _ hkt) g3, z1, mget, g2]
            cases ok <;> rfl
          · refine ⟨me.val, by simpa [mget, g2] using relW_any (e5 i x me g3 (by simpa using g4)).2, ?_⟩
            simp only [Instr.lookup, Sem.run_bind, hu, Result.andThen_ok, Go.MapKept.run_getObj_map e3, Sem.run_pure, hck, Go.MapKept.run_findKey (hT.int _ _ hkt) g6, mget, g2]
            cases ok <;> rfl
        cases ok with
        | true =>
          refine ⟨_, _, h, ⟨[v0, .bool (mget kt' et' l n).isSome], rfl, rfl, fun j x u hx hu => ?_⟩, hrun⟩
          match j with
          | 0 => simp only [List.getElem?_cons_zero, Option.some.injEq] at hx hu; subst hx; subst hu; exact hv0
          | 1 =>
            simp only [List.getElem?_cons_succ, List.getElem?_cons_zero, Option.some.injEq] at hx hu; subst hx; subst hu
            exact ⟨rfl, fun j c u hc hu => by
              cases j with
              | zero => simp at hc hu; subst hc; subst hu; exact RepD.bool _
              | succ j => simp at hc⟩
          | j + 2 => simp at hx
        | false =>
          obtain ⟨v, h1, _, h2⟩ := rn_toVal h
          refine ⟨v, v0, h1, ?_, hrun⟩
          rcases h2 with ⟨h2, rfl⟩ | ⟨h2, c, h3, rfl⟩
          · rw [h2] at hv0; exact hv0
          · rw [h2, h3] at hv0; exact hv0.2 0 c _ rfl rfl
      · exact (rn_fail h).elim
    · exact (rn_fail h).elim
  · exact (rn_fail h).elim
theorem Good.setMap (hG : Good W0 M0 e s tm w) {r b kt et clk clk' : Nat} {l l' : List (T.U kt × T.U et)} {es es' : Array MapEntry} (ho : s.objs r = some (.map kt et l)) (hadr : e.adr r = some ⟨b, 0, none⟩) (hfp : e.fp r b) (hb : w.heap[b]? = some (.map es clk)) (hl : es'.size = l'.length)
    (hes : ∀ (j : Nat) (x : T.U kt × T.U et) (me : MapEntry), l'[j]? = some x → es'[j]? = some me → (∃ kd, T.dget kt x.1 = [kd] ∧ RepD T w (fun _ => False) kd me.key) ∧
        RelW (T := T) ⟨fun _ => False, fun _ => none, fun _ => 0, fun _ _ => False⟩ ⟨fun _ => .undef, fun _ => none⟩ w (Go.Sm.isAgg T et, (T.dget et x.2).map ofD) me.val) :
    Good W0 M0 e (s.setO r (some (.map kt et l'))) tm { w with heap := w.heap.setIfInBounds b (.map es' clk') } ∧ Keeps e s w e (s.setO r (some (.map kt et l'))) { w with heap := w.heap.setIfInBounds b (.map es' clk') } := by
  obtain ⟨hR, hF, hP⟩ := hG
  obtain ⟨hs1, hs2⟩ := Go.MapKept.heap_set (o' := .map es' clk') hb
  have hobj : ∀ q : Ref, q.r = r → (s.setO r (some (.map kt et l'))).objs q.r = some (.map kt et l') := fun q h => by rw [h]; exact setO_objs _ _ _
  have hin : ∀ q : Ref, q.r = r → refInfo (s.setO r (some (.map kt et l'))) q = none := fun q h => by unfold refInfo; rw [hobj q h]
  obtain ⟨h1, h2, h3⟩ := Rel.upd (e' := e) (x := .map kt et l') (w' := { w with heap := w.heap.setIfInBounds b (.map es' clk') }) hR hF Loose.none (r := r) ⟨fun _ _ => rfl, fun _ _ => rfl, fun _ _ _ => Iff.rfl⟩ (fun _ h => h) (fun _ h => .inl h) (by simp) (fun b' hb' hn _ => hs2 b' fun h => hn (h ▸ hfp)) rfl rfl ⟨rfl, Nat.le_refl _, fun b' cs el fz hb' => ⟨cs, (hs2 b' fun h => by rw [h, hb] at hb'; cases hb').trans hb', rfl⟩⟩
    (fun b' h => ⟨.inl h, by simpa using hR.lt b' (.inr ⟨_, h⟩)⟩)
    (fun q rng v hq h => ⟨⟨_, hobj q hq, fun _ _ _ _ _ _ h => by cases h⟩, h.2.1, fun t l hi => by rw [hin q hq] at hi; cases hi⟩)
    (fun q row col v hq h => ⟨⟨_, hobj q hq, fun _ _ _ _ _ _ h => by cases h⟩, h.2.1, (fun cs hc => by rw [hobj q hq] at hc; cases hc), fun t l hi => by rw [hin q hq] at hi; cases hi⟩)
    (fun v h => ⟨⟨_, setO_objs _ _ _⟩, h.2.1, fun kt' et' l2 hm => h.2.2 _ _ _ ho⟩)
  refine ⟨⟨h3 ⟨b, es', clk', hadr, hfp, hs1, hl, fun j x me hx hm => ?_⟩, h2, hP.upd (fun _ _ => rfl) (fun _ _ => rfl) ⟨fun _ _ _ _ _ h => (by cases h), fun _ _ h => (by cases h)⟩⟩, h1⟩
  obtain ⟨⟨kd, g1, g2⟩, g3⟩ := hes j x me hx hm
  exact ⟨⟨kd, g1, g2.mono (fun _ h => h) fun b hb => hb.elim⟩, relW_any' h1.oth g3⟩
theorem csD_flat {K : Nat → Prop} {cs : List (C T)} {ds : List (D T.U)} (h : csD cs = some ds) {us : List Value} (hc : RelCs e s w cs us) (hf : ∀ d ∈ ds, d.isArr = false) : RepDs T w' K ds us := by
  have := csD_get h
  subst this
  refine ⟨by simpa using hc.1, fun j d v hd hv => ?_⟩
  have := hc.2 j (.d d) v (by simp [hd]) hv
  exact flat_rep this (hf d (List.mem_of_getElem? hd))
theorem mapUpdateM_ok (hT : TblOk P T) (hG : Good W0 M0 e s tm w) {t : Nat} {c : C T} {u : Value} (hc : RelC e s w c u) {ki : IntKind} {n : Int} {v : V T} {uv : Value} (hv : RelV e s w v uv) {k : M T α} (h : Rn Ok (mapUpdateM t c ki n v k) s a s') :
    ∃ s1 e1 w1, Rn Ok k s1 a s' ∧ Good W0 M0 e1 s1 tm w1 ∧ Keeps e s w e1 s1 w1 ∧ s1.regs = s.regs ∧ (Instr.mapUpdate t u (.int ki n) uv).run P w = .ok () w1 := by
  unfold mapUpdateM at h
  split at h
  · rename_i kt et r cs hty hcs
    split at h
    · rename_i kj hkt
      have hX := rn_ite h
      clear h
      obtain ⟨hkk, h⟩ := hX
      subst hkk
      split at h
      · rename_i kx ds hkx hds
        split at h
        · rename_i y hy
          have hX := rn_cond h
          clear h
          obtain ⟨hf, h⟩ := hX
          simp only [Bool.and_eq_true, beq_iff_eq] at hf
          obtain ⟨hf, hag⟩ := hf
          replace h := rn_getO h
          split at h
          · rename_i kt' et' l ho
            have hX := rn_withM h
            clear h
            obtain ⟨h1, h2, h⟩ := hX
            subst h1; subst h2
            replace h := rn_setO h
            obtain ⟨b, es, clk, e1, e2, e3, e4, e5⟩ := hG.rel.objs _ _ ho
            obtain ⟨_, _, hm⟩ := hc
            obtain ⟨b', e6, rfl⟩ := hm _ _ _ ho
            rw [e1] at e6
            cases e6
            have hu := run_underlying (w := w) (hT.map _ _ _ hty)
            have hck := fun em => Go.MapKept.run_checkKey (w := w) (k := .int ki n) (hT.int _ _ hkt) rfl em 9999
            have hkey : (∃ kd, T.dget kt' kx = [kd] ∧ RepD T w (fun _ => False) kd (.int ki n)) := ⟨_, hT.get _ _ _ hkx, .int _ _⟩
            have hy' := hT.get _ _ _ hy
            have hval : RelW (T := T) ⟨fun _ => False, fun _ => none, fun _ => 0, fun _ _ => False⟩ ⟨fun _ => .undef, fun _ => none⟩ w (Go.Sm.isAgg T et', (T.dget et' y).map ofD) uv := by
              have hfl : ∀ d ∈ ds, d.isArr = false := fun d hd => by
                obtain ⟨j, hj, rfl⟩ := List.getElem_of_mem hd
                exact flat_row hT hf (x := y) (j := j) (by rw [hy']; exact List.getElem?_eq_getElem hj)
              rw [hy', ← hag]
              cases v with
              | one c =>
                cases hcs
                have := csD_flat (K := fun _ => False) (w' := w) hds (us := [uv]) ⟨rfl, fun j c u h1 h2 => by cases j with
                  | zero => simp at h1 h2; subst h1; subst h2; exact hv
                  | succ j => simp at h1⟩ hfl
                exact ofD_rel this.1 this.2
              | agg cs' =>
                cases hcs
                obtain ⟨us, rfl, hv⟩ := hv
                have := csD_flat (K := fun _ => False) (w' := w) hds hv hfl
                exact ⟨us, rfl, ofD_rel this.1 this.2⟩
              | _ => cases hcs
            rcases find_rel (w := w) hT hkt n (l := l) (es := es.toList) 0 (by simpa using e4) (fun j x me hx hme => (e5 j x me hx (by simpa using hme)).1) with ⟨g1, g2, g3⟩ | ⟨i, x, me, g1, g2, g3, g4, g5, g6⟩
            · have hmp : mput kt' et' l n kx y = l ++ [(kx, y)] := by simp [mput, g1]
              rw [hmp] at h
              obtain ⟨k1, k2⟩ := hG.setMap (l' := l ++ [(kx, y)]) (es' := es.push { key := .int ki n, val := uv, born := clk }) (clk' := clk + 1) ho e1 e2 e3 (by simp [e4]) (fun j x me hx hm => by
                by_cases hj : j < l.length
                · rw [List.getElem?_append_left hj] at hx
                  rw [Array.getElem?_push_lt (by omega)] at hm
                  exact e5 j x me hx (by rw [← hm]; exact Array.getElem?_eq_getElem _)
                · have hj' : j = l.length := by have := (List.getElem?_eq_some_iff.1 hx).1; simp at this; omega
                  subst hj'
                  rw [← e4] at hm
                  simp at hx hm
                  subst hx; subst hm
                  exact ⟨hkey, hval⟩)
              refine ⟨_, _, _, h, k1, k2, rfl, ?_⟩
              simp [Instr.mapUpdate, hu, Go.MapKept.run_getObj_map e3, hck, Go.MapKept.run_findKey (hT.int _ _ hkt) g3, Go.MapKept.run_setObj_map _ e3, Result.andThen]
            · have hmp : mput kt' et' l n kx y = l.set i (kx, y) := by simp [mput, g1]
              rw [hmp] at h
              have g4' : es[i]? = some me := by simpa using g4
              obtain ⟨k1, k2⟩ := hG.setMap (l' := l.set i (kx, y)) (es' := es.modify i fun e => { e with key := .int ki n, val := uv }) (clk' := clk) ho e1 e2 e3 (by simp [e4]) (fun j x' me' hx hm => by
                rw [Array.getElem?_modify] at hm
                by_cases hj : i = j
                · subst hj
                  have hlt := (List.getElem?_eq_some_iff.1 g3).1
                  rw [List.getElem?_set_self hlt] at hx
                  simp only [if_true, g4', Option.map_some, Option.some.injEq] at hm
                  cases hx; subst hm
                  exact ⟨hkey, hval⟩
                · rw [List.getElem?_set_ne hj] at hx
                  rw [if_neg hj] at hm
                  exact e5 j x' me' hx hm)
              refine ⟨_, _, _, h, k1, k2, rfl, ?_⟩
              simp [Instr.mapUpdate, hu, Go.MapKept.run_getObj_map e3, hck, Go.MapKept.run_findKey (hT.int _ _ hkt) g6, g4', g5, Go.MapKept.run_keyThatStays (d := .int ki) (k := .int ki n) rfl, Go.MapKept.run_setObj_map _ e3, Result.andThen]
          · exact (rn_fail h).elim
        · exact (rn_fail h).elim
      · exact (rn_fail h).elim
    · exact (rn_fail h).elim
  · exact (rn_fail h).elim
/-! ### Sealing -/
theorem Good.shut (hG : Good W0 M0 e s tm w) {r t : Nat} {l : List (T.U t)} {ver m : Nat} {nver : NV} {pin : Bool} (ho : s.objs r = some (.arr t l ver nver (.upto m) pin)) (hm : l.length ≤ m) :
    Good W0 M0 e (s.setO r (some (.arr t l ver nver .all pin))) tm w ∧ Keeps e s w e (s.setO r (some (.arr t l ver nver .all pin))) w := by
  have hinf : ∀ q : Ref, q.r = r → refInfo (s.setO r (some (.arr t l ver nver .all pin))) q = refInfo s q := fun q hq => by
    subst hq
    unfold refInfo
    rw [setO_objs, ho]
  have hlive : ∀ q : Ref, q.r = r → Live s q → Live (s.setO r (some (.arr t l ver nver .all pin))) q := fun q hq hl => by
    subst hq
    obtain ⟨o, h1, h2⟩ := hl
    have h2 := h2 _ _ _ _ _ _ (Option.some.inj (h1.symm.trans ho))
    exact ⟨_, setO_objs _ _ _, fun _ _ _ _ _ _ hx => by cases hx; exact h2⟩
  have hat : ∀ (q : Ref), q.r = r → ∀ A c, RefAt e s w q A c → RefAt e (s.setO r (some (.arr t l ver nver .all pin))) w q A c := fun q hq A c h => by
    subst hq
    unfold RefAt at *
    cases hp : q.p with
    | none => simp only [hp] at *; exact h
    | some ic =>
      simp only [hp] at *
      obtain ⟨t1, l1, ver1, nver1, dep1, pin1, b, off, n, h1, h2, h3, h4⟩ := h
      rw [ho] at h1
      cases h1
      exact ⟨_, _, _, _, _, _, b, off, n, setO_objs _ _ _, trivial, h3, h4⟩
  obtain ⟨k1, k2, k3⟩ := Rel.upd (e' := e) (w' := w) (x := .arr t l ver nver .all pin) hG.rel hG.fr Loose.none (r := r) ⟨fun _ _ => rfl, fun _ _ => rfl, fun _ _ _ => Iff.rfl⟩ (fun _ h => h) (fun _ h => .inl h) (Nat.le_refl _) (fun _ _ _ _ => rfl) rfl rfl (Oth.refl _)
    (fun b hb => ⟨.inl hb, hG.rel.lt b (.inr ⟨_, hb⟩)⟩)
    (fun q rng v hq h => ⟨hlive q hq h.1, h.2.1, fun t2 l2 hi => by
      rw [hinf q hq] at hi
      obtain ⟨A, c, h4, h5⟩ := h.2.2 _ _ hi
      exact ⟨A, c, hat q hq A c h4, h5⟩⟩)
    (fun q row col v hq h => ⟨hlive q hq h.1, h.2.1, (fun cs hc => by rw [hq, setO_objs] at hc; cases hc), fun t2 l2 hi => by
      rw [hinf q hq] at hi
      obtain ⟨b, off, c, h4, h5⟩ := h.2.2.2 _ _ hi
      exact ⟨b, off, c, hat q hq _ c h4, h5⟩⟩)
    (fun v h => relMap_arr (t := t) (l := l) (ver := ver) (nver := nver) (dep := .upto m) (pin := pin) h)
  obtain ⟨vals, F, hA⟩ := hG.rel.objs _ _ ho
  refine ⟨⟨k3 ⟨vals, F, hA.hc, hA.hA, hA.hblk, hA.hcell, fun i j d hi hd => ?_, hA.hF, hA.hdis⟩, k2, hG.pin.upd (fun _ _ => rfl) (fun _ _ => rfl) ⟨fun _ _ _ _ _ h => (by
    cases h
    exact hG.pin.arr _ _ _ _ _ _ ho), fun _ _ h => (by cases h)⟩⟩, k1⟩
  rcases hA.hsub i j d hi hd with h | h
  · exact h.2
  · omega
/-- Ready to go on, in a state that has been sealed. -/
def Sealed (Ok : Nat → List (A T) → Res T → Prop) (W0 : World) (M0 : Gh) (e : Env) (s : St T) (tm : Array Value) (w : World) (k : M T α) (a : α) (s' : St T) : Prop :=
  ∃ s1, Rn Ok k s1 a s' ∧ Good W0 M0 e s1 tm w ∧ Keeps e s w e s1 w ∧ s1.regs = s.regs
theorem sealC_ok (hG : Good W0 M0 e s tm w) {c : C T} {k : M T α} (h : Rn Ok (sealC c k) s a s') : Sealed Ok W0 M0 e s tm w k a s' := by
  unfold sealC at h
  split at h
  · rename_i q _ _ _
    replace h := rn_getO h
    split at h
    · rename_i t l ver nver m pin ho hp
      obtain ⟨h1, h⟩ := rn_must h
      replace h := rn_setO h
      obtain ⟨g1, g2⟩ := hG.shut ho h1
      exact ⟨_, h, g1, g2, rfl⟩
    · exact ⟨_, h, hG, .refl, rfl⟩
  · exact ⟨_, h, hG, .refl, rfl⟩
theorem sealCs_ok : ∀ {cs : List (C T)} {s : St T} (hG : Good W0 M0 e s tm w) {k : M T α} (h : Rn Ok (sealCs cs k) s a s'), Sealed Ok W0 M0 e s tm w k a s'
  | [], s, hG, k, h => ⟨_, h, hG, .refl, rfl⟩
  | c :: r, s, hG, k, h => by
    obtain ⟨s1, h, g1, g2, g3⟩ := sealC_ok hG h
    obtain ⟨s2, h, k1, k2, k3⟩ := sealCs_ok g1 h
    exact ⟨s2, h, k1, g2.trans k2, k3.trans g3⟩
theorem sealV_ok (hG : Good W0 M0 e s tm w) {v : V T} {k : M T α} (h : Rn Ok (sealV v k) s a s') : Sealed Ok W0 M0 e s tm w k a s' := by
  unfold sealV at h
  split at h
  · replace h := rn_getO h
    split at h
    · exact sealCs_ok hG h
    · exact ⟨_, h, hG, .refl, rfl⟩
  · exact sealC_ok hG h
  · exact sealCs_ok hG h
  · exact ⟨_, h, hG, .refl, rfl⟩
theorem sealA_ok (hG : Good W0 M0 e s tm w) {m : Mode} {v : V T} {k : M T α} (h : Rn Ok (sealA m v k) s a s') : Sealed Ok W0 M0 e s tm w k a s' := by
  cases m with
  | ro => exact ⟨_, h, hG, .refl, rfl⟩
  | rwv => exact ⟨_, h, hG, .refl, rfl⟩
  | _ => exact sealV_ok hG h
theorem sealAs_ok : ∀ {ms : List Mode} {vs : List (V T)} {s : St T} (hG : Good W0 M0 e s tm w) {k : M T α} (h : Rn Ok (sealAs ms vs k) s a s'), Sealed Ok W0 M0 e s tm w k a s'
  | [], _, s, hG, k, h => ⟨_, (by unfold sealAs at h; exact h), hG, .refl, rfl⟩
  | _ :: _, [], s, hG, k, h => ⟨_, (by unfold sealAs at h; exact h), hG, .refl, rfl⟩
  | m :: ms, v :: vs, s, hG, k, h => by
    obtain ⟨s1, h, g1, g2, g3⟩ := sealA_ok hG h
    obtain ⟨s2, h, k1, k2, k3⟩ := sealAs_ok g1 h
    exact ⟨s2, h, k1, g2.trans k2, k3.trans g3⟩
theorem sealR_ok (hG : Good W0 M0 e s tm w) {rk : RK} {v : V T} {k : M T α} (h : Rn Ok (sealR rk v k) s a s') : Sealed Ok W0 M0 e s tm w k a s' := by
  cases rk with
  | own => exact sealV_ok hG h
  | _ => exact ⟨_, h, hG, .refl, rfl⟩
end
end Go.Sm
end

section
set_option linter.unusedVariables false
namespace Go.Sm
variable {T : Tbl} {α : Type}

/-! ### What a call is handed, and what it leaves -/
def OwnDs (T : Tbl) (w : World) (ds : List (D T.U)) (vs : List Value) (S : Nat → Prop) : Prop :=
  vs.length = ds.length ∧ ∃ F : Nat → Nat → Prop, (∀ (j : Nat) (d : D T.U) (v : Value), ds[j]? = some d → vs[j]? = some v → OwnD T w d v (F j)) ∧ (∀ j b, F j b → S b) ∧ ∀ i j b, F i b → F j b → i = j
def PtrRo (T : Tbl) (w : World) (K : Nat → Prop) (t : Nat) (x : T.U t) (v : Value) : Prop :=
  ∃ b off, ∃ vals : Nat → Value, v = .pointer (some ⟨b, off, none⟩) ∧ ∀ j d, (T.dget t x)[j]? = some d → K b ∧ w.cell? ⟨b, off + j, none⟩ = some (vals j) ∧ RepD T w K d (vals j)
def CapRo (T : Tbl) (w : World) (K : Nat → Prop) : A T → Value → Prop
  | .val false ds, v => RepDs T w K ds [v]
  | .ptr t x, v => PtrRo T w K t x v
  | _, _ => False
def ArgRo (T : Tbl) (w : World) (K : Nat → Prop) : A T → Value → Prop
  | .val true ds, v => ∃ vs : List Value, v = .agg vs.toArray ∧ RepDs T w K ds vs
  | .val false ds, v => RepDs T w K ds [v]
  | .ptr t x, v => PtrRo T w K t x v
  | .nptr, v => v = .pointer none
  | .pix _ _ _, _ => False
  | .fn f caps, v => (f < SLF ∧ ∃ vs : List Value, v = .func (.func f) #[] vs.toArray ∧ vs.length = caps.length ∧ ∀ (j : Nat) (c : A T) (u : Value), caps[j]? = some c → vs[j]? = some u → CapRo T w K c u) ∨ (SLP ≤ f ∧ caps = [] ∧ ∃ b, v = .pointer (some ⟨b, 0, none⟩) ∧ K b)
def ArgRw (T : Tbl) (w : World) (K : Nat → Prop) : Mode → A T → Value → (Nat → Prop) → Prop
  | .rws, .val true ds, v, S => ∃ vs : List Value, v = .agg vs.toArray ∧ OwnDs T w ds vs S
  | .rws, .val false ds, v, S => OwnDs T w ds [v] S
  | .mv, .val false ds, v, S => OwnDs T w ds [v] S
  | .mv, .val true ds, v, S => ∃ vs : List Value, v = .agg vs.toArray ∧ OwnDs T w ds vs S
  | .rws, .pix t l i, v, S => ∃ b off c, v = .pointer (some ⟨b, off + i * T.size t, none⟩) ∧ i < l.length ∧ OwnD T w (.arr t l) (.slice (some ⟨b, off, none⟩) l.length c) S
  | .rwp, .ptr t x, v, S => ∃ b arr el, v = .pointer (some ⟨b, 0, none⟩) ∧ S b ∧ w.heap[b]? = some (cellsE arr el) ∧ OwnDs T w (T.dget t x) arr.toList fun b' => S b' ∧ b' ≠ b
  | .rwv, .ptr t x, v, S => ∃ b arr el, v = .pointer (some ⟨b, 0, none⟩) ∧ S b ∧ w.heap[b]? = some (cellsE arr el) ∧ RepDs T w K (T.dget t x) arr.toList
  | _, _, _, _ => False
inductive ArgsOk (T : Tbl) (w : World) (K : Nat → Prop) : List Mode → List (A T) → List Value → (Nat → Prop) → Prop
  | nil : ArgsOk T w K [] [] [] fun _ => False
  | ro {ms as vs S a v} : ArgRo T w K a v → ArgsOk T w K ms as vs S → ArgsOk T w K (.ro :: ms) (a :: as) (v :: vs) S
  | rw {ms as vs S m a v S1} : ArgRw T w K m a v S1 → ArgsOk T w K ms as vs S → (∀ b, S1 b → ¬ S b) → ArgsOk T w K (m :: ms) (a :: as) (v :: vs) fun b => S1 b ∨ S b

/-- Data that differ at most in what their arrays hold. -/
def Shape : List (D T.U) → List (D T.U) → Prop
  | [], [] => True
  | .arr t _ :: r, .arr t' _ :: r' => t = t' ∧ Shape r r'
  | .arr _ _ :: _, _ => False
  | d :: r, d' :: r' => d = d' ∧ Shape r r'
  | _, _ => False
def slOuts : List (D T.U) → List (Out T)
  | [] => []
  | .arr t l :: r => .sl t l :: slOuts r
  | _ :: r => slOuts r
def OutRw (T : Tbl) (w' : World) (K' : Nat → Prop) : Mode → A T → Value → List (Out T) → (Nat → Prop) → Prop
  | .rws, .val true ds, v, os, R => ∃ (ds' : List (D T.U)) (vs : List Value), v = .agg vs.toArray ∧ os = slOuts ds' ∧ Shape ds ds' ∧ OwnDs T w' ds' vs R
  | .rws, .val false ds, v, os, R => ∃ ds' : List (D T.U), os = slOuts ds' ∧ Shape ds ds' ∧ OwnDs T w' ds' [v] R
  | .rws, .pix t l i, v, os, R => ∃ b off c, ∃ l' : List (T.U t), v = .pointer (some ⟨b, off + i * T.size t, none⟩) ∧ 0 < l.length ∧ os = [.sl t l'] ∧ l'.length = l.length ∧ OwnD T w' (.arr t l') (.slice (some ⟨b, off, none⟩) l.length c) R
  | .mv, .val _ ds, v, os, R => os = []
  | .rwp, .ptr t x, v, os, R => ∃ b arr el, ∃ x' : T.U t, v = .pointer (some ⟨b, 0, none⟩) ∧ os = [.var t x'] ∧ R b ∧ w'.heap[b]? = some (cellsE arr el) ∧ OwnDs T w' (T.dget t x') arr.toList fun b' => R b' ∧ b' ≠ b
  | .rwv, .ptr t x, v, os, R => ∃ b arr el, ∃ x' : T.U t, v = .pointer (some ⟨b, 0, none⟩) ∧ os = [.var t x'] ∧ R b ∧ w'.heap[b]? = some (cellsE arr el) ∧ RepDs T w' K' (T.dget t x') arr.toList
  | _, _, _, _, _ => False
inductive OutsOk (T : Tbl) (w' : World) (K' : Nat → Prop) : List Mode → List (A T) → List Value → List (Out T) → (Nat → Prop) → Prop
  | nil : OutsOk T w' K' [] [] [] [] fun _ => False
  | ro {ms as vs os R a v} : OutsOk T w' K' ms as vs os R → OutsOk T w' K' (.ro :: ms) (a :: as) (v :: vs) os R
  | rw {ms as vs o os R m a v R1} : OutRw T w' K' m a v o R1 → OutsOk T w' K' ms as vs os R → (∀ b, R1 b → ¬ R b) → OutsOk T w' K' (m :: ms) (a :: as) (v :: vs) (o ++ os) fun b => R1 b ∨ R b

/-- A result's cell of which only the first level is one's own. -/
def ShalD (T : Tbl) (w' : World) (K' : Nat → Prop) (d : D T.U) (v : Value) (R : Nat → Prop) : Prop :=
  match d with
  | .arr t l => ∃ A c vals F, v = .slice A l.length c ∧ ArrOk T w' K' t l (.upto 0) A c R vals F
  | d => RepD T w' K' d v
def ShalDs (T : Tbl) (w : World) (K : Nat → Prop) (ds : List (D T.U)) (vs : List Value) (S : Nat → Prop) : Prop :=
  vs.length = ds.length ∧ ∃ F : Nat → Nat → Prop, (∀ (j : Nat) (d : D T.U) (v : Value), ds[j]? = some d → vs[j]? = some v → ShalD T w K d v (F j)) ∧ (∀ j b, F j b → S b) ∧ ∀ i j b, F i b → F j b → i = j
def CellsRk (T : Tbl) (w : World) (K : Nat → Prop) (rk : RK) (ds : List (D T.U)) (vs : List Value) (S : Nat → Prop) : Prop :=
  match rk with
  | .own => OwnDs T w ds vs S
  | .shal => ShalDs T w K ds vs S
  | .ro => RepDs T w K ds vs
def RetOk (T : Tbl) (w' : World) (K' : Nat → Prop) (rk : RK) : RV T → Value → (Nat → Prop) → Prop
  | .val true ds, v, R => ∃ vs : List Value, v = .agg vs.toArray ∧ CellsRk T w' K' rk ds vs R
  | .val false ds, v, R => CellsRk T w' K' rk ds [v] R
  | .ptr t x, v, R => ∃ b arr el, v = .pointer (some ⟨b, 0, none⟩) ∧ R b ∧ w'.heap[b]? = some (cellsE arr el) ∧ RepDs T w' K' (T.dget t x) arr.toList
inductive RetsOk (T : Tbl) (w' : World) (K' : Nat → Prop) (rk : RK) : List (RV T) → List Value → (Nat → Prop) → Prop
  | nil : RetsOk T w' K' rk [] [] fun _ => False
  | cons {xs vs R x v R1} : RetOk T w' K' rk x v R1 → RetsOk T w' K' rk xs vs R → (∀ b, R1 b → ¬ R b) → RetsOk T w' K' rk (x :: xs) (v :: vs) fun b => R1 b ∨ R b
def retVal : List Value → Value
  | [v] => v
  | vs => .tuple vs.toArray
/-- What a call leaves: M: what was lent or given; K: what it might read. -/
structure Post (T : Tbl) (w : World) (K M : Nat → Prop) (sg : Sig) (as : List (A T)) (vs : List Value) (res : Res T) (v : Value) (w' : World) : Prop where
  ex : ∃ (K' R R' : Nat → Prop) (us : List Value), v = retVal us ∧ RetsOk T w' K' sg.rk res.rets us R ∧ OutsOk T w' K' sg.modes as vs res.outs R' ∧
    (∀ b, R b → ¬ R' b) ∧ (∀ b, R b ∨ R' b → ¬ K' b ∧ b < w'.heap.size ∧ (M b ∨ w.heap.size ≤ b)) ∧ (∀ b, K b → K' b) ∧ (∀ b, K' b → b < w'.heap.size ∧ (K b ∨ M b ∨ w.heap.size ≤ b))
  size : w.heap.size ≤ w'.heap.size
  os : w'.os = w.os
  tape : w'.tape = w.tape
  output : Oth w w'
  block : ∀ b, b < w.heap.size → ¬ M b → w'.heap[b]? = w.heap[b]?
/-- A function whose body the program holds. -/
def FnOk (P : Program) (f : Nat) : Prop := ∀ (args : Array Value) (w : World), (callFunc f args).run P w = .ok (.enter f args) w
/-- The values of a function that holds itself: what the pointer leads to is the function, with these. -/
def SelfV (T : Tbl) (w : World) (f : Nat) (us : List Value) : Prop :=
  ∃ b pre vs, us = pre ++ vs ∧ vs.length = (T.cap f).length ∧ vs.getLast? = some (.pointer (some ⟨b, 0, none⟩)) ∧ w.cell? ⟨b, 0, none⟩ = some (.func (.func f) #[] vs.toArray)
def SelfOk (T : Tbl) (w : World) (as : List (A T)) (us : List Value) : Prop :=
  ∀ f caps, as.getLast? = some (.fn f caps) → SLP ≤ f → SelfV T w (f - SLP) us
/-- The call of a function may be said by its arguments' data alone. -/
def CallOk (P : Program) (T : Tbl) (f : Nat) (as : List (A T)) (res : Res T) : Prop :=
  FnOk P f ∧ ∀ (w : World) (K M : Nat → Prop) (vs : List Value), ArgsOk T w K (T.sg f).modes as vs M → SelfOk T w as vs → (∀ b, M b → ¬ K b) → (∀ b, M b ∨ K b → b < w.heap.size) →
    Calls P f vs.toArray w fun e w' => ∃ v, e = .returned v ∧ Post T w K M (T.sg f) as vs res v w'
theorem selfOk_caps {w w' : World} {K : Nat → Prop} {ag1 ag2 : Bool} {ds1 ds2 : List (D T.U)} {caps : List (A T)} {cb us : List Value} (hcl : cb.length = caps.length) (hcb : ∀ (j : Nat) (c : A T) (u : Value), caps[j]? = some c → cb[j]? = some u → CapRo T w K c u) : SelfOk T w' (.val ag1 ds1 :: .val ag2 ds2 :: caps) us := fun f cs hl hf => by
  cases caps with
  | nil => cases hl
  | cons x r =>
    rw [List.getLast?_cons_cons, List.getLast?_cons_cons, List.getLast?_eq_getElem?] at hl
    have hlt := (List.getElem?_eq_some_iff.1 hl).1
    exact (hcb _ _ _ hl (List.getElem?_eq_getElem (by omega))).elim
theorem selfOk_none {w : World} {as : List (A T)} {us : List Value} (h : ∀ a ∈ as, ∃ ag ds, a = .val ag ds) : SelfOk T w as us := fun f cs hl hf => by
  obtain ⟨ag, ds, h1⟩ := h _ (List.mem_of_getLast? hl)
  cases h1
end Go.Sm
end
