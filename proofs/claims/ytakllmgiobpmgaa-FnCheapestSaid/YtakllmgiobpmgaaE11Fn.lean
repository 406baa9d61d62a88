import Derived.Test.YtakllmgiobpmgaaEngA
/- The functions as plain functions over data, and that the law answers true for all arguments. Cheapest: the costs told are proved, one more of a place is not, each way told costs what is told, and the quickest has at least as many steps as the places between. -/
set_option linter.unusedSimpArgs false
set_option linter.deprecated false
set_option linter.unusedSectionVars false
section
set_option linter.unusedVariables false
namespace Go.Sm
/-! ### The places that can be held at a step: a map that is ranged over, told as a list -/
def qrow (may : Int → Option Bool) : List Int → List Int → Option (List Int)
  | [], acc => some acc
  | q :: r, acc => (may q).bind fun b => qrow may r (bif b then q :: acc else acc)
def qstep (may : Int → Option Bool) (nxt : Int → Option (List Int)) : List Int → List Int → Option (List Int)
  | [], acc => some acc
  | p :: r, acc => (nxt p).bind fun l => (qrow may (l ++ [p]) acc).bind fun a => qstep may nxt r a
def qgo (may : Int → Int → Option Bool) (nxt : Int → Option (List Int)) (to most : Int) : Nat → Int → List Int → Option (Int × Bool)
  | 0, _, _ => none
  | f + 1, step, at_ => bif at_.contains to then some (step, true) else bif decide (step = most) then some (-1, false) else
    (qstep (fun q => may q (step + 1)) nxt at_ []).bind fun a => qgo may nxt to most f (step + 1) a
def quickL (may : Int → Int → Option Bool) (nxt : Int → Option (List Int)) (from_ to most : Int) : Option (Int × Bool) :=
  (may from_ 0).bind fun b => qgo may nxt to most 202 0 (bif b then [from_] else [])
theorem qrow_some {may : Int → Option Bool} : ∀ {l acc r : List Int}, qrow may l acc = some r → (∀ q ∈ l, ∃ b, may q = some b) ∧ ∀ z, z ∈ r ↔ z ∈ acc ∨ (z ∈ l ∧ may z = some true)
  | [], acc, r, h => by
    cases h
    exact ⟨fun q hq => (by cases hq), fun z => by simp⟩
  | q :: l, acc, r, h => by
    unfold qrow at h
    cases hm : may q with
    | none => rw [hm] at h; cases h
    | some b =>
      rw [hm, Option.bind_some] at h
      obtain ⟨h1, h2⟩ := qrow_some h
      refine ⟨fun x hx => ?_, fun z => ?_⟩
      · rcases List.mem_cons.1 hx with rfl | hx
        · exact ⟨b, hm⟩
        · exact h1 x hx
      · rw [h2 z]
        cases b with
        | false =>
          rw [cond_false]
          constructor
          · rintro (g | ⟨g1, g2⟩)
            · exact .inl g
            · exact .inr ⟨List.mem_cons_of_mem _ g1, g2⟩
          · rintro (g | ⟨g1, g2⟩)
            · exact .inl g
            · rcases List.mem_cons.1 g1 with rfl | g1
              · rw [hm] at g2; cases g2
              · exact .inr ⟨g1, g2⟩
        | true =>
          rw [cond_true, List.mem_cons, List.mem_cons]
          constructor
          · rintro ((rfl | g) | ⟨g1, g2⟩)
            · exact .inr ⟨.inl rfl, hm⟩
            · exact .inl g
            · exact .inr ⟨.inr g1, g2⟩
          · rintro (g | ⟨rfl | g1, g2⟩)
            · exact .inl (.inr g)
            · exact .inl (.inl rfl)
            · exact .inr ⟨g1, g2⟩
theorem qstep_some {may : Int → Option Bool} {nxt : Int → Option (List Int)} : ∀ {s acc r : List Int}, qstep may nxt s acc = some r →
    (∀ p ∈ s, ∃ l, nxt p = some l ∧ ∀ q ∈ l ++ [p], ∃ b, may q = some b) ∧ ∀ z, z ∈ r ↔ z ∈ acc ∨ (may z = some true ∧ ∃ p ∈ s, ∃ l, nxt p = some l ∧ z ∈ l ++ [p])
  | [], acc, r, h => by
    cases h
    exact ⟨fun q hq => (by cases hq), fun z => by simp⟩
  | p :: s, acc, r, h => by
    unfold qstep at h
    cases hn : nxt p with
    | none => rw [hn] at h; cases h
    | some l =>
      rw [hn, Option.bind_some] at h
      cases ha : qrow may (l ++ [p]) acc with
      | none => rw [ha] at h; cases h
      | some a =>
        rw [ha, Option.bind_some] at h
        obtain ⟨h1, h2⟩ := qstep_some h
        obtain ⟨g1, g2⟩ := qrow_some ha
        refine ⟨fun x hx => ?_, fun z => ?_⟩
        · rcases List.mem_cons.1 hx with rfl | hx
          · exact ⟨l, hn, g1⟩
          · exact h1 x hx
        · rw [h2 z, g2 z]
          constructor
          · rintro ((e | ⟨e1, e2⟩) | ⟨e1, x, e2, e3⟩)
            · exact .inl e
            · exact .inr ⟨e2, p, List.mem_cons_self, l, hn, e1⟩
            · exact .inr ⟨e1, x, List.mem_cons_of_mem _ e2, e3⟩
          · rintro (e | ⟨e1, x, e2, l2, e3, e4⟩)
            · exact .inl (.inl e)
            · rcases List.mem_cons.1 e2 with rfl | e2
              · rw [hn] at e3; cases e3
                exact .inl (.inr ⟨e4, e1⟩)
              · exact .inr ⟨e1, x, e2, l2, e3, e4⟩
end Go.Sm
end

section
set_option linter.unusedVariables false
namespace Go.Sm
structure SClosed where
  X0 : Int
  Y0 : Int
  X1 : Int
  Y1 : Int
  From : Int
  To : Int
structure SSea where
  Wide : Int
  High : Int
  Costs : List Int
  Shut : List SClosed
structure Sl1Cur where
  b : List Int
  i : Int
  h : Int
def dSClosed : SClosed := ⟨(0 : Int), (0 : Int), (0 : Int), (0 : Int), (0 : Int), (0 : Int)⟩
def dSSea : SSea := ⟨(0 : Int), (0 : Int), [], []⟩
def dSl1Cur : Sl1Cur := ⟨[], (0 : Int), (0 : Int)⟩
def laws_big (n : Nat) (code0 : List Int) : Option Bool :=
  some ((decide ((code0.length : Int) > (1048576 : Int))))
def spec_l1New_k0 {R : Type} (n : Nat) (kx0 : Int → Option R) (J : Int → Int → Option R) (code2 : List Int) (h8 : Int) (i9 : Int) : Option R :=
  ix i9 code2.length ((bd (w64 ((w64 (h8 * (131 : Int))) + (w64 (code2.getD i9.toNat (0 : Int))))) fun (v10 : Int) => (bd (w64 (((BitVec.ofInt 64 (w64 (v10 + (7 : Int))) &&& BitVec.ofInt 64 (1073741823 : Int)).toNat : Nat) : Int)) fun (v11 : Int) => J v11 (w64 (i9 + (1 : Int))))))
def spec_l1New_L3 {R : Type} (n : Nat) (kx0 : Int → Option R) (J : Int → Int → Option R) (code2 : List Int) (h3 : Int) (i4 : Int) : Option R :=
  (bif (decide (i4 < (code2.length : Int))) then (bif (decide (i4 < (4000 : Int))) then spec_l1New_k0 n kx0 J code2 h3 i4 else kx0 h3) else kx0 h3)
def spec_l1New (n : Nat) (code0 : List Int) : Option Sl1Cur :=
  (bd (w64 ((59059 : Int) + (code0.length : Int))) fun (v1 : Int) => loopN (fun (x : Int × Int) J' => spec_l1New_L3 n (fun h16 => some ((⟨code0, (0 : Int), h16⟩ : Sl1Cur))) (fun h17 i18 => J' (h17, i18)) code0 x.1 x.2) n (v1, (0 : Int)))
def spec_l1Byte (n : Nat) (c0 : Sl1Cur) : Option (Int × Sl1Cur) :=
  (bd (w64 (c0.h * (6364136223846793005 : Int))) fun (v1 : Int) => (bd (w64 (v1 + (1442695040888963407 : Int))) fun (v2 : Int) => (bd (Int.fdiv v2 (2 ^ (min (33 : Int).toNat 64))) fun (v3 : Int) => (bd (Int.fdiv v2 (2 ^ (min (45 : Int).toNat 64))) fun (v4 : Int) => (bd (w64 (((BitVec.ofInt 64 v3 ^^^ BitVec.ofInt 64 v4).toNat : Nat) : Int)) fun (v5 : Int) => (bd (w64 (((BitVec.ofInt 64 v5 &&& BitVec.ofInt 64 (255 : Int)).toNat : Nat) : Int)) fun (v6 : Int) => (bif (decide (c0.i < (c0.b.length : Int))) then ix c0.i c0.b.length ((bd (w64 (v6 + (w64 (c0.b.getD c0.i.toNat (0 : Int))))) fun (v7 : Int) => (bd (w64 (((BitVec.ofInt 64 v7 &&& BitVec.ofInt 64 (255 : Int)).toNat : Nat) : Int)) fun (v8 : Int) => some (v8, (⟨c0.b, (w64 (c0.i + (1 : Int))), v2⟩ : Sl1Cur))))) else some (v6, (⟨c0.b, c0.i, v2⟩ : Sl1Cur)))))))))
def spec_l1Below_k0 (n : Nat)  (n1 : Int) (p3 : Sl1Cur) : Option (Int × Sl1Cur) :=
  (spec_l1Byte n p3).bind fun r4 => (spec_l1Byte n r4.2).bind fun r5 => (spec_l1Byte n r5.2).bind fun r6 => (spec_l1Byte n r6.2).bind fun r7 => (bd (w64 (r4.1 * (16777216 : Int))) fun (v8 : Int) => (bd (w64 (r5.1 * (65536 : Int))) fun (v9 : Int) => (bd (w64 (r6.1 * (256 : Int))) fun (v10 : Int) => (bd (w64 ((w64 (v8 + v9)) + v10)) fun (v11 : Int) => (bif decide (n1 = 0) then none else (bd (Int.tmod (w64 (v11 + r7.1)) n1) fun (v12 : Int) => some (v12, r7.2)))))))
def spec_l1Below (n : Nat) (c0 : Sl1Cur) (n1 : Int) : Option (Int × Sl1Cur) :=
  (bif (decide (n1 ≤ (0 : Int))) then some ((0 : Int), c0) else (bif (decide (n1 ≤ (256 : Int))) then (spec_l1Byte n c0).bind fun r13 => (bif decide (n1 = 0) then none else some ((Int.tmod r13.1 n1), r13.2)) else spec_l1Below_k0 n  n1 c0))
def spec_l1Once (n : Nat) (c0 : Sl1Cur) (n1 : Int) : Option (Bool × Sl1Cur) :=
  (spec_l1Below n c0 n1).bind fun r1 => some ((decide (r1.1 = (0 : Int))), r1.2)
def spec_l7Draw_k0 {R : Type} (n : Nat) (kx0 : Sl1Cur → List Int → Option R) (J : Int → Sl1Cur → List Int → Option R) (i13 : Int) (p14 : Sl1Cur) (t5 : Int) (t6 : Int) (c7 : List Int) (c8 : List SClosed) (s9 : Int) (s10 : Int) (c15 : List Int) (c12 : List SClosed) : Option R :=
  (spec_l1Below n p14 (5 : Int)).bind fun r16 => (bd (w64 ((1 : Int) + r16.1)) fun (v17 : Int) => (spec_l1Once n r16.2 (4 : Int)).bind fun r18 => (bif r18.1 then chk (decide ((c15 ++ [(0 : Int)]).length * 8 ≤ 140737488355328)) (J (w64 (i13 + (1 : Int))) r18.2 (c15 ++ [(0 : Int)])) else chk (decide ((c15 ++ [v17]).length * 8 ≤ 140737488355328)) (J (w64 (i13 + (1 : Int))) r18.2 (c15 ++ [v17]))))
def spec_l7Draw_L3 {R : Type} (n : Nat) (kx0 : Sl1Cur → List Int → Option R) (J : Int → Sl1Cur → List Int → Option R) (i3 : Int) (p4 : Sl1Cur) (t5 : Int) (t6 : Int) (c7 : List Int) (c8 : List SClosed) (s9 : Int) (s10 : Int) (c11 : List Int) (c12 : List SClosed) : Option R :=
  (bif (decide (i3 < (w64 (s9 * s10)))) then spec_l7Draw_k0 n kx0 J i3 p4 t5 t6 c7 c8 s9 s10 c11 c12 else kx0 p4 c11)
def spec_l7Draw_k1 {R : Type} (n : Nat) (kx2 : List SClosed → Sl1Cur → Option R) (J : Int → Sl1Cur → List SClosed → Option R) (i51 : Int) (p52 : Sl1Cur) (t43 : Int) (t44 : Int) (c45 : List Int) (c46 : List SClosed) (s47 : Int) (s48 : Int) (c49 : List Int) (c53 : List SClosed) : Option R :=
  (spec_l1Below n p52 (5 : Int)).bind fun r54 => (spec_l1Below n r54.2 (5 : Int)).bind fun r55 => (spec_l1Below n r55.2 (5 : Int)).bind fun r56 => (spec_l1Below n r56.2 (2 : Int)).bind fun r57 => (spec_l1Below n r57.2 (2 : Int)).bind fun r58 => (spec_l1Below n r58.2 (6 : Int)).bind fun r59 => (bd (c53 ++ [(⟨r54.1, r55.1, (w64 (r54.1 + r57.1)), (w64 (r55.1 + r58.1)), r56.1, (w64 (r56.1 + r59.1))⟩ : SClosed)]) fun (l60 : List SClosed) => chk (decide (l60.length * 48 ≤ 140737488355328)) (J (w64 (i51 - (1 : Int))) r59.2 l60))
def spec_l7Draw_L10 {R : Type} (n : Nat) (kx2 : List SClosed → Sl1Cur → Option R) (J : Int → Sl1Cur → List SClosed → Option R) (i41 : Int) (p42 : Sl1Cur) (t43 : Int) (t44 : Int) (c45 : List Int) (c46 : List SClosed) (s47 : Int) (s48 : Int) (c49 : List Int) (c50 : List SClosed) : Option R :=
  (bif (decide (i41 > (0 : Int))) then spec_l7Draw_k1 n kx2 J i41 p42 t43 t44 c45 c46 s47 s48 c49 c50 else kx2 c50 p42)
def spec_l7Draw (n : Nat) (c0 : Sl1Cur) : Option (SSea × Sl1Cur) :=
  (spec_l1Below n c0 (5 : Int)).bind fun r1 => (spec_l1Below n r1.2 (5 : Int)).bind fun r2 => loopN (fun (x : Int × Sl1Cur × List Int) J' => spec_l7Draw_L3 n (fun p38 c39 => (spec_l1Below n p38 (3 : Int)).bind fun r40 => loopN (fun (x : Int × Sl1Cur × List SClosed) J' => spec_l7Draw_L10 n (fun c61 p62 => some ((⟨(w64 ((1 : Int) + r1.1)), (w64 ((1 : Int) + r2.1)), c39, c61⟩ : SSea), p62)) (fun i63 p64 c65 => J' (i63, p64, c65)) x.1 x.2.1 (0 : Int) (0 : Int) [] [] (w64 ((1 : Int) + r1.1)) (w64 ((1 : Int) + r2.1)) c39 x.2.2) n (r40.1, r40.2, [])) (fun i66 p67 c68 => J' (i66, p67, c68)) x.1 x.2.1 (0 : Int) (0 : Int) [] [] (w64 ((1 : Int) + r1.1)) (w64 ((1 : Int) + r2.1)) x.2.2 []) n ((0 : Int), r2.2, [])
def spec_DrawRightSea_L4 {R : Type} (n : Nat) (kx0 : Option R) (kxr : Int → Option R) (J : Int → Sl1Cur → Option R) (i3 : Int) (t4 : Int) (t5 : Int) (c6 : List Int) (c7 : List SClosed) (t8 : Sl1Cur) (s9 : Int) (s10 : Int) (c11 : List Int) (c12 : List SClosed) : Option R :=
  (bif (decide (i3 < (30 : Int))) then (spec_l1Below n t8 (c11.length : Int)).bind fun r18 => ix r18.1 c11.length (chk (decide (r18.1.toNat < c11.length)) ((bif (decide ((c11.getD r18.1.toNat (0 : Int)) > (0 : Int))) then kxr r18.1 else J (w64 (i3 + (1 : Int))) r18.2))) else kx0)
def spec_DrawRightSea (n : Nat) (code0 : List Int) : Option (SSea × Int) :=
  (spec_l1New n code0).bind fun r1 => (spec_l7Draw n r1).bind fun r2 => loopN (fun (x : Int × Sl1Cur) J' => spec_DrawRightSea_L4 n (some (r2.1, (0 : Int))) (fun t21 => some (r2.1, t21)) (fun i22 t23 => J' (i22, t23)) x.1 (0 : Int) (0 : Int) [] [] x.2 r2.1.Wide r2.1.High r2.1.Costs r2.1.Shut) n ((0 : Int), r2.2)
def impl_in (n : Nat) (n0 : Int) (least1 : Int) (most2 : Int) : Option Bool :=
  (bif (decide (n0 ≥ least1)) then some ((decide (n0 ≤ most2))) else some (false))
def impl_all_1 (n : Nat) (n0 : Int) (a1 : Int) (a2 : Int) : Option Bool :=
  (impl_in n n0 a1 a2).bind fun r1 => some ((!r1))
def slices_IndexFunc_int_int__impl_all_1_L2 {R : Type} (n : Nat) (kx0 : Option R) (kxr : Int → Option R) (J : Int → Option R) (s1 : List Int) (f2 : Int) (f3 : Int) (t4 : Int) (t5 : Int) : Option R :=
  (bif (decide (t5 < t4)) then ix t5 s1.length ((impl_all_1 n (s1.getD t5.toNat (0 : Int)) f2 f3).bind fun r9 => (bif r9 then kxr t5 else J (w64 (t5 + (1 : Int))))) else kx0)
def slices_IndexFunc_int_int__impl_all_1 (n : Nat) (s0 : List Int) (f1c0 : Int) (f1c1 : Int) : Option Int :=
  loopN (fun (x : Int) J' => slices_IndexFunc_int_int__impl_all_1_L2 n (some ((-1 : Int))) (fun t11 => some (t11)) J' s0 f1c0 f1c1 (s0.length : Int) x) n ((0 : Int))
def slices_ContainsFunc_int_int__impl_all_1 (n : Nat) (s0 : List Int) (f1c0 : Int) (f1c1 : Int) : Option Bool :=
  (slices_IndexFunc_int_int__impl_all_1 n s0 f1c0 f1c1).bind fun r1 => some ((decide (r1 ≥ (0 : Int))))
def impl_all (n : Nat) (l0 : List Int) (least1 : Int) (most2 : Int) : Option Bool :=
  (slices_ContainsFunc_int_int__impl_all_1 n l0 least1 most2).bind fun r1 => some ((!r1))
def impl_SeaOk_k0 {R : Type} (n : Nat) (kx0 : Option R) (kxr : Bool → Option R) (J : Int → Option R) (t6 : List SClosed) (t7 : Int) (t9 : Int) : Option R :=
  ix t9 t6.length ((bd (t6.getD t9.toNat dSClosed) fun (e10 : SClosed) => (impl_in n e10.X0 (0 : Int) e10.X1).bind fun r11 => (bif (!r11) then kxr false else (bif (decide (e10.X1 > (11 : Int))) then kxr false else (impl_in n e10.Y0 (0 : Int) e10.Y1).bind fun r14 => (bif (!r14) then kxr false else (bif (decide (e10.Y1 > (11 : Int))) then kxr false else (impl_in n e10.From (0 : Int) e10.To).bind fun r17 => (bif (!r17) then kxr false else (bif (decide (e10.To > (1000000 : Int))) then kxr false else J (w64 (t9 + (1 : Int)))))))))))
def impl_SeaOk_L4 {R : Type} (n : Nat) (kx0 : Option R) (kxr : Bool → Option R) (J : Int → Option R) (t6 : List SClosed) (t7 : Int) (t8 : Int) : Option R :=
  (bif (decide (t8 < t7)) then impl_SeaOk_k0 n kx0 kxr J t6 t7 t8 else kx0)
def impl_SeaOk (n : Nat) (s0 : SSea) : Option Bool :=
  (impl_in n s0.Wide (1 : Int) (12 : Int)).bind fun r1 => (bif (!r1) then some (false) else (impl_in n s0.High (1 : Int) (12 : Int)).bind fun r2 => (bif (!r2) then some (false) else (bd (w64 (s0.Wide * s0.High)) fun (v3 : Int) => (bif (!(decide ((s0.Costs.length : Int) = v3))) then some (false) else (impl_all n s0.Costs (0 : Int) (1000 : Int)).bind fun r4 => (bif (!r4) then some (false) else (bif (decide ((s0.Shut.length : Int) > (10 : Int))) then some (false) else loopN (fun (x : Int) J' => impl_SeaOk_L4 n (some (true)) (fun t27 => some (t27)) J' s0.Shut (s0.Shut.length : Int) x) n ((0 : Int))))))))
def impl_Sea_place (n : Nat) (s0 : SSea) (p1 : Int) : Option Bool :=
  (bd (w64 ((s0.Costs.length : Int) - (1 : Int))) fun (v1 : Int) => (impl_in n p1 (0 : Int) v1).bind fun r2 => some (r2))
def impl_Sea_next_k0 (n : Nat)  (p1 : Int) (x6 : Int) (y7 : Int) (s0 : SSea) (t8 : List Int) : Option (List Int) :=
  (bd (w64 (s0.Wide - (1 : Int))) fun (v9 : Int) => (bif (decide (x6 < v9)) then (bd (t8 ++ [(w64 (p1 + (1 : Int)))]) fun (l10 : List Int) => chk (decide (l10.length * 8 ≤ 140737488355328)) ((bd (w64 (s0.High - (1 : Int))) fun (v17 : Int) => (bif (decide (y7 < v17)) then (bd (l10 ++ [(w64 (p1 + s0.Wide))]) fun (l18 : List Int) => chk (decide (l18.length * 8 ≤ 140737488355328)) (some (l18))) else some (l10))))) else (bd (w64 (s0.High - (1 : Int))) fun (v27 : Int) => (bif (decide (y7 < v27)) then (bd (t8 ++ [(w64 (p1 + s0.Wide))]) fun (l28 : List Int) => chk (decide (l28.length * 8 ≤ 140737488355328)) (some (l28))) else some (t8)))))
def impl_Sea_next_k1 (n : Nat)  (p1 : Int) (x31 : Int) (y32 : Int) (s0 : SSea) (t33 : List Int) : Option (List Int) :=
  (bd (w64 (s0.Wide - (1 : Int))) fun (v34 : Int) => (bif (decide (x31 < v34)) then (bd (t33 ++ [(w64 (p1 + (1 : Int)))]) fun (l35 : List Int) => chk (decide (l35.length * 8 ≤ 140737488355328)) ((bd (w64 (s0.High - (1 : Int))) fun (v38 : Int) => (bif (decide (y32 < v38)) then (bd (l35 ++ [(w64 (p1 + s0.Wide))]) fun (l39 : List Int) => chk (decide (l39.length * 8 ≤ 140737488355328)) (some (l39))) else some (l35))))) else (bd (w64 (s0.High - (1 : Int))) fun (v48 : Int) => (bif (decide (y32 < v48)) then (bd (t33 ++ [(w64 (p1 + s0.Wide))]) fun (l49 : List Int) => chk (decide (l49.length * 8 ≤ 140737488355328)) (some (l49))) else some (t33)))))
def impl_Sea_next_k2 (n : Nat)  (p1 : Int) (x61 : Int) (y62 : Int) (s0 : SSea) (t63 : List Int) : Option (List Int) :=
  (bd (w64 (s0.Wide - (1 : Int))) fun (v64 : Int) => (bif (decide (x61 < v64)) then (bd (t63 ++ [(w64 (p1 + (1 : Int)))]) fun (l65 : List Int) => chk (decide (l65.length * 8 ≤ 140737488355328)) ((bd (w64 (s0.High - (1 : Int))) fun (v72 : Int) => (bif (decide (y62 < v72)) then (bd (l65 ++ [(w64 (p1 + s0.Wide))]) fun (l73 : List Int) => chk (decide (l73.length * 8 ≤ 140737488355328)) (some (l73))) else some (l65))))) else (bd (w64 (s0.High - (1 : Int))) fun (v82 : Int) => (bif (decide (y62 < v82)) then (bd (t63 ++ [(w64 (p1 + s0.Wide))]) fun (l83 : List Int) => chk (decide (l83.length * 8 ≤ 140737488355328)) (some (l83))) else some (t63)))))
def impl_Sea_next_k3 (n : Nat)  (p1 : Int) (x86 : Int) (y87 : Int) (s0 : SSea) : Option (List Int) :=
  (bd (w64 (s0.Wide - (1 : Int))) fun (v88 : Int) => (bif (decide (x86 < v88)) then (bd (w64 (s0.High - (1 : Int))) fun (v95 : Int) => (bif (decide (y87 < v95)) then (bd [(w64 (p1 + (1 : Int))), (w64 (p1 + s0.Wide))] fun (l96 : List Int) => chk (decide (l96.length * 8 ≤ 140737488355328)) (some (l96))) else some ([(w64 (p1 + (1 : Int)))]))) else (bd (w64 (s0.High - (1 : Int))) fun (v102 : Int) => (bif (decide (y87 < v102)) then some ([(w64 (p1 + s0.Wide))]) else some ([])))))
def impl_Sea_next (n : Nat) (s0 : SSea) (p1 : Int) : Option (List Int) :=
  (bif decide (s0.Wide = 0) then none else (bif decide (s0.Wide = 0) then none else (bd (w64 (Int.tdiv p1 s0.Wide)) fun (v1 : Int) => (bif (decide (v1 > (0 : Int))) then (bif (decide ((Int.tmod p1 s0.Wide) > (0 : Int))) then (bd [(w64 (p1 - s0.Wide)), (w64 (p1 - (1 : Int)))] fun (l52 : List Int) => chk (decide (l52.length * 8 ≤ 140737488355328)) (impl_Sea_next_k0 n  p1 (Int.tmod p1 s0.Wide) v1 s0 l52)) else impl_Sea_next_k1 n  p1 (Int.tmod p1 s0.Wide) v1 s0 [(w64 (p1 - s0.Wide))]) else (bif (decide ((Int.tmod p1 s0.Wide) > (0 : Int))) then impl_Sea_next_k2 n  p1 (Int.tmod p1 s0.Wide) v1 s0 [(w64 (p1 - (1 : Int)))] else impl_Sea_next_k3 n  p1 (Int.tmod p1 s0.Wide) v1 s0)))))
def impl_Cheapest_L5 {R : Type} (n : Nat) (kx0 : List Int → Option R) (J : Int → List Int → Option R) (from4 : Int) (t5 : Int) (t6 : Int) (s7 : SSea) (out8 : List Int) : Option R :=
  (bif (decide (t6 < t5)) then ix t6 out8.length (chk (decide (t6.toNat < out8.length)) ((bd (out8.set t6.toNat (-1 : Int)) fun (l12 : List Int) => J (w64 (t6 + (1 : Int))) l12))) else kx0 out8)
def impl_Cheapest_k0 {R : Type} (n : Nat) (kx6 : Bool → List Int → Option R) (J : Bool → Int → List Int → Option R) (again46 : Bool) (d38 : Int) (t39 : Int) (t40 : Int) (t41 : Int) (t47 : Int) (s43 : SSea) (t48 : List Int) (t45 : List Int) : Option R :=
  ix t47 t45.length (chk (decide (t47.toNat < t45.length)) (ix (t45.getD t47.toNat (0 : Int)) s43.Costs.length ((bd (s43.Costs.getD ((t45.getD t47.toNat (0 : Int)).toNat) (0 : Int)) fun (e49 : Int) => (bif (decide (e49 > (0 : Int))) then ix (t45.getD t47.toNat (0 : Int)) t48.length (chk (decide ((t45.getD t47.toNat (0 : Int)).toNat < t48.length)) ((bif (decide ((t48.getD ((t45.getD t47.toNat (0 : Int)).toNat) (0 : Int)) < (0 : Int))) then ix (t45.getD t47.toNat (0 : Int)) t48.length (chk (decide ((t45.getD t47.toNat (0 : Int)).toNat < t48.length)) ((bd (t48.set ((t45.getD t47.toNat (0 : Int)).toNat) (w64 (d38 + e49))) fun (l58 : List Int) => J true (w64 (t47 + (1 : Int))) l58))) else ix (t45.getD t47.toNat (0 : Int)) t48.length (chk (decide ((t45.getD t47.toNat (0 : Int)).toNat < t48.length)) ((bif (decide ((t48.getD ((t45.getD t47.toNat (0 : Int)).toNat) (0 : Int)) > (w64 (d38 + e49)))) then ix (t45.getD t47.toNat (0 : Int)) t48.length (chk (decide ((t45.getD t47.toNat (0 : Int)).toNat < t48.length)) ((bd (t48.set ((t45.getD t47.toNat (0 : Int)).toNat) (w64 (d38 + e49))) fun (l73 : List Int) => J true (w64 (t47 + (1 : Int))) l73))) else J again46 (w64 (t47 + (1 : Int))) t48)))))) else J again46 (w64 (t47 + (1 : Int))) t48)))))
def impl_Cheapest_L20 {R : Type} (n : Nat) (kx6 : Bool → List Int → Option R) (J : Bool → Int → List Int → Option R) (again37 : Bool) (d38 : Int) (t39 : Int) (t40 : Int) (t41 : Int) (t42 : Int) (s43 : SSea) (t44 : List Int) (t45 : List Int) : Option R :=
  (bif (decide (t42 < t41)) then impl_Cheapest_k0 n kx6 J again37 d38 t39 t40 t41 t42 s43 t44 t45 else kx6 again37 t44)
def impl_Cheapest_k1 {R : Type} (n : Nat) (kx4 : Bool → List Int → Option R) (J : Bool → Int → List Int → Option R) (again31 : Bool) (p32 : Int) (d33 : Int) (t21 : Int) (t34 : Int) (s23 : SSea) (t35 : List Int) : Option R :=
  (impl_Sea_next n s23 p32).bind fun r36 => loopN (fun (x : Bool × Int × List Int) J' => impl_Cheapest_L20 n (fun again90 t91 => J again90 (w64 (t34 + (1 : Int))) t91) (fun again95 t96 t97 => J' (again95, t96, t97)) x.1 d33 t21 t34 (r36.length : Int) x.2.1 s23 x.2.2 r36) n (again31, (0 : Int), t35)
def impl_Cheapest_L16 {R : Type} (n : Nat) (kx4 : Bool → List Int → Option R) (J : Bool → Int → List Int → Option R) (again20 : Bool) (t21 : Int) (t22 : Int) (s23 : SSea) (t24 : List Int) : Option R :=
  (bif (decide (t22 < t21)) then ix t22 t24.length (chk (decide (t22.toNat < t24.length)) ((bif (decide ((t24.getD t22.toNat (0 : Int)) < (0 : Int))) then J again20 (w64 (t22 + (1 : Int))) t24 else impl_Cheapest_k1 n kx4 J again20 t22 (t24.getD t22.toNat (0 : Int)) t21 t22 s23 t24))) else kx4 again20 t24)
def impl_Cheapest_L13 {R : Type} (n : Nat) (kx2 : List Int → Option R) (J : Bool → List Int → Option R) (again16 : Bool) (s17 : SSea) (out18 : List Int) : Option R :=
  (bif again16 then loopN (fun (x : Bool × Int × List Int) J' => impl_Cheapest_L16 n (fun again111 out112 => J again111 out112) (fun again113 t114 t115 => J' (again113, t114, t115)) x.1 (out18.length : Int) x.2.1 s17 x.2.2) n (false, (0 : Int), out18) else kx2 out18)
def impl_Cheapest_k2 (n : Nat)  (from1 : Int) (s0 : SSea) (out14 : List Int) : Option (List Int × Bool) :=
  ix from1 out14.length (chk (decide (from1.toNat < out14.length)) ((bd (out14.set from1.toNat (0 : Int)) fun (l15 : List Int) => loopN (fun (x : Bool × List Int) J' => impl_Cheapest_L13 n (fun out116 => some (out116, true)) (fun again117 out118 => J' (again117, out118)) x.1 s0 x.2) n (true, l15))))
def impl_Cheapest_k3 (n : Nat)  (from1 : Int) (s0 : SSea) : Option (List Int × Bool) :=
  chk (decide ((0 : Int) ≤ (s0.Costs.length : Int))) (chk (decide ((s0.Costs.length : Int) ≤ (s0.Costs.length : Int))) (chk (decide ((s0.Costs.length : Int) ≤ 9223372036854775807 ∧ (s0.Costs.length : Int) * (8 : Int) ≤ 281474976710656)) (loopN (fun (x : Int × List Int) J' => impl_Cheapest_L5 n (fun out13 => ix from1 s0.Costs.length ((bif (decide ((s0.Costs.getD from1.toNat (0 : Int)) = (0 : Int))) then some (out13, true) else impl_Cheapest_k2 n  from1 s0 out13))) (fun t119 out120 => J' (t119, out120)) from1 ((List.replicate (s0.Costs.length : Int).toNat (0 : Int)).length : Int) x.1 s0 x.2) n ((0 : Int), (List.replicate (s0.Costs.length : Int).toNat (0 : Int))))))
def impl_Cheapest (n : Nat) (s0 : SSea) (from1 : Int) : Option (List Int × Bool) :=
  (impl_SeaOk n s0).bind fun r1 => (bif (!r1) then some ([], false) else (impl_Sea_place n s0 from1).bind fun r2 => (bif (!r2) then some ([], false) else impl_Cheapest_k3 n  from1 s0))
def impl_Proves_k0 {R : Type} (n : Nat) (kx2 : Bool → Option R) (kxr : Bool → Option R) (J : Bool → Int → Option R) (from26 : Int) (costs27 : List Int) (p28 : Int) (d29 : Int) (reason50 : Bool) (q51 : Int) (t31 : List Int) (t32 : Int) (t33 : Int) (t34 : Int) (t52 : Int) (s36 : SSea) (t37 : List Int) : Option R :=
  (bif reason50 then J true (w64 (t52 + (1 : Int))) else ix q51 costs27.length ((bif (decide ((costs27.getD q51.toNat (0 : Int)) ≥ (0 : Int))) then ix q51 costs27.length (ix p28 s36.Costs.length ((bd (w64 (d29 - (s36.Costs.getD p28.toNat (0 : Int)))) fun (v54 : Int) => J (decide ((costs27.getD q51.toNat (0 : Int)) = v54)) (w64 (t52 + (1 : Int)))))) else J false (w64 (t52 + (1 : Int))))))
def impl_Proves_k1 {R : Type} (n : Nat) (kx2 : Bool → Option R) (kxr : Bool → Option R) (J : Bool → Int → Option R) (from26 : Int) (costs27 : List Int) (p28 : Int) (d29 : Int) (reason38 : Bool) (t31 : List Int) (t32 : Int) (t33 : Int) (t34 : Int) (t39 : Int) (s36 : SSea) (t37 : List Int) : Option R :=
  ix t39 t37.length (chk (decide (t39.toNat < t37.length)) (ix (t37.getD t39.toNat (0 : Int)) s36.Costs.length ((bd (s36.Costs.getD ((t37.getD t39.toNat (0 : Int)).toNat) (0 : Int)) fun (e40 : Int) => (bif (decide (e40 > (0 : Int))) then ix (t37.getD t39.toNat (0 : Int)) costs27.length ((bd (costs27.getD ((t37.getD t39.toNat (0 : Int)).toNat) (0 : Int)) fun (e41 : Int) => (bif (decide (e41 = (-1 : Int))) then kxr false else ix (t37.getD t39.toNat (0 : Int)) costs27.length ((bd (costs27.getD ((t37.getD t39.toNat (0 : Int)).toNat) (0 : Int)) fun (e45 : Int) => (bif (decide ((w64 (e45 - e40)) > d29)) then kxr false else impl_Proves_k0 n kx2 kxr J from26 costs27 p28 d29 reason38 (t37.getD t39.toNat (0 : Int)) t31 t32 t33 t34 t39 s36 t37)))))) else impl_Proves_k0 n kx2 kxr J from26 costs27 p28 d29 reason38 (t37.getD t39.toNat (0 : Int)) t31 t32 t33 t34 t39 s36 t37)))))
def impl_Proves_L11 {R : Type} (n : Nat) (kx2 : Bool → Option R) (kxr : Bool → Option R) (J : Bool → Int → Option R) (from26 : Int) (costs27 : List Int) (p28 : Int) (d29 : Int) (reason30 : Bool) (t31 : List Int) (t32 : Int) (t33 : Int) (t34 : Int) (t35 : Int) (s36 : SSea) (t37 : List Int) : Option R :=
  (bif (decide (t35 < t34)) then impl_Proves_k1 n kx2 kxr J from26 costs27 p28 d29 reason30 t31 t32 t33 t34 t35 s36 t37 else kx2 reason30)
def impl_Proves_k2 {R : Type} (n : Nat) (kx0 : Option R) (kxr : Bool → Option R) (J : Int → Option R) (from4 : Int) (costs5 : List Int) (p22 : Int) (d23 : Int) (t6 : List Int) (t7 : Int) (t24 : Int) (s9 : SSea) : Option R :=
  (impl_Sea_next n s9 p22).bind fun r25 => loopN (fun (x : Bool × Int) J' => impl_Proves_L11 n (fun reason70 => (bif (!reason70) then kxr false else J (w64 (t24 + (1 : Int))))) (fun t72 => kxr t72) (fun reason73 t74 => J' (reason73, t74)) from4 costs5 p22 d23 x.1 t6 t7 t24 (r25.length : Int) x.2 s9 r25) n ((decide (p22 = from4)), (0 : Int))
def impl_Proves_k3 {R : Type} (n : Nat) (kx0 : Option R) (kxr : Bool → Option R) (J : Int → Option R) (from4 : Int) (costs5 : List Int) (t6 : List Int) (t7 : Int) (t10 : Int) (s9 : SSea) : Option R :=
  ix t10 t6.length ((bif (decide ((t6.getD t10.toNat (0 : Int)) < (-1 : Int))) then kxr false else ix t10 s9.Costs.length ((bif (decide ((s9.Costs.getD t10.toNat (0 : Int)) = (0 : Int))) then (bif (!(decide ((t6.getD t10.toNat (0 : Int)) = (-1 : Int)))) then kxr false else (bif (decide ((t6.getD t10.toNat (0 : Int)) < (0 : Int))) then J (w64 (t10 + (1 : Int))) else impl_Proves_k2 n kx0 kxr J from4 costs5 t10 (t6.getD t10.toNat (0 : Int)) t6 t7 t10 s9)) else (bif (decide ((t6.getD t10.toNat (0 : Int)) < (0 : Int))) then J (w64 (t10 + (1 : Int))) else impl_Proves_k2 n kx0 kxr J from4 costs5 t10 (t6.getD t10.toNat (0 : Int)) t6 t7 t10 s9)))))
def impl_Proves_L4 {R : Type} (n : Nat) (kx0 : Option R) (kxr : Bool → Option R) (J : Int → Option R) (from4 : Int) (costs5 : List Int) (t6 : List Int) (t7 : Int) (t8 : Int) (s9 : SSea) : Option R :=
  (bif (decide (t8 < t7)) then impl_Proves_k3 n kx0 kxr J from4 costs5 t6 t7 t8 s9 else kx0)
def impl_Proves (n : Nat) (s0 : SSea) (from1 : Int) (costs2 : List Int) : Option Bool :=
  (impl_SeaOk n s0).bind fun r1 => (bif (!r1) then some (false) else (impl_Sea_place n s0 from1).bind fun r2 => (bif (!r2) then some (false) else ix from1 s0.Costs.length ((bif (decide ((s0.Costs.getD from1.toNat (0 : Int)) = (0 : Int))) then some (false) else (bif (!(decide ((costs2.length : Int) = (s0.Costs.length : Int)))) then some (false) else ix from1 costs2.length ((bif (!(decide ((costs2.getD from1.toNat (0 : Int)) = (0 : Int)))) then some (false) else loopN (fun (x : Int) J' => impl_Proves_L4 n (some (true)) (fun t107 => some (t107)) J' from1 costs2 costs2 (costs2.length : Int) x s0) n ((0 : Int)))))))))
def laws_at (n : Nat) (code0 : List Int) (i1 : Int) : Option Int :=
  (bif (decide (i1 < (code0.length : Int))) then ix i1 code0.length (some ((w64 (code0.getD i1.toNat (0 : Int))))) else (bd (w64 ((w64 (i1 * (7 : Int))) + (code0.length : Int))) fun (v3 : Int) => (bd (Int.tmod v3 (256 : Int)) fun (v4 : Int) => some (v4))))
def impl_own_int (n : Nat) (l0 : List Int) : Option (List Int) :=
  chk (decide ((0 : Int) ≤ (l0.length : Int))) (chk (decide ((l0.length : Int) ≤ 9223372036854775807 ∧ (l0.length : Int) * (8 : Int) ≤ 281474976710656)) (chk (decide (l0.length * 8 ≤ 140737488355328)) (some (l0))))
def impl_WayOf_k0 {R : Type} (n : Nat) (kx2 : Int → Option R) (J : Int → Option R) (from16 : Int) (p17 : Int) (t18 : Int) (t24 : Int) (s20 : SSea) (d21 : List Int) (way22 : List Int) (t23 : List Int) : Option R :=
  ix t24 t23.length (chk (decide (t24.toNat < t23.length)) (ix (t23.getD t24.toNat (0 : Int)) d21.length (chk (decide ((t23.getD t24.toNat (0 : Int)).toNat < d21.length)) ((bif (decide ((d21.getD ((t23.getD t24.toNat (0 : Int)).toNat) (0 : Int)) ≥ (0 : Int))) then ix (t23.getD t24.toNat (0 : Int)) d21.length (chk (decide ((t23.getD t24.toNat (0 : Int)).toNat < d21.length)) (ix p17 s20.Costs.length ((bd (w64 ((d21.getD ((t23.getD t24.toNat (0 : Int)).toNat) (0 : Int)) + (s20.Costs.getD p17.toNat (0 : Int)))) fun (v25 : Int) => ix p17 d21.length (chk (decide (p17.toNat < d21.length)) ((bif (decide (v25 = (d21.getD p17.toNat (0 : Int)))) then kx2 (t23.getD t24.toNat (0 : Int)) else J (w64 (t24 + (1 : Int)))))))))) else J (w64 (t24 + (1 : Int))))))))
def impl_WayOf_L8 {R : Type} (n : Nat) (kx2 : Int → Option R) (J : Int → Option R) (from16 : Int) (p17 : Int) (t18 : Int) (t19 : Int) (s20 : SSea) (d21 : List Int) (way22 : List Int) (t23 : List Int) : Option R :=
  (bif (decide (t19 < t18)) then impl_WayOf_k0 n kx2 J from16 p17 t18 t19 s20 d21 way22 t23 else kx2 p17)
def impl_WayOf_L6 {R : Type} (n : Nat) (kx0 : List Int → Option R) (J : Int → List Int → Option R) (from8 : Int) (p9 : Int) (s10 : SSea) (d11 : List Int) (way12 : List Int) : Option R :=
  (bif (!(decide (p9 = from8))) then (impl_Sea_next n s10 p9).bind fun r37 => loopN (fun (x : Int) J' => impl_WayOf_L8 n (fun p38 => chk (decide ((way12 ++ [p38]).length * 8 ≤ 140737488355328)) (J p38 (way12 ++ [p38]))) J' from8 p9 (r37.length : Int) x s10 d11 way12 r37) n ((0 : Int)) else kx0 way12)
def impl_WayOf_k1 {R : Type} (n : Nat) (kx4 : List Int → Option R) (J : Int → Int → List Int → Option R) (i45 : Int) (k46 : Int) (way47 : List Int) : Option R :=
  ix k46 way47.length (chk (decide (k46.toNat < way47.length)) (ix i45 way47.length (chk (decide (i45.toNat < way47.length)) (ix i45 way47.length (chk (decide (i45.toNat < way47.length)) ((bd (way47.set i45.toNat (way47.getD k46.toNat (0 : Int))) fun (l48 : List Int) => ix k46 l48.length (chk (decide (k46.toNat < l48.length)) ((bd (l48.set k46.toNat (way47.getD i45.toNat (0 : Int))) fun (l49 : List Int) => J (w64 (i45 + (1 : Int))) (w64 (k46 - (1 : Int))) l49))))))))))
def impl_WayOf_L15 {R : Type} (n : Nat) (kx4 : List Int → Option R) (J : Int → Int → List Int → Option R) (i42 : Int) (k43 : Int) (way44 : List Int) : Option R :=
  (bif (decide (i42 < k43)) then impl_WayOf_k1 n kx4 J i42 k43 way44 else kx4 way44)
def impl_WayOf_k2 (n : Nat)  (from1 : Int) (to2 : Int) (s0 : SSea) (t7 : List Int) : Option (List Int × Bool) :=
  loopN (fun (x : Int × List Int) J' => impl_WayOf_L6 n (fun way40 => (bd (w64 ((way40.length : Int) - (1 : Int))) fun (v41 : Int) => loopN (fun (x : Int × Int × List Int) J' => impl_WayOf_L15 n (fun way50 => (impl_own_int n way50).bind fun r51 => some (r51, true)) (fun i52 k53 way54 => J' (i52, k53, way54)) x.1 x.2.1 x.2.2) n ((0 : Int), v41, way40))) (fun p55 way56 => J' (p55, way56)) from1 x.1 s0 t7 x.2) n (to2, [to2])
def impl_WayOf (n : Nat) (s0 : SSea) (from1 : Int) (to2 : Int) : Option (List Int × Bool) :=
  (impl_Cheapest n s0 from1).bind fun r1 => (bif (!r1.2) then some ([], false) else (impl_Sea_place n s0 to2).bind fun r3 => (bif (!r3) then some ([], false) else ix to2 r1.1.length (chk (decide (to2.toNat < r1.1.length)) ((bif (decide ((r1.1.getD to2.toNat (0 : Int)) < (0 : Int))) then some ([], false) else impl_WayOf_k2 n  from1 to2 s0 r1.1)))))
def impl_WayCost_L12 {R : Type} (n : Nat) (kx2 : Bool → Option R) (J : Bool → Int → Option R) (way34 : List Int) (sum35 : Int) (p36 : Int) (near37 : Bool) (t38 : List Int) (t39 : Int) (t40 : Int) (t41 : Int) (t42 : Int) (s43 : SSea) (t44 : List Int) : Option R :=
  (bif (decide (t42 < t41)) then ix t42 t44.length (chk (decide (t42.toNat < t44.length)) ((bif near37 then J true (w64 (t42 + (1 : Int))) else J (decide ((t44.getD t42.toNat (0 : Int)) = p36)) (w64 (t42 + (1 : Int)))))) else kx2 near37)
def impl_WayCost_k0 {R : Type} (n : Nat) (kx0 : Int → Option R) (kxr : Int → Bool → Option R) (J : Int → Int → Option R) (way4 : List Int) (sum29 : Int) (i30 : Int) (p31 : Int) (t6 : List Int) (t7 : Int) (t32 : Int) (s9 : SSea) : Option R :=
  ix (w64 (i30 - (1 : Int))) way4.length ((impl_Sea_next n s9 (way4.getD ((w64 (i30 - (1 : Int))).toNat) (0 : Int))).bind fun r33 => loopN (fun (x : Bool × Int) J' => impl_WayCost_L12 n (fun near53 => (bif (!near53) then kxr (0 : Int) false else ix p31 s9.Costs.length ((bd (w64 (sum29 + (s9.Costs.getD p31.toNat (0 : Int)))) fun (v60 : Int) => J v60 (w64 (t32 + (1 : Int))))))) (fun near63 t64 => J' (near63, t64)) way4 sum29 p31 x.1 t6 t7 t32 (r33.length : Int) x.2 s9 r33) n (false, (0 : Int)))
def impl_WayCost_k1 {R : Type} (n : Nat) (kx0 : Int → Option R) (kxr : Int → Bool → Option R) (J : Int → Int → Option R) (way4 : List Int) (sum10 : Int) (t6 : List Int) (t7 : Int) (t11 : Int) (s9 : SSea) : Option R :=
  ix t11 t6.length ((impl_Sea_place n s9 (t6.getD t11.toNat (0 : Int))).bind fun r12 => (bif (!r12) then kxr (0 : Int) false else ix (t6.getD t11.toNat (0 : Int)) s9.Costs.length ((bd (s9.Costs.getD ((t6.getD t11.toNat (0 : Int)).toNat) (0 : Int)) fun (e17 : Int) => (bif (decide (e17 = (0 : Int))) then kxr (0 : Int) false else (bif (decide (t11 = (0 : Int))) then J sum10 (w64 (t11 + (1 : Int))) else impl_WayCost_k0 n kx0 kxr J way4 sum10 t11 (t6.getD t11.toNat (0 : Int)) t6 t7 t11 s9))))))
def impl_WayCost_L5 {R : Type} (n : Nat) (kx0 : Int → Option R) (kxr : Int → Bool → Option R) (J : Int → Int → Option R) (way4 : List Int) (sum5 : Int) (t6 : List Int) (t7 : Int) (t8 : Int) (s9 : SSea) : Option R :=
  (bif (decide (t8 < t7)) then impl_WayCost_k1 n kx0 kxr J way4 sum5 t6 t7 t8 s9 else kx0 sum5)
def impl_WayCost (n : Nat) (s0 : SSea) (way1 : List Int) : Option (Int × Bool) :=
  (impl_SeaOk n s0).bind fun r1 => (bif (!r1) then some ((0 : Int), false) else (impl_in n (way1.length : Int) (1 : Int) (200 : Int)).bind fun r2 => (bif (!r2) then some ((0 : Int), false) else loopN (fun (x : Int × Int) J' => impl_WayCost_L5 n (fun sum91 => some (sum91, true)) (fun t92 t93 => some (t92, t93)) (fun sum94 t95 => J' (sum94, t95)) way1 x.1 way1 (way1.length : Int) x.2 s0) n ((0 : Int), (0 : Int))))
def impl_Sea_shut_k0 {R : Type} (n : Nat) (kx0 : Option R) (kxr : Bool → Option R) (J : Int → Option R) (step2 : Int) (x3 : Int) (y4 : Int) (t5 : List SClosed) (t6 : Int) (t8 : Int) : Option R :=
  ix t8 t5.length ((bd (t5.getD t8.toNat dSClosed) fun (e9 : SClosed) => (impl_in n x3 e9.X0 e9.X1).bind fun r10 => (bif r10 then (impl_in n y4 e9.Y0 e9.Y1).bind fun r11 => (bif r11 then (impl_in n step2 e9.From e9.To).bind fun r12 => (bif r12 then kxr true else J (w64 (t8 + (1 : Int)))) else J (w64 (t8 + (1 : Int)))) else J (w64 (t8 + (1 : Int))))))
def impl_Sea_shut_L3 {R : Type} (n : Nat) (kx0 : Option R) (kxr : Bool → Option R) (J : Int → Option R) (step2 : Int) (x3 : Int) (y4 : Int) (t5 : List SClosed) (t6 : Int) (t7 : Int) : Option R :=
  (bif (decide (t7 < t6)) then impl_Sea_shut_k0 n kx0 kxr J step2 x3 y4 t5 t6 t7 else kx0)
def impl_Sea_shut (n : Nat) (s0 : SSea) (p1 : Int) (step2 : Int) : Option Bool :=
  (bif decide (s0.Wide = 0) then none else (bif decide (s0.Wide = 0) then none else (bd (w64 (Int.tdiv p1 s0.Wide)) fun (v1 : Int) => loopN (fun (x : Int) J' => impl_Sea_shut_L3 n (some (false)) (fun t22 => some (t22)) J' step2 (Int.tmod p1 s0.Wide) v1 s0.Shut (s0.Shut.length : Int) x) n ((0 : Int)))))
def impl_Quickest (n : Nat) (s0 : SSea) (from1 : Int) (to2 : Int) (most3 : Int) : Option (Int × Bool) :=
  (impl_SeaOk n s0).bind fun b0 => bif !b0 then some (-1, false) else (impl_Sea_place n s0 from1).bind fun b1 => bif !b1 then some (-1, false) else (impl_Sea_place n s0 to2).bind fun b2 => bif !b2 then some (-1, false) else (impl_in n most3 0 200).bind fun b3 => bif !b3 then some (-1, false) else quickL (fun q st => ix q s0.Costs.length (bif decide (s0.Costs.getD q.toNat 0 > 0) then (impl_Sea_shut n s0 q st).bind fun b => some (!b) else some false)) (fun p => impl_Sea_next n s0 p) from1 to2 most3
def laws_size (n : Nat) (x0 : Int) : Option Int :=
  (bif (decide (x0 < (0 : Int))) then some ((w64 (0 - x0))) else some (x0))
def impl_WayShut_L5 {R : Type} (n : Nat) (kx0 : Option R) (kxr : Int → Bool → Option R) (J : Int → Option R) (t2 : List Int) (t3 : Int) (t4 : Int) (s5 : SSea) : Option R :=
  (bif (decide (t4 < t3)) then ix t4 t2.length ((impl_Sea_shut n s5 (t2.getD t4.toNat (0 : Int)) t4).bind fun r9 => (bif r9 then kxr t4 true else J (w64 (t4 + (1 : Int))))) else kx0)
def impl_WayShut (n : Nat) (s0 : SSea) (way1 : List Int) : Option (Int × Bool) :=
  (impl_WayCost n s0 way1).bind fun r1 => (bif (!r1.2) then some ((-1 : Int), false) else loopN (fun (x : Int) J' => impl_WayShut_L5 n (some ((-1 : Int), false)) (fun t14 t15 => some (t14, t15)) J' way1 (way1.length : Int) x s0) n ((0 : Int)))
def laws_FnCheapest_k0 (n : Nat)  (from99 : Int) (k100 : Int) (s101 : Int) (s102 : Int) (t103 : List Int) (t104 : List SClosed) (t105 : List Int) (t106 : List Int) : Option Bool :=
  (impl_Quickest n (⟨s101, s102, t103, t104⟩ : SSea) from99 k100 (t105.length : Int)).bind fun r107 => (bif decide (s101 = 0) then none else (bif decide (s101 = 0) then none else (bd (w64 ((Int.tmod from99 s101) - (Int.tmod k100 s101))) fun (v108 : Int) => (laws_size n v108).bind fun r109 => (bif decide (s101 = 0) then none else (bd (w64 (Int.tdiv from99 s101)) fun (v110 : Int) => (bif decide (s101 = 0) then none else (bd (w64 (Int.tdiv k100 s101)) fun (v111 : Int) => (laws_size n (w64 (v110 - v111))).bind fun r112 => (impl_WayShut n (⟨s101, s102, t103, t104⟩ : SSea) t106).bind fun r113 => (bif (!r113.2) then (bif (!r107.2) then some (false) else (bd (w64 ((t106.length : Int) - (1 : Int))) fun (v117 : Int) => (bif (decide (r107.1 > v117)) then some (false) else (bif r113.2 then (bif (decide (r113.1 < (0 : Int))) then some (false) else (bif (decide (r113.1 ≥ (t106.length : Int))) then some (false) else (bif (!r107.2) then some (true) else some ((decide (r107.1 ≥ (w64 (r109 + r112)))))))) else (bif (!r107.2) then some (true) else some ((decide (r107.1 ≥ (w64 (r109 + r112)))))))))) else (bif r113.2 then (bif (decide (r113.1 < (0 : Int))) then some (false) else (bif (decide (r113.1 ≥ (t106.length : Int))) then some (false) else (bif (!r107.2) then some (true) else some ((decide (r107.1 ≥ (w64 (r109 + r112)))))))) else (bif (!r107.2) then some (true) else some ((decide (r107.1 ≥ (w64 (r109 + r112)))))))))))))))
def laws_FnCheapest_k1 (n : Nat)  (from56 : Int) (k57 : Int) (s58 : Int) (s59 : Int) (t60 : List Int) (t61 : List SClosed) (t62 : List Int) (t63 : List Int) : Option Bool :=
  (impl_WayCost n (⟨s58, s59, t60, t61⟩ : SSea) t63).bind fun r64 => (bif (!r64.2) then some (false) else ix k57 t62.length (chk (decide (k57.toNat < t62.length)) ((bif (!(decide (r64.1 = (t62.getD k57.toNat (0 : Int))))) then some (false) else ix (0 : Int) t63.length (chk (decide (0 < t63.length)) ((bif (!(decide ((t63.getD 0 (0 : Int)) = from56))) then some (false) else (bd (w64 ((t63.length : Int) - (1 : Int))) fun (v89 : Int) => ix v89 t63.length (chk (decide (v89.toNat < t63.length)) ((bif (!(decide ((t63.getD v89.toNat (0 : Int)) = k57))) then some (false) else laws_FnCheapest_k0 n  from56 k57 s58 s59 t60 t61 t62 t63)))))))))))
def laws_FnCheapest_k2 (n : Nat)  (code0 : List Int) (from38 : Int) (s39 : Int) (s40 : Int) (t41 : List Int) (t42 : List SClosed) (t43 : List Int) : Option Bool :=
  (laws_at n code0 (5 : Int)).bind fun r44 => (bif decide ((t43.length : Int) = 0) then none else (bd (Int.tmod r44 (t43.length : Int)) fun (v45 : Int) => chk (decide (t43.length * 8 ≤ 140737488355328)) (ix v45 t43.length (chk (decide (v45.toNat < t43.length)) ((bd (w64 ((t43.getD v45.toNat (0 : Int)) + (1 : Int))) fun (v46 : Int) => ix v45 t43.length (chk (decide (v45.toNat < t43.length)) ((impl_Proves n (⟨s39, s40, t41, t42⟩ : SSea) from38 (t43.set v45.toNat v46)).bind fun r47 => (bif r47 then some (false) else (impl_WayOf n (⟨s39, s40, t41, t42⟩ : SSea) from38 v45).bind fun r174 => (bif (!r174.2) then ix v45 t43.length (chk (decide (v45.toNat < t43.length)) (some ((decide ((t43.getD v45.toNat (0 : Int)) < (0 : Int)))))) else laws_FnCheapest_k1 n  from38 v45 s39 s40 t41 t42 t43 r174.1))))))))))
def laws_FnCheapest_k3 (n : Nat)  (code0 : List Int) (from24 : Int) (s25 : Int) (s26 : Int) (t27 : List Int) (t28 : List SClosed) (t29 : List Int) : Option Bool :=
  ix from24 t27.length (chk (decide (from24.toNat < t27.length)) ((bif (decide ((t27.getD from24.toNat (0 : Int)) = (0 : Int))) then (impl_Proves n (⟨s25, s26, t27, t28⟩ : SSea) from24 t29).bind fun r30 => some ((!r30)) else (impl_Proves n (⟨s25, s26, t27, t28⟩ : SSea) from24 t29).bind fun r183 => (bif (!r183) then some (false) else laws_FnCheapest_k2 n  code0 from24 s25 s26 t27 t28 t29))))
def laws_FnCheapest_k4 (n : Nat)  (code0 : List Int) : Option Bool :=
  (spec_DrawRightSea n code0).bind fun r2 => (impl_Cheapest n r2.1 r2.2).bind fun r3 => (bif (!r3.2) then some (false) else (bif (!(decide ((r3.1.length : Int) = (r2.1.Costs.length : Int)))) then some (false) else (impl_SeaOk n r2.1).bind fun r16 => (bif (!r16) then some (false) else laws_FnCheapest_k3 n  code0 r2.2 r2.1.Wide r2.1.High r2.1.Costs r2.1.Shut r3.1)))
def laws_FnCheapest (n : Nat) (code0 : List Int) : Option Bool :=
  (laws_big n code0).bind fun r1 => (bif r1 then some (true) else laws_FnCheapest_k4 n  code0)
def rng (a b x : Int) : Prop := a ≤ x ∧ x ≤ b
def wfSClosed (x : SClosed) : Prop := rng (-9223372036854775808) 9223372036854775807 x.X0 ∧ rng (-9223372036854775808) 9223372036854775807 x.Y0 ∧ rng (-9223372036854775808) 9223372036854775807 x.X1 ∧ rng (-9223372036854775808) 9223372036854775807 x.Y1 ∧ rng (-9223372036854775808) 9223372036854775807 x.From ∧ rng (-9223372036854775808) 9223372036854775807 x.To
def wfSSea (x : SSea) : Prop := rng (-9223372036854775808) 9223372036854775807 x.Wide ∧ rng (-9223372036854775808) 9223372036854775807 x.High ∧ (x.Costs.length ≤ 9223372036854775807 ∧ ∀ y ∈ x.Costs, rng (-9223372036854775808) 9223372036854775807 y) ∧ (x.Shut.length ≤ 9223372036854775807 ∧ ∀ y ∈ x.Shut, wfSClosed y)
def wfSl1Cur (x : Sl1Cur) : Prop := (x.b.length ≤ 9223372036854775807 ∧ ∀ y ∈ x.b, rng 0 255 y) ∧ rng (-9223372036854775808) 9223372036854775807 x.i ∧ rng (-9223372036854775808) 9223372036854775807 x.h
end Go.Sm
end

section
set_option linter.unusedVariables false
namespace Go.Sm
/-! ### Of the words that printed functions are made of -/
theorem w64_id {x : Int} (h1 : -9223372036854775808 ≤ x) (h2 : x ≤ 9223372036854775807) : w64 x = x := by
  show (let m := x % (2 ^ 64 : Int); if (true && decide ((2 : Int) ^ 63 ≤ m)) = true then m - 2 ^ 64 else m) = x
  simp only [Bool.true_and, decide_eq_true_eq]
  split <;> omega
theorem chk_of {R : Type} {b : Bool} {x : Option R} (h : b = true) : chk b x = x := by rw [h]; rfl
theorem chk_true {R : Type} {x : Option R} : chk true x = x := rfl
theorem chk_dec {R : Type} {p : Prop} [Decidable p] {x : Option R} (h : p) : chk (decide p) x = x := chk_of (decide_eq_true h)
theorem ix_of {R : Type} {i : Int} {len : Nat} {x : Option R} (h0 : 0 ≤ i) (h1 : i < (len : Int)) : ix i len x = x := by
  unfold ix
  rw [decide_eq_true h0, decide_eq_true h1]
  rfl
theorem ix_nat {R : Type} {i len : Nat} {x : Option R} (h1 : i < len) : ix (i : Int) len x = x := ix_of (by omega) (by omega)
theorem loopN_succ {X R : Type} (b : X → (X → Option R) → Option R) (m : Nat) (x : X) : loopN b (m + 1) x = b x (loopN b m) := rfl
/-- What holds of a loop: by what is left to go. -/
theorem loopN_ind {X R : Type} {b : X → (X → Option R) → Option R} (μ : X → Nat) (I : X → Prop) (Q : X → Option R → Prop)
    (h : ∀ x J, I x → (∀ y, I y → μ y < μ x → Q y (J y)) → Q x (b x J)) : ∀ n x, I x → μ x < n → Q x (loopN b n x)
  | 0, x, hi, hm => absurd hm (Nat.not_lt_zero _)
  | n + 1, x, hi, hm => h x (loopN b n) hi fun y hy hl => loopN_ind μ I Q h n y hy (by omega)
theorem getD_eq {α : Type} {l : List α} {i : Nat} {d : α} (h : i < l.length) : l.getD i d = l[i] := by
  simp [List.getD, h]
theorem w64_succ {k : Nat} (h : k < 9223372036854775807) : w64 ((k : Int) + 1) = ((k + 1 : Nat) : Int) := by
  rw [w64_id (by omega) (by omega)]
  rfl
theorem bd_eq {α β : Type} (e : α) (f : α → β) : bd e f = f e := rfl
theorem bif_tf {a : Bool} : (bif a then some true else some false) = some a := by cases a <;> rfl
theorem all_range_succ {p : Nat → Bool} {k : Nat} : (List.range (k + 1)).all p = ((List.range k).all p && p k) := by
  rw [List.range_succ, List.all_append]
  simp
theorem any_range_succ {p : Nat → Bool} {k : Nat} : (List.range (k + 1)).any p = ((List.range k).any p || p k) := by
  rw [List.range_succ, List.any_append]
  simp
theorem all_range_not {p : Nat → Bool} {k m : Nat} (hk : k < m) (h : p k = false) : (List.range m).all p = false := by
  rw [Bool.eq_false_iff]
  intro e
  rw [List.all_eq_true] at e
  rw [e k (List.mem_range.2 hk)] at h
  cases h
theorem any_range_of {p : Nat → Bool} {k m : Nat} (hk : k < m) (h : p k = true) : (List.range m).any p = true := by
  rw [List.any_eq_true]
  exact ⟨k, List.mem_range.2 hk, h⟩
/-- A loop that looks at k = 0, 1, .. and leaves at the first that is not so. -/
theorem loop_all {R : Type} {b : Int → (Int → Option R) → Option R} {len : Nat} {p : Nat → Bool} {no yes : Option R} (hlen : len ≤ 9223372036854775807)
    (hstep : ∀ (k : Nat) (J : Int → Option R), k < len → (∀ j, j < k → p j = true) → b (k : Int) J = bif p k then J ((k + 1 : Nat) : Int) else no) (hfin : ∀ J, (∀ j, j < len → p j = true) → b (len : Int) J = yes) {n : Nat} (hn : len < n) :
    loopN b n (0 : Int) = bif (List.range len).all p then yes else no := by
  refine loopN_ind (fun x => len - x.toNat) (fun x => ∃ k : Nat, k ≤ len ∧ x = (k : Int) ∧ (List.range k).all p = true) (fun x r => r = bif (List.range len).all p then yes else no) ?_ n _ ⟨0, by omega, rfl, rfl⟩ (by simp; omega)
  rintro _ J ⟨k, hk, rfl, hb⟩ ih
  have hb' : ∀ j, j < k → p j = true := fun j hj => List.all_eq_true.1 hb j (List.mem_range.2 hj)
  by_cases h : k < len
  · rw [hstep k J h hb']
    cases hp : p k with
    | true => exact ih _ ⟨k + 1, h, rfl, by rw [all_range_succ, hb, hp]; rfl⟩ (by simp; omega)
    | false => rw [all_range_not h hp]; rfl
  · have : k = len := by omega
    subst this
    rw [hfin _ hb', hb]
    rfl
/-- The same, a state turned on the way (its invariant: I). -/
theorem loop_allS {S R : Type} {X : Type} {enc : Int → S → X} {b : X → (X → Option R) → Option R} {len : Nat} {p : Nat → Bool} {I : Nat → S → Prop} {no yes : Option R}
    (hstep : ∀ (k : Nat) (s : S) (J : X → Option R), k < len → I k s → (∀ j, j < k → p j = true) → ∃ s', (p k = true → I (k + 1) s') ∧ b (enc (k : Int) s) J = bif p k then J (enc ((k + 1 : Nat) : Int) s') else no) (hfin : ∀ s J, I len s → (∀ j, j < len → p j = true) → b (enc (len : Int) s) J = yes) {n : Nat} (hn : len < n) {s0 : S} (h0 : I 0 s0) :
    loopN b n (enc (0 : Int) s0) = bif (List.range len).all p then yes else no := by
  have key : ∀ m (k : Nat) (s : S) n, k + m = len → m < n → I k s → (List.range k).all p = true → loopN b n (enc (k : Int) s) = bif (List.range len).all p then yes else no := by
    intro m
    induction m with
    | zero =>
      intro k s n hk hn hi hb
      have hb' : ∀ j, j < k → p j = true := fun j hj => List.all_eq_true.1 hb j (List.mem_range.2 hj)
      have hk : k = len := by omega
      subst hk
      cases n with
      | zero => omega
      | succ n => rw [loopN_succ, hfin s _ hi hb', hb]; rfl
    | succ m ih =>
      intro k s n hk hn hi hb
      have hb' : ∀ j, j < k → p j = true := fun j hj => List.all_eq_true.1 hb j (List.mem_range.2 hj)
      cases n with
      | zero => omega
      | succ n =>
        rw [loopN_succ]
        obtain ⟨s', h1, h2⟩ := hstep k s (loopN b n) (by omega) hi hb'
        rw [h2]
        cases hp : p k with
        | true => exact ih (k + 1) s' n (by omega) (by omega) (h1 hp) (by rw [all_range_succ, hb, hp]; rfl)
        | false => rw [all_range_not (by omega : k < len) hp]; rfl
  exact key len 0 s0 n (by omega) hn h0 rfl
/-- A loop over 0 .. len that never leaves early; its state: I. -/
theorem loop_runS {S R : Type} {X : Type} {enc : Int → S → X} {b : X → (X → Option R) → Option R} {len : Nat} {I : Nat → S → Prop} {Q : Option R → Prop}
    (hstep : ∀ (k : Nat) (s : S) (J : X → Option R), k < len → I k s → ∃ s', I (k + 1) s' ∧ b (enc (k : Int) s) J = J (enc ((k + 1 : Nat) : Int) s')) (hfin : ∀ s J, I len s → Q (b (enc (len : Int) s) J)) {n : Nat} (hn : len < n) {s0 : S} (h0 : I 0 s0) :
    Q (loopN b n (enc (0 : Int) s0)) := by
  have key : ∀ m (k : Nat) (s : S) n, k + m = len → m < n → I k s → Q (loopN b n (enc (k : Int) s)) := by
    intro m
    induction m with
    | zero =>
      intro k s n hk hn hi
      have hk : k = len := by omega
      subst hk
      cases n with
      | zero => omega
      | succ n => rw [loopN_succ]; exact hfin s _ hi
    | succ m ih =>
      intro k s n hk hn hi
      cases n with
      | zero => omega
      | succ n =>
        rw [loopN_succ]
        obtain ⟨s', h1, h2⟩ := hstep k s (loopN b n) (by omega) hi
        rw [h2]
        exact ih (k + 1) s' n (by omega) (by omega) h1
  exact key len 0 s0 n (by omega) hn h0
/-! ### Sums over lists -/
def sumOf {α : Type} (f : α → Nat) : List α → Nat
  | [] => 0
  | a :: l => f a + sumOf f l
theorem getD_mem {α : Type} {l : List α} {k : Nat} {d : α} (h : k < l.length) : l.getD k d ∈ l := by rw [getD_eq h]; exact List.getElem_mem h
def idxOf (p : Nat → Bool) (m : Nat) : Int := match (List.range m).find? p with
  | some k => (k : Int)
  | none => -1
theorem find_range_none {p : Nat → Bool} {m : Nat} (h : ∀ j, j < m → p j = false) : (List.range m).find? p = none := by
  rw [List.find?_eq_none]
  intro x hx
  rw [h x (List.mem_range.1 hx)]
  simp
theorem find_range_some {p : Nat → Bool} {m k : Nat} (hk : k < m) (hp : p k = true) (h : ∀ j, j < k → p j = false) : (List.range m).find? p = some k := by
  have e : m = k + (m - k) := by omega
  rw [e, List.range_add, List.find?_append, find_range_none h, Option.none_or]
  obtain ⟨r, hr⟩ : ∃ r, m - k = r + 1 := ⟨m - k - 1, by omega⟩
  rw [hr, List.range_succ_eq_map]
  simp [hp]
theorem idxOf_ge (p : Nat → Bool) (m : Nat) : decide (idxOf p m ≥ 0) = (List.range m).any p := by
  unfold idxOf
  cases h : (List.range m).find? p with
  | none =>
    rw [List.find?_eq_none] at h
    rw [show (List.range m).any p = false from by rw [List.any_eq_false]; exact h]
    rfl
  | some k =>
    have h1 := List.find?_some h
    rw [show (List.range m).any p = true from List.any_eq_true.2 ⟨k, List.mem_of_find?_eq_some h, h1⟩]
    exact decide_eq_true (by show (0 : Int) ≤ (k : Int); omega)
theorem find_range (p : Nat → Bool) : ∀ m, ((List.range m).find? p = none ∧ ∀ j, j < m → p j = false) ∨ ∃ k, (List.range m).find? p = some k ∧ k < m ∧ p k = true ∧ ∀ j, j < k → p j = false
  | 0 => .inl ⟨rfl, fun j hj => absurd hj (Nat.not_lt_zero _)⟩
  | m + 1 => by
    rcases find_range p m with ⟨h1, h2⟩ | ⟨k, h1, h2, h3, h4⟩
    · cases hp : p m with
      | true => exact .inr ⟨m, find_range_some (by omega) hp h2, by omega, hp, h2⟩
      | false =>
        have : ∀ j, j < m + 1 → p j = false := fun j hj => by
          by_cases e : j = m
          · rw [e]; exact hp
          · exact h2 j (by omega)
        exact .inl ⟨find_range_none this, this⟩
    · exact .inr ⟨k, find_range_some (by omega) h3 h4, by omega, h3, h4⟩
/-- A loop that looks at k = 0, 1, .. and leaves at the first that is so. -/
theorem loop_find {R : Type} {b : Int → (Int → Option R) → Option R} {len : Nat} {p : Nat → Bool} {yes : Nat → Option R} {no : Option R} (hlen : len ≤ 9223372036854775807)
    (hstep : ∀ (k : Nat) (J : Int → Option R), k < len → (∀ j, j < k → p j = false) → b (k : Int) J = bif p k then yes k else J ((k + 1 : Nat) : Int)) (hfin : ∀ J, (∀ j, j < len → p j = false) → b (len : Int) J = no) {n : Nat} (hn : len < n) :
    loopN b n (0 : Int) = match (List.range len).find? p with | some k => yes k | none => no := by
  refine loopN_ind (fun x => len - x.toNat) (fun x => ∃ k : Nat, k ≤ len ∧ x = (k : Int) ∧ ∀ j, j < k → p j = false) (fun x r => r = match (List.range len).find? p with | some k => yes k | none => no) ?_ n _ ⟨0, by omega, rfl, fun j hj => absurd hj (Nat.not_lt_zero _)⟩ (by simp; omega)
  rintro _ J ⟨k, hk, rfl, hb⟩ ih
  by_cases h : k < len
  · rw [hstep k J h hb]
    cases hp : p k with
    | false => exact ih _ ⟨k + 1, h, rfl, fun j hj => by
        by_cases e : j = k
        · rw [e]; exact hp
        · exact hb j (by omega)⟩ (by simp; omega)
    | true => rw [find_range_some h hp hb]; rfl
  · have : k = len := by omega
    subst this
    rw [hfin _ hb, find_range_none hb]
theorem loop_idx {b : Int → (Int → Option Int) → Option Int} {len : Nat} {p : Nat → Bool} (hlen : len ≤ 9223372036854775807)
    (hstep : ∀ (k : Nat) (J : Int → Option Int), k < len → (∀ j, j < k → p j = false) → b (k : Int) J = bif p k then some (k : Int) else J ((k + 1 : Nat) : Int)) (hfin : ∀ J, (∀ j, j < len → p j = false) → b (len : Int) J = some (-1)) {n : Nat} (hn : len < n) :
    loopN b n (0 : Int) = some (idxOf p len) := by
  rw [loop_find (yes := fun k => some (k : Int)) (no := some (-1)) hlen hstep hfin hn]
  unfold idxOf
  cases (List.range len).find? p <;> rfl
end Go.Sm
end

section
set_option linter.unusedVariables false
set_option linter.unusedSimpArgs false
namespace Go.Sm
attribute [local irreducible] bd chk ix loopN
end Go.Sm
end

section
set_option linter.unusedVariables false
set_option linter.unusedSimpArgs false
namespace Go.Sm
attribute [local irreducible] bd chk ix loopN
theorem in_impl (n : Nat) (x a b : Int) : impl_in n x a b = some (decide (a ≤ x ∧ x ≤ b)) := by
  unfold impl_in
  by_cases h0 : a ≤ x <;> by_cases h1 : x ≤ b <;> simp [h0, h1]
theorem all_iffR {p : Nat → Bool} {m : Nat} : (List.range m).all p = true ↔ ∀ k, k < m → p k = true := by
  rw [List.all_eq_true]
  exact ⟨fun h k hk => h k (List.mem_range.2 hk), fun h k hk => h k (List.mem_range.1 hk)⟩
abbrev g0 (c : List Int) (p : Nat) : Int := c.getD p 0
/-! ### Seas -/
def costB (l : List Int) (k : Nat) : Bool := decide (0 ≤ l.getD k 0 ∧ l.getD k 0 ≤ 1000)
abbrev shutAt (s : SSea) (k : Nat) : SClosed := s.Shut.getD k dSClosed
def shutB (s : SSea) (k : Nat) : Bool := decide (0 ≤ (shutAt s k).X0 ∧ (shutAt s k).X0 ≤ (shutAt s k).X1) && (decide (0 ≤ (shutAt s k).Y0 ∧ (shutAt s k).Y0 ≤ (shutAt s k).Y1) && (!decide ((shutAt s k).X1 ≥ 12) && (!decide ((shutAt s k).Y1 ≥ 12) && (decide (0 ≤ (shutAt s k).From ∧ (shutAt s k).From ≤ (shutAt s k).To) && !decide ((shutAt s k).To > 1000000)))))
def seaB (s : SSea) : Bool := decide (1 ≤ s.Wide ∧ s.Wide ≤ 12) && (decide (1 ≤ s.High ∧ s.High ≤ 12) && (decide ((s.Costs.length : Int) = w64 (s.Wide * s.High)) && (!decide ((s.Shut.length : Int) > 10) && ((List.range s.Costs.length).all (costB s.Costs) && (List.range s.Shut.length).all (shutB s)))))
structure SeaO (s : SSea) : Prop where
  w : 1 ≤ s.Wide ∧ s.Wide ≤ 12
  h : 1 ≤ s.High ∧ s.High ≤ 12
  len : (s.Costs.length : Int) = s.Wide * s.High
  hi : s.Costs.length ≤ 144
  cost : ∀ k, 0 ≤ g0 s.Costs k ∧ g0 s.Costs k ≤ 1000
theorem mul_le {a b : Int} (h1 : 1 ≤ a ∧ a ≤ 12) (h2 : 1 ≤ b ∧ b ≤ 12) : 1 ≤ a * b ∧ a * b ≤ 144 := by
  obtain ⟨x, rfl⟩ : ∃ x : Nat, a = (x : Int) := ⟨a.toNat, by omega⟩
  obtain ⟨y, rfl⟩ : ∃ y : Nat, b = (y : Int) := ⟨b.toNat, by omega⟩
  have p1 : x * y ≤ 12 * 12 := Nat.mul_le_mul (by omega) (by omega)
  have p2 : 1 * 1 ≤ x * y := Nat.mul_le_mul (by omega) (by omega)
  have e : ((x : Int) * (y : Int)) = ((x * y : Nat) : Int) := by simp
  omega
theorem seaO {s : SSea} (h : seaB s = true) : SeaO s := by
  unfold seaB at h
  simp only [Bool.and_eq_true] at h
  have h1 := of_decide_eq_true h.1
  have h2 := of_decide_eq_true h.2.1
  have h3 := of_decide_eq_true h.2.2.1
  obtain ⟨m1, m2⟩ := mul_le h1 h2
  rw [w64_id (by omega) (by omega)] at h3
  refine ⟨h1, h2, h3, by omega, fun k => ?_⟩
  by_cases hk : k < s.Costs.length
  · exact of_decide_eq_true (all_iffR.1 h.2.2.2.2.1 k hk)
  · have : g0 s.Costs k = 0 := by unfold g0; rw [List.getD, List.getElem?_eq_none (by omega)]; rfl
    omega
theorem sea_impl {n : Nat} (s : SSea) (hc : s.Costs.length ≤ 1048576) (hs : s.Shut.length ≤ 1048576) (hn : 1000000000 < n) : impl_SeaOk n s = some (seaB s) := by
  have ha : impl_all n s.Costs 0 1000 = some ((List.range s.Costs.length).all (costB s.Costs)) := by
    unfold impl_all slices_ContainsFunc_int_int__impl_all_1 slices_IndexFunc_int_int__impl_all_1
    rw [loop_idx (p := fun k => !costB s.Costs k) (len := s.Costs.length) (by omega) (fun k J h _ => ?_) (fun J _ => ?_) (by omega)]
    · rw [Option.bind_some, idxOf_ge, Option.bind_some, ← List.all_eq_not_any_not]
    · unfold slices_IndexFunc_int_int__impl_all_1_L2 impl_all_1 costB
      simp only [Int.ofNat_lt, h, decide_true, cond_true, ix_nat h, Int.toNat_natCast, in_impl, Option.bind_some, w64_succ (show k < 9223372036854775807 by omega)]
    · unfold slices_IndexFunc_int_int__impl_all_1_L2
      simp only [Int.lt_irrefl, decide_false, cond_false]
  have hl : loopN (fun (x : Int) J' => impl_SeaOk_L4 n (some (true)) (fun t27 => some (t27)) J' s.Shut (s.Shut.length : Int) x) n (0 : Int) = some ((List.range s.Shut.length).all (shutB s)) := by
    rw [loop_all (p := shutB s) (len := s.Shut.length) (no := some false) (yes := some true) (by omega) (fun k J h _ => ?_) (fun J _ => ?_) (by omega)]
    · rw [bif_tf]
    · unfold impl_SeaOk_L4 impl_SeaOk_k0 shutB
      have e1 : decide ((shutAt s k).X1 > 11) = decide ((shutAt s k).X1 ≥ 12) := by simp only [decide_eq_decide]; omega
      have e2 : decide ((shutAt s k).Y1 > 11) = decide ((shutAt s k).Y1 ≥ 12) := by simp only [decide_eq_decide]; omega
      simp only [Int.ofNat_lt, h, decide_true, cond_true, ix_nat h, bd_eq, Int.toNat_natCast, in_impl, Option.bind_some, w64_succ (show k < 9223372036854775807 by omega), e1, e2]
      cases decide (0 ≤ (shutAt s k).X0 ∧ (shutAt s k).X0 ≤ (shutAt s k).X1) <;> cases decide (0 ≤ (shutAt s k).Y0 ∧ (shutAt s k).Y0 ≤ (shutAt s k).Y1) <;> cases decide ((shutAt s k).X1 ≥ 12) <;> cases decide ((shutAt s k).Y1 ≥ 12) <;> cases decide (0 ≤ (shutAt s k).From ∧ (shutAt s k).From ≤ (shutAt s k).To) <;> cases decide ((shutAt s k).To > 1000000) <;> rfl
    · unfold impl_SeaOk_L4
      simp only [Int.lt_irrefl, decide_false, cond_false]
  unfold impl_SeaOk seaB
  simp only [in_impl, Option.bind_some, bd_eq, ha, hl]
  cases decide (1 ≤ s.Wide ∧ s.Wide ≤ 12) <;> cases decide (1 ≤ s.High ∧ s.High ≤ 12) <;> cases decide ((s.Costs.length : Int) = w64 (s.Wide * s.High)) <;> cases decide ((s.Shut.length : Int) > 10) <;> cases (List.range s.Costs.length).all (costB s.Costs) <;> rfl
def placeB (s : SSea) (p : Int) : Bool := decide (0 ≤ p ∧ p ≤ (s.Costs.length : Int) - 1)
theorem place_impl {n : Nat} {s : SSea} (h : SeaO s) (p : Int) : impl_Sea_place n s p = some (placeB s p) := by
  have h1 := h.len
  have h2 := h.hi
  unfold impl_Sea_place placeB
  rw [bd_eq, in_impl, Option.bind_some, w64_id (by omega) (by omega)]
/-! ### Neighbours -/
abbrev xO (s : SSea) (p : Nat) : Int := Int.tmod (p : Int) s.Wide
abbrev yO (s : SSea) (p : Nat) : Int := Int.tdiv (p : Int) s.Wide
theorem xy {s : SSea} (h : SeaO s) {p : Nat} (hp : p < s.Costs.length) : 0 ≤ xO s p ∧ xO s p < s.Wide ∧ 0 ≤ yO s p ∧ yO s p < s.High ∧ (p : Int) = s.Wide * yO s p + xO s p := by
  have h1 := h.w
  have h2 := h.len
  have e : s.Wide * Int.tdiv (p : Int) s.Wide + Int.tmod (p : Int) s.Wide = (p : Int) := Int.mul_tdiv_add_tmod _ _
  have a1 : 0 ≤ xO s p := Int.tmod_nonneg _ (by omega)
  have a2 : xO s p < s.Wide := Int.tmod_lt_of_pos _ (by omega)
  have a3 : 0 ≤ yO s p := Int.tdiv_nonneg (by omega) (by omega)
  refine ⟨a1, a2, a3, ?_, e.symm⟩
  by_cases c : yO s p < s.High
  · exact c
  · exfalso
    have : s.Wide * s.High ≤ s.Wide * yO s p := Int.mul_le_mul_of_nonneg_left (by omega) (by omega)
    have e2 : s.Wide * yO s p + xO s p = (p : Int) := e
    omega
theorem xy_uniq {s : SSea} (h : SeaO s) {p : Nat} {x y : Int} (hx : 0 ≤ x ∧ x < s.Wide) (hp : p < s.Costs.length) (e : (p : Int) = s.Wide * y + x) : yO s p = y ∧ xO s p = x := by
  obtain ⟨a1, a2, a3, a4, a5⟩ := xy h hp
  have hw := h.w
  have hy : yO s p = y := by
    by_cases c : yO s p < y
    · exfalso
      have : s.Wide * (yO s p + 1) ≤ s.Wide * y := Int.mul_le_mul_of_nonneg_left (by omega) (by omega)
      rw [Int.mul_add, Int.mul_one] at this
      omega
    · by_cases c2 : y < yO s p
      · exfalso
        have : s.Wide * (y + 1) ≤ s.Wide * yO s p := Int.mul_le_mul_of_nonneg_left (by omega) (by omega)
        rw [Int.mul_add, Int.mul_one] at this
        omega
      · omega
  refine ⟨hy, ?_⟩
  rw [hy] at a5
  omega
/-- Is one place beside another? -/
def besideB (s : SSea) (p q : Nat) : Bool := decide (xO s p = xO s q ∧ (yO s p = yO s q + 1 ∨ yO s q = yO s p + 1) ∨ yO s p = yO s q ∧ (xO s p = xO s q + 1 ∨ xO s q = xO s p + 1))
theorem sq_one {a b : Int} : a * a + b * b = 1 ↔ a = 0 ∧ (b = 1 ∨ b = -1) ∨ b = 0 ∧ (a = 1 ∨ a = -1) := by
  constructor
  · intro h
    have ha : 0 ≤ a * a := by
      rcases Int.le_total 0 a with c | c
      · exact Int.mul_nonneg c c
      · exact Int.mul_nonneg_of_nonpos_of_nonpos c c
    have hb : 0 ≤ b * b := by
      rcases Int.le_total 0 b with c | c
      · exact Int.mul_nonneg c c
      · exact Int.mul_nonneg_of_nonpos_of_nonpos c c
    have small : ∀ x : Int, x * x ≤ 1 → x = 0 ∨ x = 1 ∨ x = -1 := by
      intro x hx
      by_cases c1 : 2 ≤ x
      · have : 2 * 2 ≤ x * x := Int.mul_le_mul c1 c1 (by omega) (by omega)
        omega
      · by_cases c2 : x ≤ -2
        · have : 2 * 2 ≤ (-x) * (-x) := Int.mul_le_mul (by omega) (by omega) (by omega) (by omega)
          rw [Int.neg_mul_neg] at this
          omega
        · omega
    have s1 := small a (by omega)
    have s2 := small b (by omega)
    rcases s1 with rfl | rfl | rfl <;> rcases s2 with rfl | rfl | rfl <;> simp at h ⊢
  · rintro (⟨rfl, rfl | rfl⟩ | ⟨rfl, rfl | rfl⟩) <;> rfl
/-- The places beside one, in order. -/
def besides (s : SSea) (p : Nat) : List Nat := (List.range s.Costs.length).filter (besideB s p)
end Go.Sm
end

section
set_option linter.unusedVariables false
set_option linter.unusedSimpArgs false
namespace Go.Sm
attribute [local irreducible] bd chk ix loopN
theorem loopN_step {X R : Type} {b : X → (X → Option R) → Option R} {n : Nat} (hn : 0 < n) (x : X) : loopN b n x = b x (loopN b (n - 1)) := by
  obtain ⟨m, rfl⟩ : ∃ m, n = m + 1 := ⟨n - 1, by omega⟩
  rw [loopN_succ]
  rfl
theorem set_get {c : List Int} {p : Nat} {v : Int} {q : Nat} : g0 (c.set p v) q = if p = q ∧ q < c.length then v else g0 c q := by
  unfold g0
  by_cases h : p = q
  · subst h
    by_cases h2 : p < c.length
    · rw [if_pos ⟨rfl, h2⟩]
      simp [List.getD, h2]
    · rw [if_neg (fun x => h2 x.2)]
      simp [List.getD, h2]
  · rw [if_neg (fun x => h x.1)]
    simp [List.getD, List.getElem?_set, h]
/-! ### Neighbours as the program lists them -/
def nextL (s : SSea) (p : Nat) : List Int :=
  (if yO s p > 0 then [(p : Int) - s.Wide] else []) ++ ((if xO s p > 0 then [(p : Int) - 1] else []) ++ ((if xO s p < s.Wide - 1 then [(p : Int) + 1] else []) ++ (if yO s p < s.High - 1 then [(p : Int) + s.Wide] else [])))
theorem next_impl {n : Nat} {s : SSea} (h : SeaO s) {p : Nat} (hp : p < s.Costs.length) : impl_Sea_next n s (p : Int) = some (nextL s p) := by
  obtain ⟨a1, a2, a3, a4, a5⟩ := xy h hp
  have hw := h.w
  have hh := h.h
  have hi := h.hi
  unfold impl_Sea_next impl_Sea_next_k0 impl_Sea_next_k1 impl_Sea_next_k2 impl_Sea_next_k3 nextL
  rw [decide_eq_false (show ¬ s.Wide = 0 by omega)]
  obtain ⟨X, hX⟩ : ∃ X, Int.tmod (p : Int) s.Wide = X := ⟨_, rfl⟩
  obtain ⟨Y, hY⟩ : ∃ Y, Int.tdiv (p : Int) s.Wide = Y := ⟨_, rfl⟩
  simp only [xO, yO, hX, hY] at a1 a2 a3 a4 a5
  simp only [xO, yO, hX, hY, cond_false, bd_eq, w64_id (show -9223372036854775808 ≤ Y by omega) (show Y ≤ 9223372036854775807 by omega),
    w64_id (show -9223372036854775808 ≤ s.Wide - 1 by omega) (show s.Wide - 1 ≤ 9223372036854775807 by omega), w64_id (show -9223372036854775808 ≤ s.High - 1 by omega) (show s.High - 1 ≤ 9223372036854775807 by omega),
    w64_id (show -9223372036854775808 ≤ (p : Int) - s.Wide by omega) (show (p : Int) - s.Wide ≤ 9223372036854775807 by omega), w64_id (show -9223372036854775808 ≤ (p : Int) + s.Wide by omega) (show (p : Int) + s.Wide ≤ 9223372036854775807 by omega),
    w64_id (show -9223372036854775808 ≤ (p : Int) - 1 by omega) (show (p : Int) - 1 ≤ 9223372036854775807 by omega), w64_id (show -9223372036854775808 ≤ (p : Int) + 1 by omega) (show (p : Int) + 1 ≤ 9223372036854775807 by omega)]
  by_cases c1 : Y > 0 <;> by_cases c2 : X > 0 <;> by_cases c3 : X < s.Wide - 1 <;> by_cases c4 : Y < s.High - 1 <;>
    simp [c1, c2, c3, c4, chk_true]
theorem next_mem {s : SSea} (h : SeaO s) {p : Nat} (hp : p < s.Costs.length) {z : Int} : z ∈ nextL s p ↔ ∃ q : Nat, z = (q : Int) ∧ q < s.Costs.length ∧ besideB s p q = true := by
  obtain ⟨a1, a2, a3, a4, a5⟩ := xy h hp
  have hw := h.w
  have hh := h.h
  have hl := h.len
  have up : s.Wide * (yO s p + 1) ≤ s.Wide * s.High := Int.mul_le_mul_of_nonneg_left (by omega) (by omega)
  have key : ∀ (x y : Int), 0 ≤ x ∧ x < s.Wide → 0 ≤ y ∧ y < s.High → z = s.Wide * y + x → ∃ q : Nat, z = (q : Int) ∧ q < s.Costs.length ∧ yO s q = y ∧ xO s q = x := by
    intro x y hx hy hz
    have b1 : 0 ≤ s.Wide * y := Int.mul_nonneg (by omega) hy.1
    have b2 : s.Wide * (y + 1) ≤ s.Wide * s.High := Int.mul_le_mul_of_nonneg_left (by omega) (by omega)
    rw [Int.mul_add, Int.mul_one] at b2
    have hq : z.toNat < s.Costs.length := by omega
    have e : ((z.toNat : Nat) : Int) = s.Wide * y + x := by omega
    obtain ⟨c1, c2⟩ := xy_uniq h hx hq e
    exact ⟨z.toNat, by omega, hq, c1, c2⟩
  have m1 : s.Wide * (yO s p - 1) = s.Wide * yO s p - s.Wide := by rw [Int.mul_sub, Int.mul_one]
  have m2 : s.Wide * (yO s p + 1) = s.Wide * yO s p + s.Wide := by rw [Int.mul_add, Int.mul_one]
  unfold nextL
  simp only [List.mem_append]
  constructor
  · rintro (hz | hz | hz | hz)
    · by_cases c : yO s p > 0
      · rw [if_pos c, List.mem_singleton] at hz
        obtain ⟨q, q1, q2, q3, q4⟩ := key (xO s p) (yO s p - 1) ⟨a1, a2⟩ (by omega) (by omega)
        exact ⟨q, q1, q2, decide_eq_true (by omega)⟩
      · rw [if_neg c] at hz; cases hz
    · by_cases c : xO s p > 0
      · rw [if_pos c, List.mem_singleton] at hz
        obtain ⟨q, q1, q2, q3, q4⟩ := key (xO s p - 1) (yO s p) (by omega) (by omega) (by omega)
        exact ⟨q, q1, q2, decide_eq_true (by omega)⟩
      · rw [if_neg c] at hz; cases hz
    · by_cases c : xO s p < s.Wide - 1
      · rw [if_pos c, List.mem_singleton] at hz
        obtain ⟨q, q1, q2, q3, q4⟩ := key (xO s p + 1) (yO s p) (by omega) (by omega) (by omega)
        exact ⟨q, q1, q2, decide_eq_true (by omega)⟩
      · rw [if_neg c] at hz; cases hz
    · by_cases c : yO s p < s.High - 1
      · rw [if_pos c, List.mem_singleton] at hz
        obtain ⟨q, q1, q2, q3, q4⟩ := key (xO s p) (yO s p + 1) (by omega) (by omega) (by omega)
        exact ⟨q, q1, q2, decide_eq_true (by omega)⟩
      · rw [if_neg c] at hz; cases hz
  · rintro ⟨q, rfl, hq, hb⟩
    obtain ⟨b1, b2, b3, b4, b5⟩ := xy h hq
    have hb := of_decide_eq_true hb
    rcases hb with ⟨e1, e2 | e2⟩ | ⟨e1, e2 | e2⟩
    · left
      have : s.Wide * yO s q = s.Wide * yO s p - s.Wide := by rw [← m1]; congr 1; omega
      rw [if_pos (by omega), List.mem_singleton]
      omega
    · right; right; right
      have : s.Wide * yO s q = s.Wide * yO s p + s.Wide := by rw [← m2]; congr 1
      rw [if_pos (by omega), List.mem_singleton]
      omega
    · right; left
      rw [if_pos (by omega), List.mem_singleton]
      rw [← e1] at b5
      omega
    · right; right; left
      rw [if_pos (by omega), List.mem_singleton]
      rw [← e1] at b5
      omega
theorem beside_comm (s : SSea) (p q : Nat) : besideB s p q = besideB s q p := by
  unfold besideB
  simp only [decide_eq_decide]
  omega
theorem beside_ne {s : SSea} {p q : Nat} (h : besideB s p q = true) : p ≠ q := by
  intro e
  subst e
  have := of_decide_eq_true h
  omega
/-! ### Labels -/
inductive Way (s : SSea) (fr : Nat) : Nat → Int → Prop
  | start : Way s fr fr 0
  | step {a b : Nat} {d : Int} : Way s fr a d → a < s.Costs.length → b < s.Costs.length → besideB s a b = true → 0 < g0 s.Costs b → Way s fr b (d + g0 s.Costs b)
def posC (w : List Int) : Nat := (w.filter fun x => decide (0 ≤ x)).length
theorem posC_le (w : List Int) : posC w ≤ w.length := List.length_filter_le _ _
theorem posC_new : ∀ (c : List Int) (p : Nat) (v : Int), p < c.length → g0 c p < 0 → 0 ≤ v → posC (c.set p v) = posC c + 1
  | [], _, _, h, _, _ => absurd h (Nat.not_lt_zero _)
  | x :: c, 0, v, _, hx, hv => by
    have hx : x < 0 := hx
    unfold posC
    rw [List.set_cons_zero, List.filter_cons_of_pos (by simpa using hv), List.filter_cons_of_neg (by simpa using hx)]
    rfl
  | x :: c, p + 1, v, h, hx, hv => by
    have ih := posC_new c p v (Nat.lt_of_succ_lt_succ h) hx hv
    unfold posC at ih ⊢
    rw [List.set_cons_succ]
    by_cases c1 : 0 ≤ x
    · rw [List.filter_cons_of_pos (by simpa using c1), List.filter_cons_of_pos (by simpa using c1), List.length_cons, List.length_cons, ih]
    · rw [List.filter_cons_of_neg (by simpa using c1), List.filter_cons_of_neg (by simpa using c1), ih]
theorem posC_old : ∀ (c : List Int) (p : Nat) (v : Int), p < c.length → 0 ≤ g0 c p → 0 ≤ v → posC (c.set p v) = posC c
  | [], _, _, h, _, _ => absurd h (Nat.not_lt_zero _)
  | x :: c, 0, v, _, hx, hv => by
    have hx : 0 ≤ x := hx
    unfold posC
    rw [List.set_cons_zero, List.filter_cons_of_pos (by simpa using hv), List.filter_cons_of_pos (by simpa using hx)]
    rfl
  | x :: c, p + 1, v, h, hx, hv => by
    have ih := posC_old c p v (Nat.lt_of_succ_lt_succ h) hx hv
    unfold posC at ih ⊢
    rw [List.set_cons_succ]
    by_cases c1 : 0 ≤ x
    · rw [List.filter_cons_of_pos (by simpa using c1), List.filter_cons_of_pos (by simpa using c1), List.length_cons, List.length_cons, ih]
    · rw [List.filter_cons_of_neg (by simpa using c1), List.filter_cons_of_neg (by simpa using c1), ih]
def wt (x : Int) : Nat := if x < 0 then 200000 else x.toNat
def mu (c : List Int) : Nat := sumOf wt c
theorem mu_set : ∀ (c : List Int) (p : Nat) (v : Int), p < c.length → wt v < wt (g0 c p) → mu (c.set p v) < mu c
  | [], _, _, h, _ => absurd h (Nat.not_lt_zero _)
  | x :: c, 0, v, _, hx => by
    show wt v + mu c < wt x + mu c
    have hx : wt v < wt x := hx
    omega
  | x :: c, p + 1, v, h, hx => by
    have ih := mu_set c p v (Nat.lt_of_succ_lt_succ h) hx
    show wt x + mu (c.set p v) < wt x + mu c
    omega
structure Lab (s : SSea) (fr : Nat) (c : List Int) : Prop where
  len : c.length = s.Costs.length
  fr0 : g0 c fr = 0
  way : ∀ p, p < s.Costs.length → 0 ≤ g0 c p → Way s fr p (g0 c p)
  cap : ∀ p, g0 c p ≤ 1000 * (posC c : Int)
  low : ∀ p, -1 ≤ g0 c p
theorem Lab.le {s : SSea} {fr : Nat} {c : List Int} (hs : SeaO s) (h : Lab s fr c) (p : Nat) : g0 c p ≤ 144000 := by
  have h1 := h.cap p
  have h2 := posC_le c
  have h3 := h.len
  have h4 := hs.hi
  omega
def lowB (s : SSea) (c : List Int) (a b : Nat) : Bool := decide (g0 c b < 0) || decide (g0 c a + g0 s.Costs b < g0 c b)
theorem Lab.relax {s : SSea} {fr : Nat} {c : List Int} (hs : SeaO s) (h : Lab s fr c) {a b : Nat} (ha : a < s.Costs.length) (hb : b < s.Costs.length) (h0 : 0 ≤ g0 c a) (hbe : besideB s a b = true) (hc : 0 < g0 s.Costs b) (hlow : lowB s c a b = true) :
    Lab s fr (c.set b (g0 c a + g0 s.Costs b)) ∧ mu (c.set b (g0 c a + g0 s.Costs b)) < mu c := by
  have hlen := h.len
  have hcost := (hs.cost b).2
  have hle := h.le hs a
  have hbl : b < c.length := by omega
  unfold lowB at hlow
  rw [Bool.or_eq_true, decide_eq_true_eq, decide_eq_true_eq] at hlow
  have hfr : b ≠ fr := by
    intro e
    subst e
    have := h.fr0
    omega
  refine ⟨⟨by rw [List.length_set]; exact hlen, ?_, fun p hp hg => ?_, fun p => ?_, fun p => ?_⟩, ?_⟩
  · rw [set_get, if_neg (fun x => hfr x.1)]
    exact h.fr0
  · rw [set_get] at hg ⊢
    by_cases e : b = p ∧ p < c.length
    · rw [if_pos e] at hg ⊢
      rw [← e.1]
      exact .step (h.way a ha h0) ha hb hbe hc
    · rw [if_neg e] at hg ⊢
      exact h.way p hp hg
  · have hp1 : posC c ≤ posC (c.set b (g0 c a + g0 s.Costs b)) := by
      by_cases c1 : g0 c b < 0
      · rw [posC_new c b _ hbl c1 (by omega)]; omega
      · rw [posC_old c b _ hbl (by omega) (by omega)]; omega
    rw [set_get]
    by_cases e : b = p ∧ p < c.length
    · rw [if_pos e]
      by_cases c1 : g0 c b < 0
      · rw [posC_new c b _ hbl c1 (by omega)]
        have := h.cap a
        omega
      · have := h.cap b
        omega
    · rw [if_neg e]
      have := h.cap p
      omega
  · rw [set_get]
    by_cases e : b = p ∧ p < c.length
    · rw [if_pos e]; omega
    · rw [if_neg e]; exact h.low p
  · refine mu_set c b _ hbl ?_
    unfold wt
    rw [if_neg (by omega)]
    split <;> omega
def Fix (s : SSea) (c : List Int) : Prop := ∀ a b, a < s.Costs.length → b < s.Costs.length → 0 ≤ g0 c a → besideB s a b = true → 0 < g0 s.Costs b → lowB s c a b = false
theorem least {s : SSea} {fr : Nat} {c : List Int} (h : Lab s fr c) (hf : Fix s c) {p : Nat} {d : Int} (hw : Way s fr p d) : 0 ≤ g0 c p ∧ g0 c p ≤ d := by
  induction hw with
  | start => rw [h.fr0]; omega
  | step hw ha hb hbe hc ih =>
    have := hf _ _ ha hb ih.1 hbe hc
    unfold lowB at this
    rw [Bool.or_eq_false_iff, decide_eq_false_iff_not, decide_eq_false_iff_not] at this
    omega
theorem lab_uniq {s : SSea} {fr : Nat} {c c' : List Int} (h : Lab s fr c) (hf : Fix s c) (h' : Lab s fr c') (hf' : Fix s c') : c = c' := by
  apply List.ext_getElem
  · rw [h.len, h'.len]
  · intro p h1 h2
    have hp : p < s.Costs.length := by rw [← h.len]; exact h1
    have e : g0 c p = g0 c' p := by
      have l1 := h.low p
      have l2 := h'.low p
      by_cases c1 : 0 ≤ g0 c p
      · have q1 := least h' hf' (h.way p hp c1)
        have q2 := least h hf (h'.way p hp q1.1)
        omega
      · by_cases c2 : 0 ≤ g0 c' p
        · have q2 := least h hf (h'.way p hp c2)
          omega
        · omega
    unfold g0 at e
    rw [getD_eq h1, getD_eq h2] at e
    exact e
end Go.Sm
end

section
set_option linter.unusedVariables false
set_option linter.unusedSimpArgs false
namespace Go.Sm
attribute [local irreducible] bd chk ix loopN
def relB (s : SSea) (c : List Int) (a b : Nat) : Bool := decide (0 ≤ g0 c a) && (besideB s a b && (decide (0 < g0 s.Costs b) && lowB s c a b))
structure Prog (s : SSea) (fr : Nat) (c0 : List Int) (E : Nat → Nat → Prop) (again : Bool) (c : List Int) : Prop where
  lab : Lab s fr c
  same : again = false → c = c0 ∧ ∀ a b, E a b → a < s.Costs.length → b < s.Costs.length → 0 ≤ g0 c0 a → besideB s a b = true → 0 < g0 s.Costs b → lowB s c0 a b = false
  less : again = true → mu c < mu c0
theorem Prog.weak {s : SSea} {fr : Nat} {c0 c : List Int} {E E' : Nat → Nat → Prop} {ag : Bool} (h : Prog s fr c0 E ag c) (he : ag = false → ∀ a b, E' a b → a < s.Costs.length → b < s.Costs.length → besideB s a b = true → 0 < g0 s.Costs b → 0 ≤ g0 c0 a → E a b) : Prog s fr c0 E' ag c :=
  ⟨h.lab, fun hf => ⟨(h.same hf).1, fun a b hE ha hb h0 hbe hc => (h.same hf).2 a b (he hf a b hE ha hb hbe hc h0) ha hb h0 hbe hc⟩, h.less⟩
theorem Prog.step {s : SSea} {fr : Nat} {c0 c : List Int} {E : Nat → Nat → Prop} {ag : Bool} (hs : SeaO s) (h : Prog s fr c0 E ag c) {a b : Nat} (ha : a < s.Costs.length) (hb : b < s.Costs.length) :
    Prog s fr c0 (fun x y => E x y ∨ (x = a ∧ y = b)) (bif relB s c a b then true else ag) (bif relB s c a b then c.set b (g0 c a + g0 s.Costs b) else c) := by
  cases hr : relB s c a b with
  | true =>
    have hr2 := hr
    unfold relB at hr2
    simp only [Bool.and_eq_true] at hr2
    obtain ⟨l1, l2⟩ := h.lab.relax hs ha hb (of_decide_eq_true hr2.1) hr2.2.1 (of_decide_eq_true hr2.2.2.1) hr2.2.2.2
    refine ⟨l1, fun hf => Bool.noConfusion hf, fun _ => ?_⟩
    cases ag with
    | false => rw [(h.same rfl).1] at l2; exact (by rw [(h.same rfl).1]; exact l2)
    | true => exact Nat.lt_trans l2 (h.less rfl)
  | false =>
    refine ⟨h.lab, fun hf => ?_, h.less⟩
    obtain ⟨e, h2⟩ := h.same hf
    refine ⟨e, fun x y hE hx hy h0 hbe hc => ?_⟩
    rcases hE with hE | ⟨rfl, rfl⟩
    · exact h2 x y hE hx hy h0 hbe hc
    · rw [e] at hr
      unfold relB at hr
      rw [decide_eq_true h0, hbe, decide_eq_true hc] at hr
      exact hr
theorem w_sum {s : SSea} {fr : Nat} {c : List Int} (hs : SeaO s) (h : Lab s fr c) (a b : Nat) : w64 (g0 c a + g0 s.Costs b) = g0 c a + g0 s.Costs b := by
  have h1 := h.le hs a
  have h2 := h.low a
  have h3 := hs.cost b
  exact w64_id (by omega) (by omega)
/-! ### The reference -/
theorem prog_fix {s : SSea} {fr : Nat} {c0 c : List Int} (h : Prog s fr c0 (fun _ _ => True) false c) : c = c0 ∧ Fix s c := by
  obtain ⟨e, h2⟩ := h.same rfl
  refine ⟨e, ?_⟩
  rw [e]
  exact fun a b ha hb h0 hbe hc => h2 a b trivial ha hb h0 hbe hc
theorem impl_push {R : Type} {n : Nat} (kx6 : Bool → List Int → Option R) {s : SSea} {fr : Nat} {c0 : List Int} (hs : SeaO s) (hn : 1000000000 < n) {E : Nat → Nat → Prop} {ag : Bool} {c : List Int} (h : Prog s fr c0 E ag c) {p : Nat} (hp : p < s.Costs.length) (h0 : 0 ≤ g0 c p) (t39 t40 : Int) :
    ∃ ag' c', Prog s fr c0 (fun a b => E a b ∨ a = p) ag' c' ∧ loopN (fun (x : Bool × Int × List Int) J' => impl_Cheapest_L20 n kx6 (fun again95 t96 t97 => J' (again95, t96, t97)) x.1 (g0 c p) t39 t40 ((nextL s p).length : Int) x.2.1 s x.2.2 (nextL s p)) n (ag, (0 : Int), c) = kx6 ag' c' := by
  have hhi := hs.hi
  have hnl : (nextL s p).length ≤ 4 := by
    unfold nextL
    simp only [List.length_append]
    split <;> split <;> split <;> split <;> simp
  refine loop_runS (S := Bool × List Int) (X := Bool × Int × List Int) (enc := fun k st => (st.1, k, st.2)) (len := (nextL s p).length) (I := fun k st => g0 st.2 p = g0 c p ∧ Prog s fr c0 (fun a b => E a b ∨ (a = p ∧ ∃ j, j < k ∧ g0 (nextL s p) j = (b : Int))) st.1 st.2)
      (Q := fun r => ∃ ag' c', Prog s fr c0 (fun a b => E a b ∨ a = p) ag' c' ∧ r = kx6 ag' c') (fun k st J hk hi => ?_) (fun st J hi => ?_) (by omega) (s0 := (ag, c)) ⟨rfl, h.weak fun hag a b hE _ _ _ _ _ => hE.elim id fun ⟨_, j, hj, _⟩ => absurd hj (Nat.not_lt_zero _)⟩
  · obtain ⟨hd, hi⟩ := hi
    have hl := hi.lab.len
    obtain ⟨q, hq1, hq2, hq3⟩ := (next_mem hs hp).1 (getD_mem (d := (0 : Int)) hk)
    have hqp : q ≠ p := fun e => beside_ne hq3 e.symm
    refine ⟨(bif relB s st.2 p q then true else st.1, bif relB s st.2 p q then st.2.set q (g0 st.2 p + g0 s.Costs q) else st.2), ⟨?_, ?_⟩, ?_⟩
    · show g0 (bif relB s st.2 p q then st.2.set q (g0 st.2 p + g0 s.Costs q) else st.2) p = _
      cases relB s st.2 p q with
      | true => rw [cond_true, set_get, if_neg (fun x => hqp x.1)]; exact hd
      | false => exact hd
    · refine (hi.step hs hp hq2).weak fun hag a b hE ha hb hbe hc hf => ?_
      rcases hE with hE | ⟨h1, j, hj, hjb⟩
      · exact .inl (.inl hE)
      · by_cases e : j = k
        · subst e
          refine .inr ⟨h1, ?_⟩
          have : g0 (nextL s p) j = (q : Int) := hq1
          omega
        · exact .inl (.inr ⟨h1, j, by omega, hjb⟩)
    · show impl_Cheapest_L20 n kx6 _ st.1 (g0 c p) t39 t40 ((nextL s p).length : Int) (k : Int) s st.2 (nextL s p) = _
      unfold impl_Cheapest_L20 impl_Cheapest_k0
      have hw := w_sum hs hi.lab p q
      rw [hd] at hw
      have eq1 : st.2.getD q 0 = g0 st.2 q := rfl
      have ec : s.Costs.getD q 0 = g0 s.Costs q := rfl
      simp only [Int.ofNat_lt, hk, decide_true, cond_true, ix_nat hk, Int.toNat_natCast, chk_true, hq1, ix_nat hq2, bd_eq, ec, ix_nat (show q < st.2.length by omega), chk_dec (show q < st.2.length by omega), eq1, hw, w64_succ (show k < 9223372036854775807 by omega)]
      unfold relB lowB
      rw [hq3, hd, decide_eq_true h0]
      show (bif decide (g0 s.Costs q > 0) then (bif decide (g0 st.2 q < 0) then _ else (bif decide (g0 st.2 q > g0 c p + g0 s.Costs q) then _ else _)) else _) = _
      have e1 : decide (g0 s.Costs q > 0) = decide (0 < g0 s.Costs q) := rfl
      have e2 : decide (g0 st.2 q > g0 c p + g0 s.Costs q) = decide (g0 c p + g0 s.Costs q < g0 st.2 q) := rfl
      rw [e1, e2]
      cases decide (0 < g0 s.Costs q) <;> cases decide (g0 st.2 q < 0) <;> cases decide (g0 c p + g0 s.Costs q < g0 st.2 q) <;> rfl
  · obtain ⟨hd, hi⟩ := hi
    refine ⟨st.1, st.2, hi.weak fun hag a b hE ha hb hbe hc hf => ?_, ?_⟩
    · rcases hE with hE | rfl
      · exact .inl hE
      · obtain ⟨j, hj, hjb⟩ := List.getElem_of_mem ((next_mem hs ha).2 ⟨b, rfl, hb, hbe⟩)
        exact .inr ⟨rfl, j, hj, by unfold g0; rw [getD_eq hj]; exact hjb⟩
    · show impl_Cheapest_L20 n kx6 _ st.1 (g0 c p) t39 t40 ((nextL s p).length : Int) ((nextL s p).length : Int) s st.2 (nextL s p) = _
      unfold impl_Cheapest_L20
      simp only [Int.lt_irrefl, decide_false, cond_false]
theorem impl_pass {R : Type} {n : Nat} (kx4 : Bool → List Int → Option R) {s : SSea} {fr : Nat} {c0 : List Int} (hs : SeaO s) (hn : 1000000000 < n) (h : Lab s fr c0) :
    ∃ ag' c', Prog s fr c0 (fun _ _ => True) ag' c' ∧ loopN (fun (x : Bool × Int × List Int) J' => impl_Cheapest_L16 n kx4 (fun again113 t114 t115 => J' (again113, t114, t115)) x.1 (c0.length : Int) x.2.1 s x.2.2) n (false, (0 : Int), c0) = kx4 ag' c' := by
  have hhi := hs.hi
  have hl0 := h.len
  refine loop_runS (S := Bool × List Int) (X := Bool × Int × List Int) (enc := fun k st => (st.1, k, st.2)) (len := s.Costs.length) (I := fun k st => Prog s fr c0 (fun a b => a < k) st.1 st.2)
      (Q := fun r => ∃ ag' c', Prog s fr c0 (fun _ _ => True) ag' c' ∧ r = kx4 ag' c') (fun k st J hk hi => ?_) (fun st J hi => ?_) (by omega) (s0 := (false, c0)) ⟨h, fun _ => ⟨rfl, fun a b x => absurd x (Nat.not_lt_zero _)⟩, fun x => by cases x⟩
  · have hl := hi.lab.len
    have ek : st.2.getD k 0 = g0 st.2 k := rfl
    by_cases hneg : g0 st.2 k < 0
    · refine ⟨st, hi.weak fun hag a b hE _ _ _ _ hf => ?_, ?_⟩
      · by_cases e : a = k
        · exfalso
          subst e
          rw [← (hi.same hag).1] at hf
          omega
        · omega
      · show impl_Cheapest_L16 n kx4 _ st.1 (c0.length : Int) (k : Int) s st.2 = _
        unfold impl_Cheapest_L16
        rw [decide_eq_true (show (k : Int) < (c0.length : Int) by omega), cond_true, ix_nat (show k < st.2.length by omega), Int.toNat_natCast, chk_dec (show k < st.2.length by omega), ek, decide_eq_true hneg, cond_true, w64_succ (by omega)]
    · obtain ⟨ag', c', h1, h2⟩ := impl_push (n := n) (fun again90 t91 => J (again90, ((k + 1 : Nat) : Int), t91)) hs hn hi hk (by omega) (c0.length : Int) (k : Int)
      refine ⟨(ag', c'), h1.weak fun hag a b hE _ _ _ _ _ => ?_, ?_⟩
      · by_cases e : a = k
        · exact .inr e
        · exact .inl (by omega)
      · show impl_Cheapest_L16 n kx4 _ st.1 (c0.length : Int) (k : Int) s st.2 = _
        unfold impl_Cheapest_L16 impl_Cheapest_k1
        rw [decide_eq_true (show (k : Int) < (c0.length : Int) by omega), cond_true, ix_nat (show k < st.2.length by omega), Int.toNat_natCast, chk_dec (show k < st.2.length by omega), ek, decide_eq_false hneg, cond_false, next_impl hs hk, Option.bind_some, w64_succ (by omega)]
        exact h2
  · have hl := hi.lab.len
    refine ⟨st.1, st.2, hi.weak fun hag a b _ ha _ _ _ _ => ha, ?_⟩
    show impl_Cheapest_L16 n _ _ st.1 (c0.length : Int) (s.Costs.length : Int) s st.2 = _
    unfold impl_Cheapest_L16
    rw [decide_eq_false (by omega), cond_false]
end Go.Sm
end

section
set_option linter.unusedVariables false
set_option linter.unusedSimpArgs false
namespace Go.Sm
attribute [local irreducible] bd chk ix loopN
theorem impl_rounds {R : Type} {n : Nat} (kx2 : List Int → Option R) {s : SSea} {fr : Nat} (hs : SeaO s) (hn : 1000000000 < n) : ∀ m fu c, mu c ≤ m → m + 2 < fu → Lab s fr c →
    ∃ c', Lab s fr c' ∧ Fix s c' ∧ loopN (fun (x : Bool × List Int) J' => impl_Cheapest_L13 n kx2 (fun again117 out118 => J' (again117, out118)) x.1 s x.2) fu (true, c) = kx2 c' := by
  have hstep : ∀ (J : Bool → List Int → Option R) c, Lab s fr c → ∃ ag' c', Prog s fr c (fun _ _ => True) ag' c' ∧ impl_Cheapest_L13 n kx2 J true s c = J ag' c' := by
    intro J c h
    obtain ⟨ag', c', h1, h2⟩ := impl_pass (n := n) (fun again92 out93 => J again92 out93) hs hn h
    refine ⟨ag', c', h1, ?_⟩
    unfold impl_Cheapest_L13
    rw [cond_true]
    exact h2
  have stop : ∀ fu c', 0 < fu → loopN (fun (x : Bool × List Int) J' => impl_Cheapest_L13 n kx2 (fun again117 out118 => J' (again117, out118)) x.1 s x.2) fu (false, c') = kx2 c' := fun fu c' hfu => (loopN_step hfu _).trans rfl
  intro m
  induction m with
  | zero =>
    intro fu c hm hfu h
    obtain ⟨ag', c', h1, h2⟩ := hstep (fun a b => loopN (fun (x : Bool × List Int) J' => impl_Cheapest_L13 n kx2 (fun again117 out118 => J' (again117, out118)) x.1 s x.2) (fu - 1) (a, b)) c h
    cases ag' with
    | true => have := h1.less rfl; omega
    | false =>
      refine ⟨c', h1.lab, (prog_fix h1).2, ?_⟩
      exact (loopN_step (by omega) _).trans (h2.trans (stop _ _ (by omega)))
  | succ m ih =>
    intro fu c hm hfu h
    obtain ⟨ag', c', h1, h2⟩ := hstep (fun a b => loopN (fun (x : Bool × List Int) J' => impl_Cheapest_L13 n kx2 (fun again117 out118 => J' (again117, out118)) x.1 s x.2) (fu - 1) (a, b)) c h
    cases ag' with
    | true =>
      have := h1.less rfl
      obtain ⟨c2, g1, g2, g3⟩ := ih (fu - 1) c' (by omega) (by omega) h1.lab
      exact ⟨c2, g1, g2, (loopN_step (by omega) _).trans (h2.trans g3)⟩
    | false =>
      refine ⟨c', h1.lab, (prog_fix h1).2, ?_⟩
      exact (loopN_step (by omega) _).trans (h2.trans (stop _ _ (by omega)))
/-! ### Costs -/
def iniK (m k : Nat) : List Int := List.replicate k (-1) ++ List.replicate (m - k) 0
theorem iniK_len {m k : Nat} (h : k ≤ m) : (iniK m k).length = m := by
  unfold iniK
  rw [List.length_append, List.length_replicate, List.length_replicate]
  omega
theorem iniK_set {m k : Nat} (h : k < m) : (iniK m k).set k (-1) = iniK m (k + 1) := by
  unfold iniK
  have h1 : (List.replicate k (-1 : Int)).length = k := List.length_replicate
  rw [List.set_append_right _ _ (by omega), h1, Nat.sub_self, show m - k = (m - (k + 1)) + 1 by omega, List.replicate_succ, List.set_cons_zero, List.replicate_succ', List.append_assoc]
  rfl
theorem iniK_get (m p : Nat) : g0 (iniK m m) p = if p < m then -1 else 0 := by
  unfold g0 iniK
  rw [Nat.sub_self, List.replicate_zero, List.append_nil]
  by_cases h : p < m
  · rw [if_pos h, getD_eq (by rw [List.length_replicate]; exact h), List.getElem_replicate]
  · rw [if_neg h, List.getD, List.getElem?_eq_none (by rw [List.length_replicate]; omega)]; rfl
theorem lab_start {s : SSea} {fr : Nat} (hfr : fr < s.Costs.length) : Lab s fr ((iniK s.Costs.length s.Costs.length).set fr 0) := by
  have hl : (iniK s.Costs.length s.Costs.length).length = s.Costs.length := iniK_len (Nat.le_refl _)
  have hg : ∀ p, g0 ((iniK s.Costs.length s.Costs.length).set fr 0) p = if fr = p then 0 else if p < s.Costs.length then -1 else 0 := by
    intro p
    rw [set_get, hl]
    by_cases e : fr = p
    · rw [if_pos ⟨e, by omega⟩, if_pos e]
    · rw [if_neg (fun x => e x.1), if_neg e, iniK_get]
  refine ⟨by rw [List.length_set, hl], by rw [hg, if_pos rfl], fun p hp h => ?_, fun p => ?_, fun p => ?_⟩
  · rw [hg] at h ⊢
    by_cases e : fr = p
    · rw [if_pos e, ← e]; exact .start
    · rw [if_neg e, if_pos hp] at h; omega
  · rw [hg]
    split
    · omega
    · split <;> omega
  · rw [hg]
    split
    · omega
    · split <;> omega
theorem mu_le : ∀ c : List Int, (∀ x ∈ c, x ≤ 0) → mu c ≤ 200000 * c.length
  | [], _ => Nat.zero_le _
  | x :: c, h => by
    have ih := mu_le c fun y hy => h y (List.mem_cons_of_mem _ hy)
    have hx := h x List.mem_cons_self
    show wt x + mu c ≤ 200000 * (c.length + 1)
    have : wt x ≤ 200000 := by unfold wt; split <;> omega
    omega
theorem mu_start {s : SSea} (hs : SeaO s) {fr : Nat} (hfr : fr < s.Costs.length) : mu ((iniK s.Costs.length s.Costs.length).set fr 0) ≤ 28800000 := by
  have hl : (iniK s.Costs.length s.Costs.length).length = s.Costs.length := iniK_len (Nat.le_refl _)
  have h := mu_le ((iniK s.Costs.length s.Costs.length).set fr 0) fun x hx => by
    rcases List.mem_or_eq_of_mem_set hx with h | h
    · unfold iniK at h
      rw [List.mem_append] at h
      rcases h with h | h
      · have := List.eq_of_mem_replicate h; omega
      · have := List.eq_of_mem_replicate h; omega
    · omega
  rw [List.length_set, hl] at h
  have := hs.hi
  omega
def CRes (s : SSea) (fr : Nat) (c : List Int) : Prop := (g0 s.Costs fr = 0 ∧ c = iniK s.Costs.length s.Costs.length) ∨ (g0 s.Costs fr ≠ 0 ∧ Lab s fr c ∧ Fix s c)
theorem cres_uniq {s : SSea} {fr : Nat} {c c' : List Int} (h : CRes s fr c) (h' : CRes s fr c') : c = c' := by
  rcases h with ⟨a1, a2⟩ | ⟨a1, a2, a3⟩
  · rcases h' with ⟨b1, b2⟩ | ⟨b1, b2, b3⟩
    · rw [a2, b2]
    · exact absurd a1 b1
  · rcases h' with ⟨b1, b2⟩ | ⟨b1, b2, b3⟩
    · exact absurd b1 a1
    · exact lab_uniq a2 a3 b2 b3
theorem cheap_impl {n : Nat} (s : SSea) (fr : Nat) (hsea : seaB s = true) (hfr : fr < s.Costs.length) (hc : s.Costs.length ≤ 1048576) (hsh : s.Shut.length ≤ 1048576) (hn : 1000000000 < n) : ∃ c, CRes s fr c ∧ impl_Cheapest n s (fr : Int) = some (c, true) := by
  have hs := seaO hsea
  have hhi := hs.hi
  unfold impl_Cheapest
  rw [sea_impl s hc hsh hn, hsea, Option.bind_some, place_impl hs, Option.bind_some, show placeB s (fr : Int) = true from decide_eq_true (by omega)]
  simp only [Bool.not_true, cond_false]
  unfold impl_Cheapest_k3
  rw [chk_dec (by omega), chk_dec (by omega), chk_dec (by omega), Int.toNat_natCast, List.length_replicate]
  refine loop_runS (S := List Int) (X := Int × List Int) (enc := fun k st => (k, st)) (len := s.Costs.length) (I := fun k st => st = iniK s.Costs.length k) (Q := fun r => ∃ c, CRes s fr c ∧ r = some (c, true)) (fun k st J hk hi => ?_) (fun st J hi => ?_) (by omega) (s0 := _) rfl
  · refine ⟨_, rfl, ?_⟩
    have hsl : st.length = s.Costs.length := by rw [hi, iniK_len (by omega)]
    show impl_Cheapest_L5 n _ _ (fr : Int) (s.Costs.length : Int) (k : Int) s st = _
    unfold impl_Cheapest_L5
    rw [decide_eq_true (show (k : Int) < (s.Costs.length : Int) by omega), cond_true, ix_nat (by omega), Int.toNat_natCast, chk_dec (by omega), bd_eq, w64_succ (by omega), hi, iniK_set hk]
  · have hsl : st.length = s.Costs.length := by rw [hi, iniK_len (by omega)]
    show ∃ c, CRes s fr c ∧ impl_Cheapest_L5 n _ _ (fr : Int) (s.Costs.length : Int) (s.Costs.length : Int) s st = _
    unfold impl_Cheapest_L5
    rw [decide_eq_false (by omega), cond_false]
    dsimp only
    rw [ix_nat hfr, show s.Costs.getD fr 0 = g0 s.Costs fr from rfl]
    by_cases hz : g0 s.Costs fr = 0
    · rw [decide_eq_true hz, cond_true]
      exact ⟨st, .inl ⟨hz, hi⟩, rfl⟩
    · rw [decide_eq_false hz, cond_false]
      unfold impl_Cheapest_k2
      rw [ix_nat (by omega), Int.toNat_natCast, chk_dec (by omega), bd_eq, hi]
      obtain ⟨c, g1, g2, g3⟩ := impl_rounds (n := n) (fun out97 => some (out97, true)) hs hn 28800000 n _ (mu_start hs hfr) (by omega) (lab_start hfr)
      exact ⟨c, .inr ⟨hz, g1, g2⟩, g3⟩
/-! ### The way back -/
def predB (s : SSea) (c : List Int) (p q : Nat) : Bool := decide (0 ≤ g0 c q) && (besideB s p q && decide (g0 c q + g0 s.Costs p = g0 c p))
def prevO (s : SSea) (c : List Int) (p : Nat) : Option Nat := (List.range s.Costs.length).find? (predB s c p)
theorem prev_some {s : SSea} {fr : Nat} {c : List Int} (h : Lab s fr c) (hf : Fix s c) {p : Nat} (hp : p < s.Costs.length) (h0 : 0 ≤ g0 c p) (hne : p ≠ fr) :
    ∃ q, prevO s c p = some q ∧ q < s.Costs.length ∧ predB s c p q = true ∧ (∀ j, j < q → predB s c p j = false) ∧ 0 < g0 s.Costs p := by
  have hw := h.way p hp h0
  have key : ∃ a, a < s.Costs.length ∧ predB s c p a = true ∧ 0 < g0 s.Costs p := by
    generalize hd : g0 c p = d at hw
    cases hw with
    | start => exact absurd rfl hne
    | step hw ha hb hbe hc =>
      rename_i a d
      obtain ⟨l1, l2⟩ := least h hf hw
      have l3 := hf a p ha hb l1 hbe hc
      unfold lowB at l3
      rw [Bool.or_eq_false_iff, decide_eq_false_iff_not, decide_eq_false_iff_not] at l3
      refine ⟨a, ha, ?_, hc⟩
      unfold predB
      rw [decide_eq_true l1, beside_comm s p a, hbe, decide_eq_true (by omega)]
      rfl
  obtain ⟨a, ha, hpa, hcp⟩ := key
  rcases find_range (predB s c p) s.Costs.length with ⟨_, h2⟩ | ⟨q, h1, h2, h3, h4⟩
  · rw [h2 a ha] at hpa; cases hpa
  · exact ⟨q, h1, h2, h3, h4, hcp⟩
theorem predB_of {s : SSea} {c : List Int} {p q : Nat} (h : predB s c p q = true) : 0 ≤ g0 c q ∧ besideB s p q = true ∧ g0 c q + g0 s.Costs p = g0 c p := by
  unfold predB at h
  rw [Bool.and_eq_true, Bool.and_eq_true] at h
  exact ⟨of_decide_eq_true h.1, h.2.1, of_decide_eq_true h.2.2⟩
def pathL (s : SSea) (c : List Int) (fr : Nat) : Nat → Nat → List Int → List Int
  | 0, _, out => out
  | m + 1, p, out => bif decide (p = fr) then out else match prevO s c p with
    | some q => pathL s c fr m q ((q : Int) :: out)
    | none => out
theorem next_sorted {s : SSea} (hs : SeaO s) {p : Nat} (hp : p < s.Costs.length) : (nextL s p).Pairwise (· ≤ ·) := by
  obtain ⟨a1, a2, a3, a4, a5⟩ := xy hs hp
  have hw := hs.w
  unfold nextL
  by_cases c1 : yO s p > 0 <;> by_cases c2 : xO s p > 0 <;> by_cases c3 : xO s p < s.Wide - 1 <;> by_cases c4 : yO s p < s.High - 1 <;>
    (first | rw [if_pos c1] | rw [if_neg c1]) <;> (first | rw [if_pos c2] | rw [if_neg c2]) <;> (first | rw [if_pos c3] | rw [if_neg c3]) <;> (first | rw [if_pos c4] | rw [if_neg c4]) <;>
    simp only [List.nil_append, List.append_nil, List.singleton_append, List.cons_append, List.pairwise_cons, List.mem_cons, List.not_mem_nil, or_false, forall_eq_or_imp, forall_eq, List.Pairwise.nil, and_true, true_and, false_implies, implies_true] <;> omega
theorem impl_back {R : Type} {n : Nat} (kx2 : Int → Option R) {s : SSea} {fr : Nat} {c : List Int} (hs : SeaO s) (h : Lab s fr c) {p q : Nat} (hp : p < s.Costs.length) (hql : q < s.Costs.length) (hqp : predB s c p q = true) (hmin : ∀ j, j < q → predB s c p j = false) (f16 : Int) (w22 : List Int) (hn : 1000000000 < n) :
    loopN (fun (x : Int) J' => impl_WayOf_L8 n kx2 J' f16 (p : Int) ((nextL s p).length : Int) x s c w22 (nextL s p)) n (0 : Int) = kx2 (q : Int) := by
  have hl := h.len
  have hhi := hs.hi
  have hnl : (nextL s p).length ≤ 4 := by
    unfold nextL
    simp only [List.length_append]
    split <;> split <;> split <;> split <;> simp
  have hz : ∀ k, k < (nextL s p).length → ∃ z : Nat, g0 (nextL s p) k = (z : Int) ∧ z < s.Costs.length ∧ besideB s p z = true := fun k hk => (next_mem hs hp).1 (getD_mem (d := (0 : Int)) hk)
  obtain ⟨r1, r2, r3⟩ := predB_of hqp
  rw [loop_find (p := fun k => predB s c p (g0 (nextL s p) k).toNat) (len := (nextL s p).length) (yes := fun k => kx2 (g0 (nextL s p) k)) (no := kx2 (p : Int)) (by omega) (fun k J hk _ => ?_) (fun J _ => ?_) (by omega)]
  · obtain ⟨j, hj, hjq⟩ := List.getElem_of_mem ((next_mem hs hp).2 ⟨q, rfl, hql, r2⟩)
    have hjg : g0 (nextL s p) j = (q : Int) := by unfold g0; rw [getD_eq hj]; exact hjq
    rcases find_range (fun k => predB s c p (g0 (nextL s p) k).toNat) (nextL s p).length with ⟨_, f2⟩ | ⟨k, f1, f2, f3, f4⟩
    · have := f2 j hj
      rw [hjg, Int.toNat_natCast, hqp] at this
      cases this
    · rw [f1]
      have hkj : k ≤ j := by
        by_cases e : k ≤ j
        · exact e
        · have := f4 j (by omega)
          rw [hjg, Int.toNat_natCast, hqp] at this
          cases this
      obtain ⟨z, z1, z2, z3⟩ := hz k f2
      rw [z1, Int.toNat_natCast] at f3
      have hqz : q ≤ z := by
        by_cases e : q ≤ z
        · exact e
        · rw [hmin z (by omega)] at f3; cases f3
      have hzq : z ≤ q := by
        by_cases e : k = j
        · rw [e, hjg] at z1; omega
        · have := (List.pairwise_iff_getElem.1 (next_sorted hs hp)) k j f2 hj (by omega)
          unfold g0 at z1
          rw [getD_eq f2] at z1
          rw [z1, hjq] at this
          omega
      have : z = q := by omega
      subst this
      dsimp only
      rw [z1]
  · obtain ⟨z, z1, z2, z3⟩ := hz k hk
    have hw2 : w64 (g0 c z + g0 s.Costs p) = g0 c z + g0 s.Costs p := w_sum hs h z p
    have z1' : (nextL s p).getD k 0 = (z : Int) := z1
    have ek : c.getD z 0 = g0 c z := rfl
    have ep : c.getD p 0 = g0 c p := rfl
    have ec : s.Costs.getD p 0 = g0 s.Costs p := rfl
    unfold impl_WayOf_L8 impl_WayOf_k0
    rw [z1]
    simp only [Int.toNat_natCast]
    unfold predB
    rw [z3]
    simp only [Int.ofNat_lt, hk, decide_true, cond_true, ix_nat hk, Int.toNat_natCast, chk_true, z1', ix_nat (show z < c.length by omega), chk_dec (show z < c.length by omega), ek, ep, ec, ix_nat hp, bd_eq, hw2, ix_nat (show p < c.length by omega), chk_dec (show p < c.length by omega), w64_succ (show k < 9223372036854775807 by omega)]
    show (bif decide (0 ≤ g0 c z) then _ else _) = _
    cases decide (0 ≤ g0 c z) <;> cases decide (g0 c z + g0 s.Costs p = g0 c p) <;> rfl
  · unfold impl_WayOf_L8
    simp only [Int.lt_irrefl, decide_false, cond_false]
end Go.Sm
end

section
set_option linter.unusedVariables false
set_option linter.unusedSimpArgs false
namespace Go.Sm
attribute [local irreducible] bd chk ix loopN
theorem path_impl {R : Type} {n : Nat} (kx0 : List Int → Option R) {s : SSea} {fr : Nat} {c : List Int} (hs : SeaO s) (h : Lab s fr c) (hf : Fix s c) (hn : 1000000000 < n) : ∀ (m p : Nat) (out : List Int) (fu : Nat), p < s.Costs.length → 0 ≤ g0 c p → (g0 c p).toNat < m → m < fu → out.length + (g0 c p).toNat ≤ 200000 →
    loopN (fun (x : Int × List Int) J' => impl_WayOf_L6 n kx0 (fun p55 way56 => J' (p55, way56)) (fr : Int) x.1 s c x.2) fu ((p : Int), out.reverse) = kx0 (pathL s c fr m p out).reverse
  | 0, p, out, fu, _, _, hm, _, _ => absurd hm (Nat.not_lt_zero _)
  | m + 1, p, out, fu, hp, h0, hm, hfu, hlen => by
    by_cases e : p = fr
    · refine (loopN_step (by omega) _).trans ?_
      show impl_WayOf_L6 n kx0 _ (fr : Int) (p : Int) s c out.reverse = _
      unfold impl_WayOf_L6 pathL
      rw [decide_eq_true (show (p : Int) = (fr : Int) by omega), decide_eq_true e]
      rfl
    · obtain ⟨q, q1, q2, q3, q4, q5⟩ := prev_some h hf hp h0 e
      obtain ⟨r1, r2, r3⟩ := predB_of q3
      have hstep : ∀ J : Int → List Int → Option R, impl_WayOf_L6 n kx0 J (fr : Int) (p : Int) s c out.reverse = J (q : Int) ((q : Int) :: out).reverse := by
        intro J
        unfold impl_WayOf_L6
        rw [decide_eq_false (show ¬ (p : Int) = (fr : Int) by omega), Bool.not_false, cond_true, next_impl hs hp, Option.bind_some, impl_back _ hs h hp q2 q3 q4 _ _ hn, List.reverse_cons]
        rw [chk_dec (by rw [List.length_append, List.length_reverse, List.length_singleton]; omega)]
      refine (loopN_step (by omega) _).trans ((hstep _).trans ?_)
      unfold pathL
      rw [decide_eq_false e, q1]
      exact path_impl kx0 hs h hf hn m q _ (fu - 1) q2 r1 (by omega) (by omega) (by rw [List.length_cons]; omega)
theorem path_len {s : SSea} {fr : Nat} {c : List Int} (hs : SeaO s) (h : Lab s fr c) (hf : Fix s c) : ∀ (m p : Nat) (out : List Int), p < s.Costs.length → 0 ≤ g0 c p → (g0 c p).toNat < m → out.length + (g0 c p).toNat ≤ 200000 → 0 < out.length → (pathL s c fr m p out).length ≤ 200000 ∧ 0 < (pathL s c fr m p out).length
  | 0, p, out, _, _, hm, _, _ => absurd hm (Nat.not_lt_zero _)
  | m + 1, p, out, hp, h0, hm, hlen, hpos => by
    unfold pathL
    by_cases e : p = fr
    · rw [decide_eq_true e]
      exact ⟨by rw [cond_true]; omega, hpos⟩
    · obtain ⟨q, q1, q2, q3, q4, q5⟩ := prev_some h hf hp h0 e
      obtain ⟨r1, r2, r3⟩ := predB_of q3
      rw [decide_eq_false e, q1]
      exact path_len hs h hf m q _ q2 r1 (by omega) (by rw [List.length_cons]; omega) (by rw [List.length_cons]; omega)
/-! ### Turned round in place -/
theorem rev_loop {R : Type} {n : Nat} (kx4 : List Int → Option R) (w : List Int) (hw : 0 < w.length) (hl : w.length ≤ 1048576) (hn : 1000000000 < n) :
    loopN (fun (x : Int × Int × List Int) J' => impl_WayOf_L15 n kx4 (fun i52 k53 way54 => J' (i52, k53, way54)) x.1 x.2.1 x.2.2) n ((0 : Int), ((w.length : Int) - 1), w) = kx4 w.reverse := by
  have key := loop_runS (R := R) (S := List Int) (X := Int × Int × List Int) (enc := fun k l => (k, ((w.length : Int) - 1) - k, l)) (len := w.length / 2)
    (b := fun x J' => impl_WayOf_L15 n kx4 (fun i52 k53 way54 => J' (i52, k53, way54)) x.1 x.2.1 x.2.2)
    (I := fun i l => l.length = w.length ∧ ∀ j, j < w.length → g0 l j = if j < i ∨ w.length - 1 - j < i then g0 w (w.length - 1 - j) else g0 w j) (Q := fun r => r = kx4 w.reverse) (fun i l J hi hI => ?_) (fun l J hI => ?_) (n := n) (by omega) (s0 := w) ⟨rfl, fun j hj => by rw [if_neg (by omega)]⟩
  · rw [Int.sub_zero] at key
    exact key
  · obtain ⟨h1, h2⟩ := hI
    have e1 : ((w.length : Int) - 1) - (i : Int) = ((w.length - 1 - i : Nat) : Int) := by omega
    refine ⟨(l.set i (l.getD (w.length - 1 - i) 0)).set (w.length - 1 - i) (l.getD i 0), ⟨by rw [List.length_set, List.length_set]; exact h1, fun j hj => ?_⟩, ?_⟩
    · rw [set_get, set_get, List.length_set]
      by_cases c1 : w.length - 1 - i = j
      · rw [if_pos ⟨c1, by omega⟩, if_pos (by omega)]
        have := h2 i (by omega)
        rw [if_neg (by omega)] at this
        rw [show w.length - 1 - j = i by omega]
        exact this
      · rw [if_neg (fun x => c1 x.1)]
        by_cases c2 : i = j
        · rw [if_pos ⟨c2, by omega⟩, if_pos (by omega)]
          have := h2 (w.length - 1 - i) (by omega)
          rw [if_neg (by omega)] at this
          rw [← c2]
          exact this
        · rw [if_neg (fun x => c2 x.1), h2 j hj]
          by_cases c3 : j < i ∨ w.length - 1 - j < i
          · rw [if_pos c3, if_pos (by omega)]
          · rw [if_neg c3, if_neg (by omega)]
    · show impl_WayOf_L15 n kx4 _ (i : Int) (((w.length : Int) - 1) - (i : Int)) l = _
      unfold impl_WayOf_L15 impl_WayOf_k1
      have e2 : w64 (((w.length - 1 - i : Nat) : Int) - 1) = ((w.length : Int) - 1) - ((i + 1 : Nat) : Int) := by rw [w64_id (by omega) (by omega)]; omega
      rw [e1]
      simp only [decide_eq_true (show (i : Int) < ((w.length - 1 - i : Nat) : Int) by omega), cond_true, ix_nat (show w.length - 1 - i < l.length by omega), ix_nat (show i < l.length by omega), Int.toNat_natCast, chk_dec (show w.length - 1 - i < l.length by omega), chk_dec (show i < l.length by omega), bd_eq, List.length_set, e2, w64_succ (show i < 9223372036854775807 by omega)]
  · obtain ⟨h1, h2⟩ := hI
    show impl_WayOf_L15 n kx4 _ ((w.length / 2 : Nat) : Int) (((w.length : Int) - 1) - ((w.length / 2 : Nat) : Int)) l = _
    unfold impl_WayOf_L15
    rw [decide_eq_false (by omega), cond_false]
    congr 1
    apply List.ext_getElem
    · rw [List.length_reverse]; exact h1
    · intro j hj1 hj2
      have := h2 j (by omega)
      unfold g0 at this
      rw [getD_eq hj1] at this
      rw [this, List.getElem_reverse]
      by_cases c : j < w.length / 2 ∨ w.length - 1 - j < w.length / 2
      · rw [if_pos c, getD_eq (by omega)]
      · rw [if_neg c, getD_eq (by omega)]
        congr 1
        omega
/-! ### Ways -/
theorem own_int {n : Nat} (l : List Int) (h : l.length ≤ 1048576) : impl_own_int n l = some l := by
  unfold impl_own_int
  rw [chk_dec (by omega), chk_dec (by omega), chk_dec (by omega)]
/-! ### Draws -/
structure CurOk (c : Sl1Cur) : Prop where
  i : 0 ≤ c.i ∧ c.i ≤ (c.b.length : Int)
  len : c.b.length ≤ 1048576
theorem and255 (v : Int) : 0 ≤ w64 (((BitVec.ofInt 64 v &&& BitVec.ofInt 64 (255 : Int)).toNat : Nat) : Int) ∧ w64 (((BitVec.ofInt 64 v &&& BitVec.ofInt 64 (255 : Int)).toNat : Nat) : Int) ≤ 255 := by
  have h : (BitVec.ofInt 64 v &&& BitVec.ofInt 64 (255 : Int)).toNat ≤ 255 := by
    rw [BitVec.toNat_and]
    exact Nat.and_le_right
  rw [w64_id (by omega) (by omega)]
  omega
theorem byte_ok {n : Nat} {c : Sl1Cur} (h : CurOk c) : ∃ v c', spec_l1Byte n c = some (v, c') ∧ (0 ≤ v ∧ v ≤ 255) ∧ CurOk c' := by
  have h1 := h.i
  have h2 := h.len
  unfold spec_l1Byte
  simp only [bd_eq]
  by_cases hc : c.i < (c.b.length : Int)
  · rw [decide_eq_true hc, cond_true, ix_of h1.1 hc]
    refine ⟨_, _, rfl, and255 _, ⟨?_, h2⟩⟩
    show 0 ≤ w64 (c.i + 1) ∧ w64 (c.i + 1) ≤ (c.b.length : Int)
    rw [w64_id (by omega) (by omega)]
    omega
  · rw [decide_eq_false hc, cond_false]
    exact ⟨_, _, rfl, and255 _, ⟨h1, h2⟩⟩
theorem below_ok {n : Nat} {c : Sl1Cur} (h : CurOk c) {m : Int} (hm : 1 ≤ m ∧ m ≤ 256) : ∃ v c', spec_l1Below n c m = some (v, c') ∧ (0 ≤ v ∧ v < m) ∧ CurOk c' := by
  obtain ⟨v, c', h1, h2, h3⟩ := byte_ok (n := n) h
  unfold spec_l1Below
  rw [decide_eq_false (show ¬ m ≤ 0 by omega), cond_false, decide_eq_true (show m ≤ 256 by omega), cond_true, h1, Option.bind_some, decide_eq_false (show ¬ m = 0 by omega), cond_false]
  exact ⟨_, _, rfl, ⟨Int.tmod_nonneg _ h2.1, Int.tmod_lt_of_pos _ (by omega)⟩, h3⟩
theorem new_ok {n : Nat} (code : List Int) (hc : code.length ≤ 1048576) (hn : 1000000000 < n) : ∃ c, spec_l1New n code = some c ∧ CurOk c := by
  have hw : w64 ((59059 : Int) + (code.length : Int)) = 59059 + (code.length : Int) := w64_id (by omega) (by omega)
  unfold spec_l1New
  rw [bd_eq]
  have key : ∀ m k h fu, k + m = code.length → m < fu → ∃ c, loopN (fun (x : Int × Int) J' => spec_l1New_L3 n (fun h16 => some ((⟨code, (0 : Int), h16⟩ : Sl1Cur))) (fun h17 i18 => J' (h17, i18)) code x.1 x.2) fu (h, (k : Int)) = some c ∧ CurOk c := by
    intro m
    induction m with
    | zero =>
      intro k h fu hk hfu
      obtain ⟨f, rfl⟩ : ∃ f, fu = f + 1 := ⟨fu - 1, by omega⟩
      rw [loopN_succ]
      refine ⟨⟨code, 0, h⟩, ?_, ⟨by show (0 : Int) ≤ 0 ∧ (0 : Int) ≤ (code.length : Int); omega, hc⟩⟩
      show spec_l1New_L3 n _ _ code h (k : Int) = _
      unfold spec_l1New_L3
      rw [decide_eq_false (by omega), cond_false]
    | succ m ih =>
      intro k h fu hk hfu
      obtain ⟨f, rfl⟩ : ∃ f, fu = f + 1 := ⟨fu - 1, by omega⟩
      rw [loopN_succ]
      have hstep : ∀ J : Int → Int → Option Sl1Cur, ∃ h', spec_l1New_L3 n (fun h16 => some ((⟨code, (0 : Int), h16⟩ : Sl1Cur))) J code h (k : Int) = J h' ((k + 1 : Nat) : Int) ∨ spec_l1New_L3 n (fun h16 => some ((⟨code, (0 : Int), h16⟩ : Sl1Cur))) J code h (k : Int) = some ⟨code, 0, h⟩ := by
        intro J
        unfold spec_l1New_L3 spec_l1New_k0
        rw [decide_eq_true (show (k : Int) < (code.length : Int) by omega), cond_true]
        cases decide ((k : Int) < 4000) with
        | true =>
          rw [cond_true, ix_nat (by omega), bd_eq, bd_eq, w64_succ (show k < 9223372036854775807 by omega)]
          exact ⟨_, .inl rfl⟩
        | false => exact ⟨0, .inr rfl⟩
      obtain ⟨h', e | e⟩ := hstep (fun h17 i18 => loopN (fun (x : Int × Int) J' => spec_l1New_L3 n (fun h16 => some ((⟨code, (0 : Int), h16⟩ : Sl1Cur))) (fun h17 i18 => J' (h17, i18)) code x.1 x.2) f (h17, i18))
      · obtain ⟨c, g1, g2⟩ := ih (k + 1) h' f (by omega) (by omega)
        exact ⟨c, e.trans g1, g2⟩
      · exact ⟨⟨code, 0, h⟩, e, ⟨by show (0 : Int) ≤ 0 ∧ (0 : Int) ≤ (code.length : Int); omega, hc⟩⟩
  exact key code.length 0 _ n (by omega) (by omega)
theorem onceB_ok {n : Nat} {c : Sl1Cur} (h : CurOk c) {m : Int} (hm : 1 ≤ m ∧ m ≤ 256) : ∃ v c', spec_l1Once n c m = some (v, c') ∧ CurOk c' := by
  obtain ⟨v, c', h1, h2, h3⟩ := below_ok (n := n) h hm
  unfold spec_l1Once
  rw [h1, Option.bind_some]
  exact ⟨_, _, rfl, h3⟩
theorem next_len (s : SSea) (p : Nat) : (nextL s p).length ≤ 4 := by
  unfold nextL
  simp only [List.length_append]
  split <;> split <;> split <;> split <;> simp
/-! ### Proves -/
def nbr (s : SSea) (p k : Nat) : Nat := (g0 (nextL s p) k).toNat
def edgeB (s : SSea) (c : List Int) (p q : Nat) : Bool := decide (0 < g0 s.Costs q) && (decide (g0 c q = -1) || decide (g0 c p < g0 c q - g0 s.Costs q))
def whyB (s : SSea) (c : List Int) (p q : Nat) : Bool := decide (0 ≤ g0 c q) && decide (g0 c q = g0 c p - g0 s.Costs p)
def provP (s : SSea) (fr : Nat) (c : List Int) (p : Nat) : Bool :=
  !(decide (g0 s.Costs p = 0) && !decide (g0 c p = -1)) && (decide (g0 c p < 0) || ((List.range (nextL s p).length).all (fun k => !edgeB s c p (nbr s p k)) && (decide (p = fr) || (List.range (nextL s p).length).any (fun k => whyB s c p (nbr s p k)))))
theorem nbr_ok {s : SSea} (hs : SeaO s) {p k : Nat} (hp : p < s.Costs.length) (hk : k < (nextL s p).length) : g0 (nextL s p) k = (nbr s p k : Int) ∧ nbr s p k < s.Costs.length ∧ besideB s p (nbr s p k) = true := by
  obtain ⟨q, h1, h2, h3⟩ := (next_mem hs hp).1 (getD_mem (d := (0 : Int)) hk)
  have e : nbr s p k = q := by
    unfold nbr
    rw [show g0 (nextL s p) k = (q : Int) from h1]
    rfl
  rw [e]
  exact ⟨h1, h2, h3⟩
theorem nbr_of {s : SSea} (hs : SeaO s) {p q : Nat} (hp : p < s.Costs.length) (hq : q < s.Costs.length) (hb : besideB s p q = true) : ∃ k, k < (nextL s p).length ∧ nbr s p k = q := by
  obtain ⟨j, hj, hjb⟩ := List.getElem_of_mem ((next_mem hs hp).2 ⟨q, rfl, hq, hb⟩)
  refine ⟨j, hj, ?_⟩
  unfold nbr g0
  rw [getD_eq hj, hjb]
  rfl
theorem proves_in {R : Type} {n : Nat} (kx2 : Bool → Option R) (kxr : Bool → Option R) {s : SSea} {c : List Int} (hs : SeaO s) (hl : c.length = s.Costs.length) (hb : ∀ p, -1 ≤ g0 c p ∧ g0 c p ≤ 200000) (hn : 1000000000 < n) {p : Nat} (hp : p < s.Costs.length) (f : Int) (r0 : Bool) (t6 : List Int) (t7 t24 : Int) :
    loopN (fun (x : Bool × Int) J' => impl_Proves_L11 n kx2 kxr (fun reason73 t74 => J' (reason73, t74)) f c (p : Int) (g0 c p) x.1 t6 t7 t24 ((nextL s p).length : Int) x.2 s (nextL s p)) n (r0, (0 : Int)) = bif (List.range (nextL s p).length).all (fun k => !edgeB s c p (nbr s p k)) then kx2 (r0 || (List.range (nextL s p).length).any (fun k => whyB s c p (nbr s p k))) else kxr false := by
  have hhi := hs.hi
  have hnl := next_len s p
  refine loop_allS (S := Bool) (X := Bool × Int) (enc := fun k st => (st, k)) (p := fun k => !edgeB s c p (nbr s p k)) (I := fun k st => st = (r0 || (List.range k).any (fun k => whyB s c p (nbr s p k)))) (fun k st J hk hi _ => ?_) (fun st J hi _ => ?_) (by omega) (s0 := r0) (by simp)
  · obtain ⟨hq1, hq2, hq3⟩ := nbr_ok hs hp hk
    refine ⟨st || whyB s c p (nbr s p k), fun _ => ?_, ?_⟩
    · rw [any_range_succ, hi, Bool.or_assoc]
    · show impl_Proves_L11 n kx2 kxr _ f c (p : Int) (g0 c p) st t6 t7 t24 ((nextL s p).length : Int) (k : Int) s (nextL s p) = _
      generalize nbr s p k = q at *
      unfold impl_Proves_L11 impl_Proves_k1 impl_Proves_k0
      have hq1' : (nextL s p).getD k 0 = (q : Int) := hq1
      have eq1 : c.getD q 0 = g0 c q := rfl
      have ec : s.Costs.getD q 0 = g0 s.Costs q := rfl
      have ep : s.Costs.getD p 0 = g0 s.Costs p := rfl
      have b1 := hb q
      have b2 := hb p
      have b3 := hs.cost q
      have b4 := hs.cost p
      have w1 : w64 (g0 c q - g0 s.Costs q) = g0 c q - g0 s.Costs q := w64_id (by omega) (by omega)
      have w2 : w64 (g0 c p - g0 s.Costs p) = g0 c p - g0 s.Costs p := w64_id (by omega) (by omega)
      simp only [Int.ofNat_lt, hk, decide_true, cond_true, ix_nat hk, Int.toNat_natCast, chk_true, hq1', ix_nat hq2, ix_nat hp, bd_eq, ec, ep, ix_nat (show q < c.length by omega), eq1, w1, w2, w64_succ (show k < 9223372036854775807 by omega)]
      unfold edgeB whyB
      have e1 : decide (g0 s.Costs q > 0) = decide (0 < g0 s.Costs q) := rfl
      have e2 : decide (g0 c q - g0 s.Costs q > g0 c p) = decide (g0 c p < g0 c q - g0 s.Costs q) := rfl
      have e3 : decide (g0 c q ≥ 0) = decide (0 ≤ g0 c q) := rfl
      rw [e1, e2, e3]
      cases decide (0 < g0 s.Costs q) <;> cases decide (g0 c q = -1) <;> cases decide (g0 c p < g0 c q - g0 s.Costs q) <;> cases st <;> cases decide (0 ≤ g0 c q) <;> cases decide (g0 c q = g0 c p - g0 s.Costs p) <;> rfl
  · subst hi
    show impl_Proves_L11 n kx2 kxr _ f c (p : Int) (g0 c p) _ t6 t7 t24 ((nextL s p).length : Int) ((nextL s p).length : Int) s (nextL s p) = _
    unfold impl_Proves_L11
    simp only [Int.lt_irrefl, decide_false, cond_false]
theorem proves_impl {n : Nat} {s : SSea} {fr : Nat} {c : List Int} (hsea : seaB s = true) (hfr : fr < s.Costs.length) (hz : g0 s.Costs fr ≠ 0) (hl : c.length = s.Costs.length) (hb : ∀ p, -1 ≤ g0 c p ∧ g0 c p ≤ 200000) (hsh : s.Shut.length ≤ 1048576) (hn : 1000000000 < n) :
    impl_Proves n s (fr : Int) c = some (decide (g0 c fr = 0) && (List.range s.Costs.length).all (provP s fr c)) := by
  have hs := seaO hsea
  have hhi := hs.hi
  unfold impl_Proves
  rw [sea_impl s (by omega) hsh hn, hsea, Option.bind_some, place_impl hs, Option.bind_some, show placeB s (fr : Int) = true from decide_eq_true (by omega)]
  simp only [Bool.not_true, cond_false]
  rw [ix_nat hfr, Int.toNat_natCast, show s.Costs.getD fr 0 = g0 s.Costs fr from rfl, decide_eq_false hz, cond_false, decide_eq_true (by omega), Bool.not_true, cond_false, ix_nat (by omega), show c.getD fr 0 = g0 c fr from rfl]
  by_cases h0 : g0 c fr = 0
  · rw [decide_eq_true h0, Bool.not_true, cond_false, Bool.true_and]
    rw [loop_all (p := provP s fr c) (len := s.Costs.length) (no := some false) (yes := some true) (by omega) (fun k J hk _ => ?_) (fun J _ => ?_) (by omega)]
    · rw [bif_tf]
    · unfold impl_Proves_L4 impl_Proves_k3 impl_Proves_k2
      have hin := proves_in (n := n) (fun reason70 => (bif (!reason70) then (fun t107 => some t107) false else J (w64 ((k : Int) + (1 : Int))))) (fun t72 => (fun t107 => some t107) t72) hs hl hb hn hk (fr : Int) (decide ((k : Int) = (fr : Int))) c (c.length : Int) (k : Int)
      have b1 := hb k
      have ek : c.getD k 0 = g0 c k := rfl
      have ec : s.Costs.getD k 0 = g0 s.Costs k := rfl
      rw [decide_eq_true (show (k : Int) < (c.length : Int) by omega), cond_true, ix_nat (by omega), Int.toNat_natCast, ek, decide_eq_false (show ¬ g0 c k < -1 by omega), cond_false, ix_nat hk, ec, next_impl hs hk, Option.bind_some, hin]
      have efr : decide ((k : Int) = (fr : Int)) = decide (k = fr) := by simp only [decide_eq_decide]; omega
      rw [efr, w64_succ (by omega)]
      unfold provP
      cases decide (g0 s.Costs k = 0) <;> cases decide (g0 c k = -1) <;> cases decide (g0 c k < 0) <;> cases (List.range (nextL s k).length).all (fun j => !edgeB s c k (nbr s k j)) <;> cases decide (k = fr) <;> cases (List.range (nextL s k).length).any (fun j => whyB s c k (nbr s k j)) <;> rfl
    · unfold impl_Proves_L4
      rw [hl]
      simp only [Int.lt_irrefl, decide_false, cond_false]
  · rw [decide_eq_false h0]
    rfl
theorem all_of {p : Nat → Bool} {m : Nat} (h : ∀ k, k < m → p k = true) : (List.range m).all p = true := all_iffR.2 h
/-- The costs told are proved. -/
theorem prov_true {s : SSea} {fr : Nat} {c : List Int} (hs : SeaO s) (hz : g0 s.Costs fr ≠ 0) (h : Lab s fr c) (hf : Fix s c) {p : Nat} (hp : p < s.Costs.length) : provP s fr c p = true := by
  have hl := h.low p
  unfold provP
  rw [Bool.and_eq_true]
  refine ⟨?_, ?_⟩
  · by_cases c1 : g0 s.Costs p = 0
    · have : g0 c p = -1 := by
        by_cases c2 : 0 ≤ g0 c p
        · exfalso
          by_cases e : p = fr
          · rw [e] at c1; exact hz c1
          · obtain ⟨q, q1, q2, q3, q4, q5⟩ := prev_some h hf hp c2 e
            omega
        · omega
      rw [decide_eq_true this]
      simp
    · rw [decide_eq_false c1]
      rfl
  · by_cases c1 : g0 c p < 0
    · rw [decide_eq_true c1]; rfl
    · rw [decide_eq_false c1, Bool.false_or, Bool.and_eq_true]
      refine ⟨all_of fun k hk => ?_, ?_⟩
      · obtain ⟨q1, q2, q3⟩ := nbr_ok hs hp hk
        unfold edgeB
        by_cases c2 : 0 < g0 s.Costs (nbr s p k)
        · have h3 := hf p _ hp q2 (by omega) q3 c2
          unfold lowB at h3
          rw [Bool.or_eq_false_iff, decide_eq_false_iff_not, decide_eq_false_iff_not] at h3
          rw [decide_eq_false (show ¬ g0 c (nbr s p k) = -1 by omega), decide_eq_false (show ¬ g0 c p < g0 c (nbr s p k) - g0 s.Costs (nbr s p k) by omega)]
          simp
        · rw [decide_eq_false c2]
          rfl
      · by_cases e : p = fr
        · rw [decide_eq_true e]; rfl
        · obtain ⟨q, q1, q2, q3, q4, q5⟩ := prev_some h hf hp (by omega) e
          obtain ⟨r1, r2, r3⟩ := predB_of q3
          obtain ⟨k, k1, k2⟩ := nbr_of hs hp q2 r2
          rw [Bool.or_eq_true]
          refine .inr (any_range_of k1 ?_)
          unfold whyB
          rw [k2, decide_eq_true r1, decide_eq_true (by omega)]
          rfl
/-- One more of a place is not. -/
theorem prov_bent {s : SSea} {fr : Nat} {c : List Int} (hs : SeaO s) (hz : g0 s.Costs fr ≠ 0) (h : Lab s fr c) (hf : Fix s c) {k : Nat} (hk : k < s.Costs.length) :
    (decide (g0 (c.set k (g0 c k + 1)) fr = 0) && (List.range s.Costs.length).all (provP s fr (c.set k (g0 c k + 1)))) = false := by
  have hl := h.len
  have hg : ∀ p, g0 (c.set k (g0 c k + 1)) p = if k = p then g0 c k + 1 else g0 c p := by
    intro p
    rw [set_get]
    by_cases e : k = p
    · rw [if_pos ⟨e, by omega⟩, if_pos e]
    · rw [if_neg (fun x => e x.1), if_neg e]
  have hlow := h.low k
  by_cases e : k = fr
  · have : g0 (c.set k (g0 c k + 1)) fr = 1 := by
      rw [hg, if_pos e, e, h.fr0]
      rfl
    rw [this]
    rfl
  · have bad : ∀ p, p < s.Costs.length → provP s fr (c.set k (g0 c k + 1)) p = false → (decide (g0 (c.set k (g0 c k + 1)) fr = 0) && (List.range s.Costs.length).all (provP s fr (c.set k (g0 c k + 1)))) = false := by
      intro p hp hf
      rw [all_range_not hp hf, Bool.and_false]
    have hkk : g0 (c.set k (g0 c k + 1)) k = g0 c k + 1 := by rw [hg, if_pos rfl]
    by_cases c1 : 0 ≤ g0 c k
    · obtain ⟨q, q1, q2, q3, q4, q5⟩ := prev_some h hf hk c1 e
      obtain ⟨r1, r2, r3⟩ := predB_of q3
      have hqk : k ≠ q := beside_ne r2
      refine bad q q2 ?_
      obtain ⟨j, j1, j2⟩ := nbr_of hs q2 hk (by rw [beside_comm]; exact r2)
      have hgq : g0 (c.set k (g0 c k + 1)) q = g0 c q := by rw [hg, if_neg hqk]
      unfold provP
      have hedge : (List.range (nextL s q).length).all (fun j => !edgeB s (c.set k (g0 c k + 1)) q (nbr s q j)) = false := by
        refine all_range_not j1 ?_
        unfold edgeB
        rw [j2, hkk, hgq, decide_eq_true q5, decide_eq_true (show g0 c q < g0 c k + 1 - g0 s.Costs k by omega)]
        simp
      rw [hedge, hgq, decide_eq_false (show ¬ g0 c q < 0 by omega)]
      simp
    · have e1 : g0 c k = -1 := by omega
      have h0 : g0 (c.set k (g0 c k + 1)) k = 0 := by rw [hkk, e1]; rfl
      refine bad k hk ?_
      unfold provP
      rw [h0]
      by_cases c2 : g0 s.Costs k = 0
      · rw [decide_eq_true c2]
        rfl
      · have hany : (List.range (nextL s k).length).any (fun j => whyB s (c.set k (g0 c k + 1)) k (nbr s k j)) = false := by
          rw [List.any_eq_false]
          intro j hj
          have hcost := hs.cost k
          unfold whyB
          rw [h0]
          by_cases c3 : 0 ≤ g0 (c.set k (g0 c k + 1)) (nbr s k j)
          · rw [decide_eq_false (show ¬ g0 (c.set k (g0 c k + 1)) (nbr s k j) = 0 - g0 s.Costs k by omega), Bool.and_false]
            exact Bool.false_ne_true
          · rw [decide_eq_false c3]
            exact Bool.false_ne_true
        rw [hany, decide_eq_false e]
        simp
end Go.Sm
end

section
set_option linter.unusedVariables false
set_option linter.unusedSimpArgs false
namespace Go.Sm
attribute [local irreducible] bd chk ix loopN
/-! ### The way told -/
theorem pigeon : ∀ (N : Nat) (w : List Nat), w.Nodup → (∀ x ∈ w, x < N) → w.length ≤ N
  | 0, [], _, _ => Nat.le_refl _
  | 0, x :: w, _, h => absurd (h x List.mem_cons_self) (Nat.not_lt_zero _)
  | N + 1, w, hn, h => by
    have h1 := pigeon N (w.erase N) (hn.erase N) (fun x hx => by
      have h2 := (List.Nodup.mem_erase_iff hn).1 hx
      have h3 := h x h2.2
      have h4 := h2.1
      omega)
    by_cases hm : N ∈ w
    · have := List.length_erase_of_mem hm
      omega
    · rw [List.erase_of_not_mem hm] at h1
      omega
abbrev n0 (w : List Nat) (i : Nat) : Nat := w.getD i 0
structure Pth (s : SSea) (c : List Int) (t p : Nat) (w : List Nat) : Prop where
  pos : 0 < w.length
  hd : n0 w 0 = p
  last : n0 w (w.length - 1) = t
  inn : ∀ i, i < w.length → n0 w i < s.Costs.length ∧ 0 ≤ g0 c (n0 w i)
  st : ∀ i, i + 1 < w.length → besideB s (n0 w i) (n0 w (i + 1)) = true ∧ g0 c (n0 w i) + g0 s.Costs (n0 w (i + 1)) = g0 c (n0 w (i + 1)) ∧ 0 < g0 s.Costs (n0 w (i + 1))
theorem n0_cons (q : Nat) (w : List Nat) (i : Nat) : n0 (q :: w) (i + 1) = n0 w i := rfl
theorem Pth.cons {s : SSea} {c : List Int} {t p q : Nat} {w : List Nat} (h : Pth s c t p w) (hq : q < s.Costs.length) (h0 : 0 ≤ g0 c q) (hb : besideB s q p = true) (he : g0 c q + g0 s.Costs p = g0 c p) (hc : 0 < g0 s.Costs p) : Pth s c t q (q :: w) := by
  have hp := h.pos
  refine ⟨Nat.succ_pos _, rfl, ?_, fun i hi => ?_, fun i hi => ?_⟩
  · have e : (q :: w).length - 1 = (w.length - 1) + 1 := by rw [List.length_cons]; omega
    rw [e, n0_cons]
    exact h.last
  · cases i with
    | zero => exact ⟨hq, h0⟩
    | succ i => exact h.inn i (by rw [List.length_cons] at hi; omega)
  · cases i with
    | zero =>
      have e : n0 (q :: w) (0 + 1) = p := h.hd
      rw [e]
      exact ⟨hb, he, hc⟩
    | succ i => exact h.st i (by rw [List.length_cons] at hi; omega)
abbrev inI (w : List Nat) : List Int := List.map (α := Nat) (β := Int) (fun x => (x : Int)) w
theorem path_pth {s : SSea} {fr : Nat} {c : List Int} (hs : SeaO s) (h : Lab s fr c) (hf : Fix s c) {t : Nat} : ∀ (m p : Nat) (w : List Nat), p < s.Costs.length → 0 ≤ g0 c p → (g0 c p).toNat < m → Pth s c t p w → ∃ w', pathL s c fr m p (inI w) = inI w' ∧ Pth s c t fr w'
  | 0, p, w, _, _, hm, _ => absurd hm (Nat.not_lt_zero _)
  | m + 1, p, w, hp, h0, hm, hw => by
    unfold pathL
    by_cases e : p = fr
    · rw [decide_eq_true e]
      subst e
      exact ⟨w, rfl, hw⟩
    · obtain ⟨q, q1, q2, q3, q4, q5⟩ := prev_some h hf hp h0 e
      obtain ⟨r1, r2, r3⟩ := predB_of q3
      rw [decide_eq_false e, q1]
      exact path_pth hs h hf m q (q :: w) q2 r1 (by omega) (hw.cons q2 r1 (by rw [beside_comm]; exact r2) r3 q5)
theorem Pth.mono {s : SSea} {c : List Int} {t p : Nat} {w : List Nat} (h : Pth s c t p w) : ∀ d i, i + d + 1 < w.length → g0 c (n0 w i) < g0 c (n0 w (i + d + 1))
  | 0, i, hi => by
    have := h.st i hi
    have e : i + 0 + 1 = i + 1 := rfl
    rw [e]
    omega
  | d + 1, i, hi => by
    have h1 := h.mono d i (by omega)
    have h2 := h.st (i + d + 1) (by omega)
    have e : i + (d + 1) + 1 = i + d + 1 + 1 := rfl
    rw [e]
    omega
theorem Pth.nodup {s : SSea} {c : List Int} {t p : Nat} {w : List Nat} (h : Pth s c t p w) : w.Nodup := by
  unfold List.Nodup
  rw [List.pairwise_iff_getElem]
  intro i j hi hj hij e
  have h1 := h.mono (j - i - 1) i (by omega)
  rw [show i + (j - i - 1) + 1 = j by omega] at h1
  have e1 : n0 w i = w[i] := by unfold n0; rw [List.getD_eq_getElem?_getD, List.getElem?_eq_getElem hi]; rfl
  have e2 : n0 w j = w[j] := by unfold n0; rw [List.getD_eq_getElem?_getD, List.getElem?_eq_getElem hj]; rfl
  rw [e1, e2, e] at h1
  exact Int.lt_irrefl _ h1
theorem Pth.len {s : SSea} {c : List Int} {t p : Nat} {w : List Nat} (h : Pth s c t p w) : w.length ≤ s.Costs.length := by
  refine pigeon _ w h.nodup fun x hx => ?_
  obtain ⟨i, hi, rfl⟩ := List.getElem_of_mem hx
  have := (h.inn i hi).1
  have e1 : n0 w i = w[i] := by unfold n0; rw [List.getD_eq_getElem?_getD, List.getElem?_eq_getElem hi]; rfl
  rw [e1] at this
  exact this
theorem inI_get (w : List Nat) {i : Nat} (hi : i < w.length) : (inI w).getD i 0 = (n0 w i : Int) := by
  unfold inI n0
  rw [List.getD_eq_getElem?_getD, List.getD_eq_getElem?_getD, List.getElem?_eq_getElem (by rw [List.length_map]; exact hi), List.getElem?_eq_getElem hi]
  simp
/-! ### What a way costs -/
theorem cost_in {R : Type} {n : Nat} (kx2 : Bool → Option R) {s : SSea} (hs : SeaO s) (hn : 1000000000 < n) {p q : Nat} (hp : p < s.Costs.length) (hq : q < s.Costs.length) (hb : besideB s p q = true) (w : List Int) (sum : Int) (t6 : List Int) (t7 t32 : Int) :
    loopN (fun (x : Bool × Int) J' => impl_WayCost_L12 n kx2 (fun near63 t64 => J' (near63, t64)) w sum (q : Int) x.1 t6 t7 t32 ((nextL s p).length : Int) x.2 s (nextL s p)) n (false, (0 : Int)) = kx2 true := by
  have hnl := next_len s p
  refine loop_runS (S := Bool) (X := Bool × Int) (enc := fun k st => (st, k)) (len := (nextL s p).length) (I := fun k st => st = (List.range k).any (fun j => decide (nbr s p j = q))) (Q := fun r => r = kx2 true) (fun k st J hk hi => ?_) (fun st J hi => ?_) (by omega) (s0 := false) rfl
  · obtain ⟨q1, q2, q3⟩ := nbr_ok hs hp hk
    refine ⟨st || decide (nbr s p k = q), ?_, ?_⟩
    · rw [any_range_succ, hi]
    · show impl_WayCost_L12 n kx2 _ w sum (q : Int) st t6 t7 t32 ((nextL s p).length : Int) (k : Int) s (nextL s p) = _
      unfold impl_WayCost_L12
      have q1' : (nextL s p).getD k 0 = (nbr s p k : Int) := q1
      have e : decide ((nbr s p k : Int) = (q : Int)) = decide (nbr s p k = q) := by simp only [decide_eq_decide]; omega
      simp only [Int.ofNat_lt, hk, decide_true, cond_true, ix_nat hk, Int.toNat_natCast, chk_true, q1', e, w64_succ (show k < 9223372036854775807 by omega)]
      cases st <;> rfl
  · obtain ⟨k, k1, k2⟩ := nbr_of hs hp hq hb
    have : st = true := by rw [hi]; exact any_range_of k1 (decide_eq_true k2)
    show impl_WayCost_L12 n kx2 _ w sum (q : Int) st t6 t7 t32 ((nextL s p).length : Int) ((nextL s p).length : Int) s (nextL s p) = _
    unfold impl_WayCost_L12
    simp only [Int.lt_irrefl, decide_false, cond_false]
    rw [this]
theorem cost_way {n : Nat} {s : SSea} {fr t : Nat} {c : List Int} (hsea : seaB s = true) (hz : g0 s.Costs fr ≠ 0) (h : Lab s fr c) {w : List Nat} (hw : Pth s c t fr w) (hsh : s.Shut.length ≤ 1048576) (hn : 1000000000 < n) :
    impl_WayCost n s (inI w) = some (g0 c t, true) := by
  have hs := seaO hsea
  have hhi := hs.hi
  have hlen := hw.len
  have hpos := hw.pos
  have hil : (inI w).length = w.length := List.length_map ..
  unfold impl_WayCost
  rw [sea_impl s (by omega) hsh hn, hsea, Option.bind_some, Bool.not_true, cond_false, in_impl, Option.bind_some, decide_eq_true (by omega), Bool.not_true, cond_false]
  refine loop_runS (S := Int) (X := Int × Int) (enc := fun k st => (st, k)) (len := w.length) (I := fun k st => st = if k = 0 then 0 else g0 c (n0 w (k - 1))) (Q := fun r => r = some (g0 c t, true)) (fun k st J hk hi => ?_) (fun st J hi => ?_) (by omega) (s0 := (0 : Int)) rfl
  · obtain ⟨i1, i2⟩ := hw.inn k hk
    have eg : (inI w).getD k 0 = (n0 w k : Int) := inI_get w hk
    have ec : s.Costs.getD (n0 w k) 0 = g0 s.Costs (n0 w k) := rfl
    have hcost := hs.cost (n0 w k)
    have hne : g0 s.Costs (n0 w k) ≠ 0 := by
      cases k with
      | zero => rw [hw.hd]; exact hz
      | succ k => have := (hw.st k hk).2.2; omega
    refine ⟨g0 c (n0 w k), ?_, ?_⟩
    · rw [if_neg (Nat.succ_ne_zero k)]
      rfl
    · show impl_WayCost_L5 n _ _ _ (inI w) st (inI w) ((inI w).length : Int) (k : Int) s = _
      unfold impl_WayCost_L5 impl_WayCost_k1
      rw [hil, decide_eq_true (show (k : Int) < (w.length : Int) by omega), cond_true, ix_nat hk, Int.toNat_natCast, eg, place_impl hs, Option.bind_some, show placeB s (n0 w k : Int) = true from decide_eq_true (by omega), Bool.not_true, cond_false, ix_nat i1, Int.toNat_natCast, ec, bd_eq, decide_eq_false hne, cond_false]
      cases k with
      | zero =>
        have e0 : g0 c (n0 w 0) = st := by rw [hw.hd, h.fr0, hi]; rfl
        rw [decide_eq_true (show ((0 : Nat) : Int) = 0 from rfl), cond_true, w64_succ (by omega), e0]
      | succ k =>
        obtain ⟨s1, s2, s3⟩ := hw.st k hk
        obtain ⟨j1, j2⟩ := hw.inn k (by omega)
        have ek : w64 (((k + 1 : Nat) : Int) - 1) = (k : Int) := by rw [w64_id (by omega) (by omega)]; omega
        have eg2 : (inI w).getD k 0 = (n0 w k : Int) := inI_get w (by omega)
        rw [decide_eq_false (show ¬ ((k + 1 : Nat) : Int) = 0 by omega), cond_false]
        unfold impl_WayCost_k0
        rw [ek, hil, ix_nat (by omega), Int.toNat_natCast, eg2, next_impl hs j1, Option.bind_some, cost_in _ hs hn j1 i1 s1]
        dsimp only
        rw [Bool.not_true, cond_false, ix_nat i1, Int.toNat_natCast, ec, bd_eq]
        have hst : st = g0 c (n0 w k) := by rw [hi, if_neg (Nat.succ_ne_zero k)]; rfl
        have hle := h.le hs (n0 w k)
        rw [hst, w64_id (by omega) (by omega), s2, w64_succ (by omega)]
  · show impl_WayCost_L5 n _ _ _ (inI w) st (inI w) ((inI w).length : Int) (w.length : Int) s = _
    unfold impl_WayCost_L5
    rw [hil, decide_eq_false (Int.lt_irrefl _), cond_false, hi, if_neg (by omega), hw.last]
end Go.Sm
end

section
set_option linter.unusedVariables false
set_option linter.unusedSimpArgs false
namespace Go.Sm
attribute [local irreducible] bd chk ix loopN
/-! ### Places shut -/
def shutK (s : SSea) (x y step : Int) (k : Nat) : Bool := decide ((shutAt s k).X0 ≤ x ∧ x ≤ (shutAt s k).X1) && (decide ((shutAt s k).Y0 ≤ y ∧ y ≤ (shutAt s k).Y1) && decide ((shutAt s k).From ≤ step ∧ step ≤ (shutAt s k).To))
def shutNow (s : SSea) (p : Nat) (step : Int) : Bool := (List.range s.Shut.length).any (shutK s (xO s p) (yO s p) step)
theorem shut_impl {n : Nat} {s : SSea} (hs : SeaO s) {p : Nat} (hp : p < s.Costs.length) (step : Int) (hsh : s.Shut.length ≤ 1048576) (hn : 1000000000 < n) : impl_Sea_shut n s (p : Int) step = some (shutNow s p step) := by
  obtain ⟨a1, a2, a3, a4, a5⟩ := xy hs hp
  have hw := hs.w
  have hh := hs.h
  unfold impl_Sea_shut
  rw [decide_eq_false (show ¬ s.Wide = 0 by omega), cond_false, cond_false, bd_eq, w64_id (x := Int.tdiv (p : Int) s.Wide) (show -9223372036854775808 ≤ yO s p by omega) (show yO s p ≤ 9223372036854775807 by omega)]
  rw [loop_find (p := shutK s (xO s p) (yO s p) step) (len := s.Shut.length) (yes := fun _ => some true) (no := some false) (by omega) (fun k J hk _ => ?_) (fun J _ => ?_) (by omega)]
  · unfold shutNow
    rcases find_range (shutK s (xO s p) (yO s p) step) s.Shut.length with ⟨h1, h2⟩ | ⟨k, h1, h2, h3, h4⟩
    · rw [h1]
      have : (List.range s.Shut.length).any (shutK s (xO s p) (yO s p) step) = false := by
        rw [List.any_eq_false]
        intro j hj
        rw [h2 j (List.mem_range.1 hj)]
        exact Bool.false_ne_true
      rw [this]
    · rw [h1, any_range_of h2 h3]
  · unfold impl_Sea_shut_L3 impl_Sea_shut_k0 shutK
    simp only [Int.ofNat_lt, hk, decide_true, cond_true, ix_nat hk, bd_eq, Int.toNat_natCast, in_impl, Option.bind_some, w64_succ (show k < 9223372036854775807 by omega)]
    cases decide ((shutAt s k).X0 ≤ xO s p ∧ xO s p ≤ (shutAt s k).X1) <;> cases decide ((shutAt s k).Y0 ≤ yO s p ∧ yO s p ≤ (shutAt s k).Y1) <;> cases decide ((shutAt s k).From ≤ step ∧ step ≤ (shutAt s k).To) <;> rfl
  · unfold impl_Sea_shut_L3
    simp only [Int.lt_irrefl, decide_false, cond_false]
theorem wshut_way {n : Nat} {s : SSea} {fr t : Nat} {c : List Int} (hsea : seaB s = true) (hz : g0 s.Costs fr ≠ 0) (h : Lab s fr c) {w : List Nat} (hw : Pth s c t fr w) (hsh : s.Shut.length ≤ 1048576) (hn : 1000000000 < n) :
    ((∀ i, i < w.length → shutNow s (n0 w i) (i : Int) = false) ∧ impl_WayShut n s (inI w) = some (-1, false)) ∨ ∃ k, k < w.length ∧ impl_WayShut n s (inI w) = some ((k : Int), true) := by
  have hs := seaO hsea
  have hhi := hs.hi
  have hlen := hw.len
  have hil : (inI w).length = w.length := List.length_map ..
  have key : impl_WayShut n s (inI w) = match (List.range w.length).find? (fun i => shutNow s (n0 w i) (i : Int)) with | some k => some ((k : Int), true) | none => some (-1, false) := by
    unfold impl_WayShut
    rw [cost_way hsea hz h hw hsh hn, Option.bind_some, Bool.not_true, cond_false]
    refine loop_find (p := fun i => shutNow s (n0 w i) (i : Int)) (len := w.length) (yes := fun k => some ((k : Int), true)) (no := some (-1, false)) (by omega) (fun k J hk _ => ?_) (fun J _ => ?_) (by omega)
    · have eg : (inI w).getD k 0 = (n0 w k : Int) := inI_get w hk
      unfold impl_WayShut_L5
      rw [hil, decide_eq_true (show (k : Int) < (w.length : Int) by omega), cond_true, ix_nat hk, Int.toNat_natCast, eg, shut_impl hs (hw.inn k hk).1 _ hsh hn, Option.bind_some, w64_succ (by omega)]
    · unfold impl_WayShut_L5
      rw [hil, decide_eq_false (Int.lt_irrefl _), cond_false]
  rcases find_range (fun i => shutNow s (n0 w i) (i : Int)) w.length with ⟨h1, h2⟩ | ⟨k, h1, h2, h3, h4⟩
  · rw [h1] at key
    exact .inl ⟨h2, key⟩
  · rw [h1] at key
    exact .inr ⟨k, h2, key⟩
/-! ### The quickest -/
def mayB (s : SSea) (q : Nat) (st : Int) : Bool := decide (0 < g0 s.Costs q) && !shutNow s q st
def az (x : Int) : Int := max x (-x)
def far (s : SSea) (a b : Nat) : Int := az (xO s a - xO s b) + az (yO s a - yO s b)
theorem far_self (s : SSea) (a : Nat) : far s a a = 0 := by unfold far az; omega
theorem far_step {s : SSea} {a p q : Nat} (h : besideB s p q = true) : far s a q ≤ far s a p + 1 := by
  have h := of_decide_eq_true h
  unfold far az
  omega
theorem qrow_total {may : Int → Option Bool} : ∀ {l acc : List Int}, (∀ q ∈ l, ∃ b, may q = some b) → ∃ r, qrow may l acc = some r
  | [], acc, _ => ⟨acc, rfl⟩
  | q :: l, acc, h => by
    obtain ⟨b, hb⟩ := h q List.mem_cons_self
    unfold qrow
    rw [hb, Option.bind_some]
    exact qrow_total fun x hx => h x (List.mem_cons_of_mem _ hx)
theorem qstep_total {may : Int → Option Bool} {nxt : Int → Option (List Int)} : ∀ {s acc : List Int}, (∀ p ∈ s, ∃ l, nxt p = some l ∧ ∀ q ∈ l ++ [p], ∃ b, may q = some b) → ∃ r, qstep may nxt s acc = some r
  | [], acc, _ => ⟨acc, rfl⟩
  | p :: s, acc, h => by
    obtain ⟨l, h1, h2⟩ := h p List.mem_cons_self
    obtain ⟨a, ha⟩ := qrow_total (acc := acc) h2
    unfold qstep
    rw [h1, Option.bind_some, ha, Option.bind_some]
    exact qstep_total fun x hx => h x (List.mem_cons_of_mem _ hx)
structure QM (s : SSea) (may : Int → Int → Option Bool) (nxt : Int → Option (List Int)) : Prop where
  may : ∀ (q : Nat) st, q < s.Costs.length → may (q : Int) st = some (mayB s q st)
  nxt : ∀ q : Nat, q < s.Costs.length → nxt (q : Int) = some (nextL s q)
theorem qgo_ok {s : SSea} (hs : SeaO s) {may : Int → Int → Option Bool} {nxt : Int → Option (List Int)} (hm : QM s may nxt) {fr t : Nat} {c : List Int} {w : List Nat} {most : Int} (ht : t < s.Costs.length) (hw : Pth s c t fr w) (hmo : (w.length : Int) - 1 ≤ most) {free : Prop} (hfree : free → ∀ i, i < w.length → shutNow s (n0 w i) (i : Int) = false) :
    ∀ (f step : Nat) (at_ : List Int), (step : Int) ≤ most → most - (step : Int) < (f : Int) → (∀ z ∈ at_, ∃ q : Nat, z = (q : Int) ∧ q < s.Costs.length ∧ far s fr q ≤ (step : Int)) → (free → step < w.length ∧ ((n0 w step : Nat) : Int) ∈ at_) →
      ∃ r : Int × Bool, qgo may nxt (t : Int) most f (step : Int) at_ = some r ∧ (r.2 = true → far s fr t ≤ r.1) ∧ (free → r.2 = true ∧ r.1 ≤ (w.length : Int) - 1)
  | 0, step, at_, h1, h2, _, _ => by omega
  | f + 1, step, at_, h1, h2, h3, h4 => by
    have hpos := hw.pos
    unfold qgo
    by_cases hc : (t : Int) ∈ at_
    · rw [show at_.contains (t : Int) = true by simpa using hc, cond_true]
      obtain ⟨q, e, q1, q2⟩ := h3 _ hc
      have e' : t = q := by omega
      subst e'
      exact ⟨_, rfl, fun _ => q2, fun hf => ⟨rfl, by have := (h4 hf).1; dsimp only; omega⟩⟩
    · rw [show at_.contains (t : Int) = false by simpa using hc, cond_false]
      have hgo : free → step + 1 < w.length := by
        intro hf
        obtain ⟨g1, g2⟩ := h4 hf
        by_cases e : step = w.length - 1
        · exfalso
          rw [e, hw.last] at g2
          exact hc g2
        · omega
      by_cases hst : (step : Int) = most
      · rw [decide_eq_true hst, cond_true]
        exact ⟨_, rfl, fun h => (by cases h), fun hf => by have := hgo hf; omega⟩
      · rw [decide_eq_false hst, cond_false]
        have es : (step : Int) + 1 = ((step + 1 : Nat) : Int) := by omega
        rw [es]
        have hplace : ∀ p : Nat, p < s.Costs.length → ∀ z ∈ nextL s p ++ [(p : Int)], ∃ q : Nat, z = (q : Int) ∧ q < s.Costs.length ∧ far s fr q ≤ far s fr p + 1 := by
          intro p hp z hz
          rw [List.mem_append, List.mem_singleton] at hz
          rcases hz with hz | rfl
          · obtain ⟨q, e, q1, q2⟩ := (next_mem hs hp).1 hz
            exact ⟨q, e, q1, far_step q2⟩
          · exact ⟨p, rfl, hp, by omega⟩
        obtain ⟨a, ha⟩ := qstep_total (may := fun q => may q ((step + 1 : Nat) : Int)) (nxt := nxt) (s := at_) (acc := []) (fun p hp => by
          obtain ⟨q, rfl, q1, q2⟩ := h3 p hp
          refine ⟨_, hm.nxt q q1, fun z hz => ?_⟩
          obtain ⟨z', rfl, z1, _⟩ := hplace q q1 z hz
          exact ⟨_, hm.may z' _ z1⟩)
        rw [ha, Option.bind_some]
        obtain ⟨_, hmem⟩ := qstep_some ha
        refine qgo_ok hs hm ht hw hmo hfree f (step + 1) a (by omega) (by omega) (fun z hz => ?_) (fun hf => ?_)
        · rcases (hmem z).1 hz with h | ⟨_, p, hp, l, hl, hzl⟩
          · cases h
          · obtain ⟨q, rfl, q1, q2⟩ := h3 p hp
            rw [hm.nxt q q1] at hl
            cases hl
            obtain ⟨z', e, z1, z2⟩ := hplace q q1 z hzl
            exact ⟨z', e, z1, by omega⟩
        · have hg := hgo hf
          refine ⟨hg, (hmem _).2 (.inr ?_)⟩
          obtain ⟨s1, s2, s3⟩ := hw.st step hg
          obtain ⟨i1, _⟩ := hw.inn step (by omega)
          obtain ⟨j1, _⟩ := hw.inn (step + 1) hg
          refine ⟨?_, _, (h4 hf).2, _, hm.nxt _ i1, List.mem_append_left _ ((next_mem hs i1).2 ⟨_, rfl, j1, s1⟩)⟩
          rw [hm.may _ _ j1]
          unfold mayB
          rw [decide_eq_true s3, hfree hf (step + 1) hg]
          rfl
theorem quickL_ok {s : SSea} (hs : SeaO s) {may : Int → Int → Option Bool} {nxt : Int → Option (List Int)} (hqm : QM s may nxt) {fr t : Nat} {c : List Int} (hfr : fr < s.Costs.length) (ht : t < s.Costs.length) (hz : g0 s.Costs fr ≠ 0) {w : List Nat} (hw : Pth s c t fr w) :
    ∃ r : Int × Bool, quickL may nxt (fr : Int) (t : Int) (s.Costs.length : Int) = some r ∧ (r.2 = true → far s fr t ≤ r.1) ∧ ((∀ i, i < w.length → shutNow s (n0 w i) (i : Int) = false) → r.2 = true ∧ r.1 ≤ (w.length : Int) - 1) := by
  have hhi := hs.hi
  have hlen := hw.len
  have hcost := hs.cost fr
  unfold quickL
  rw [hqm.may fr 0 hfr, Option.bind_some]
  refine qgo_ok hs hqm ht hw (by omega) (free := ∀ i, i < w.length → shutNow s (n0 w i) (i : Int) = false) (fun h => h) 202 0 _ (by omega) (by omega) (fun z hz => ?_) (fun hf => ?_)
  · cases hb : mayB s fr 0 with
    | true =>
      rw [hb, cond_true, List.mem_singleton] at hz
      exact ⟨fr, hz, hfr, by rw [far_self]; omega⟩
    | false => rw [hb] at hz; cases hz
  · refine ⟨hw.pos, ?_⟩
    have h0 := hf 0 hw.pos
    rw [hw.hd] at h0 ⊢
    have : mayB s fr 0 = true := by
      unfold mayB
      rw [decide_eq_true (show 0 < g0 s.Costs fr by omega)]
      have h0' : shutNow s fr 0 = false := h0
      rw [h0']
      rfl
    rw [this, cond_true]
    exact List.mem_singleton.2 rfl
theorem quick_ok {n : Nat} {s : SSea} {fr t : Nat} {c : List Int} (hsea : seaB s = true) (hfr : fr < s.Costs.length) (ht : t < s.Costs.length) (hz : g0 s.Costs fr ≠ 0) {w : List Nat} (hw : Pth s c t fr w) (hsh : s.Shut.length ≤ 1048576) (hn : 1000000000 < n) :
    ∃ r : Int × Bool, impl_Quickest n s (fr : Int) (t : Int) (s.Costs.length : Int) = some r ∧ (r.2 = true → far s fr t ≤ r.1) ∧ ((∀ i, i < w.length → shutNow s (n0 w i) (i : Int) = false) → r.2 = true ∧ r.1 ≤ (w.length : Int) - 1) := by
  have hs := seaO hsea
  have hhi := hs.hi
  have hlen := hw.len
  have hcost := hs.cost fr
  unfold impl_Quickest
  rw [sea_impl s (by omega) hsh hn, hsea, Option.bind_some, place_impl hs, Option.bind_some, show placeB s (fr : Int) = true from decide_eq_true (by omega), place_impl hs, Option.bind_some, show placeB s (t : Int) = true from decide_eq_true (by omega), in_impl, Option.bind_some, decide_eq_true (by omega)]
  simp only [Bool.not_true, cond_false]
  have hqm : QM s (fun q st => ix q s.Costs.length (bif decide (s.Costs.getD q.toNat 0 > 0) then (impl_Sea_shut n s q st).bind fun b => some (!b) else some false)) (fun p => impl_Sea_next n s p) := by
    refine ⟨fun q st hq => ?_, fun q hq => next_impl hs hq⟩
    show ix (q : Int) s.Costs.length _ = _
    rw [ix_nat hq, Int.toNat_natCast, shut_impl hs hq st hsh hn, Option.bind_some]
    unfold mayB
    show (bif decide (0 < g0 s.Costs q) then _ else _) = _
    cases decide (0 < g0 s.Costs q) <;> rfl
  exact quickL_ok hs hqm hfr ht hz hw
end Go.Sm
end

section
set_option linter.unusedVariables false
set_option linter.unusedSimpArgs false
namespace Go.Sm
attribute [local irreducible] bd chk ix loopN
/-! ### A drawn sea is in order -/
structure ShDr (z : SClosed) : Prop where
  x : (0 ≤ z.X0 ∧ z.X0 ≤ z.X1) ∧ z.X1 ≤ 11
  y : (0 ≤ z.Y0 ∧ z.Y0 ≤ z.Y1) ∧ z.Y1 ≤ 11
  t : (0 ≤ z.From ∧ z.From ≤ z.To) ∧ z.To ≤ 1000000
theorem drawn_sea {m1 m2 : Nat} {C : List Int} {F : List SClosed} (h1 : 1 ≤ m1 ∧ m1 ≤ 12) (h2 : 1 ≤ m2 ∧ m2 ≤ 12) (hC : C.length = m1 * m2) (hv : ∀ x ∈ C, 0 ≤ x ∧ x ≤ 1000) (hF : F.length ≤ 10) (hy : ∀ y ∈ F, ShDr y) : seaB ⟨(m1 : Int), (m2 : Int), C, F⟩ = true := by
  have hm : m1 * m2 ≤ 12 * 12 := Nat.mul_le_mul h1.2 h2.2
  have w3 : w64 ((m1 : Int) * (m2 : Int)) = ((m1 * m2 : Nat) : Int) := by
    rw [show (m1 : Int) * (m2 : Int) = ((m1 * m2 : Nat) : Int) from (Int.natCast_mul ..).symm, w64_id (by omega) (by omega)]
  unfold seaB
  dsimp only
  rw [w3, hC, decide_eq_true (show 1 ≤ (m1 : Int) ∧ (m1 : Int) ≤ 12 by omega), decide_eq_true (show 1 ≤ (m2 : Int) ∧ (m2 : Int) ≤ 12 by omega), decide_eq_true (show ((m1 * m2 : Nat) : Int) = ((m1 * m2 : Nat) : Int) from rfl), decide_eq_false (show ¬ (F.length : Int) > 10 by omega)]
  have a1 : (List.range (m1 * m2)).all (costB C) = true := all_iffR.2 fun k hk => decide_eq_true (hv _ (getD_mem (by omega)))
  have a2 : (List.range F.length).all (shutB ⟨(m1 : Int), (m2 : Int), C, F⟩) = true := all_iffR.2 fun k hk => by
    have h := hy _ (getD_mem (d := dSClosed) hk)
    have x := h.x
    have y := h.y
    have t := h.t
    unfold shutB shutAt
    dsimp only
    rw [decide_eq_true x.1, decide_eq_true y.1, decide_eq_true t.1, decide_eq_false (show ¬ (F.getD k dSClosed).X1 ≥ 12 by omega), decide_eq_false (show ¬ (F.getD k dSClosed).Y1 ≥ 12 by omega), decide_eq_false (show ¬ (F.getD k dSClosed).To > 1000000 by omega)]
    rfl
  rw [a1, a2]
  rfl
theorem draw_sea {n : Nat} {c : Sl1Cur} (hc : CurOk c) (hn : 1000000000 < n) : ∃ h c', spec_l7Draw n c = some (h, c') ∧ (seaB h = true ∧ 1 ≤ h.Costs.length ∧ h.Shut.length ≤ 10) ∧ CurOk c' := by
  obtain ⟨v1, c1, e1, a1, q1⟩ := below_ok (n := n) hc (m := 5) (by omega)
  obtain ⟨v2, c2, e2, a2, q2⟩ := below_ok (n := n) q1 (m := 5) (by omega)
  have w1 : w64 ((1 : Int) + v1) = 1 + v1 := w64_id (by omega) (by omega)
  have w2 : w64 ((1 : Int) + v2) = 1 + v2 := w64_id (by omega) (by omega)
  obtain ⟨m1, hm1⟩ : ∃ m1 : Nat, 1 + v1 = (m1 : Int) := ⟨(1 + v1).toNat, by omega⟩
  obtain ⟨m2, hm2⟩ : ∃ m2 : Nat, 1 + v2 = (m2 : Int) := ⟨(1 + v2).toNat, by omega⟩
  have hmul : m1 * m2 ≤ 5 * 5 := Nat.mul_le_mul (by omega) (by omega)
  have hpos : 0 < m1 * m2 := Nat.mul_pos (by omega) (by omega)
  have w3 : w64 ((m1 : Int) * (m2 : Int)) = ((m1 * m2 : Nat) : Int) := by
    rw [show (m1 : Int) * (m2 : Int) = ((m1 * m2 : Nat) : Int) from (Int.natCast_mul ..).symm, w64_id (by omega) (by omega)]
  unfold spec_l7Draw
  rw [e1, Option.bind_some]
  dsimp only
  rw [e2, Option.bind_some, w1, w2, hm1, hm2]
  refine loop_runS (S := Sl1Cur × List Int) (X := Int × Sl1Cur × List Int) (enc := fun k s => (k, s.1, s.2)) (len := m1 * m2) (I := fun k s => CurOk s.1 ∧ s.2.length = k ∧ ∀ x ∈ s.2, 0 ≤ x ∧ x ≤ 1000)
    (Q := fun r => ∃ h c', r = some (h, c') ∧ (seaB h = true ∧ 1 ≤ h.Costs.length ∧ h.Shut.length ≤ 10) ∧ CurOk c') (fun k s J hk hI => ?_) (fun s J hI => ?_) (by omega) (s0 := (c2, [])) ⟨q2, rfl, fun x hx => by cases hx⟩
  · obtain ⟨i1, i2, i3⟩ := hI
    obtain ⟨a, p1, e4, a4, q4⟩ := below_ok (n := n) i1 (m := 5) (by omega)
    obtain ⟨b, p2, e5, q5⟩ := onceB_ok (n := n) q4 (m := 4) (by omega)
    have w4 : w64 ((1 : Int) + a) = 1 + a := w64_id (by omega) (by omega)
    refine ⟨(p2, s.2 ++ [bif b then 0 else 1 + a]), ⟨q5, by rw [List.length_append, List.length_singleton, i2], fun x hx => ?_⟩, ?_⟩
    · rw [List.mem_append, List.mem_singleton] at hx
      rcases hx with hx | rfl
      · exact i3 x hx
      · cases b
        · rw [cond_false]; omega
        · rw [cond_true]; omega
    · show spec_l7Draw_L3 n _ _ (k : Int) s.1 _ _ _ _ (m1 : Int) (m2 : Int) s.2 _ = _
      unfold spec_l7Draw_L3 spec_l7Draw_k0
      rw [w3, decide_eq_true (by omega), cond_true, e4, Option.bind_some, bd_eq]
      dsimp only
      rw [e5, Option.bind_some, w4, w64_succ (by omega)]
      cases b <;> (dsimp only; simp only [cond_true, cond_false]; rw [chk_dec (by rw [List.length_append, List.length_singleton, i2]; omega)])
  · obtain ⟨i1, i2, i3⟩ := hI
    show ∃ h c', spec_l7Draw_L3 n _ _ ((m1 * m2 : Nat) : Int) s.1 _ _ _ _ (m1 : Int) (m2 : Int) s.2 _ = _ ∧ _
    unfold spec_l7Draw_L3
    rw [w3, decide_eq_false (by omega), cond_false]
    obtain ⟨a, p1, e4, a4, q4⟩ := below_ok (n := n) i1 (m := 3) (by omega)
    dsimp only
    rw [e4, Option.bind_some]
    refine loopN_ind (fun x => x.1.toNat) (fun x => ∃ k : Nat, x.1 = (k : Int) ∧ CurOk x.2.1 ∧ x.2.2.length + k ≤ 10 ∧ ∀ y ∈ x.2.2, ShDr y) (fun x r => ∃ h c', r = some (h, c') ∧ (seaB h = true ∧ 1 ≤ h.Costs.length ∧ h.Shut.length ≤ 10) ∧ CurOk c') ?_ n _ ⟨a.toNat, by dsimp only; omega, q4, by dsimp only; rw [List.length_nil]; omega, fun y hy => by cases hy⟩ (by dsimp only; omega)
    rintro ⟨_, p, F⟩ J ⟨k, rfl, hp, hF, hy⟩ ih
    dsimp only at hp hF hy
    show ∃ h c', spec_l7Draw_L10 n _ _ (k : Int) p _ _ _ _ (m1 : Int) (m2 : Int) _ F = _ ∧ _
    unfold spec_l7Draw_L10
    cases k with
    | zero =>
      rw [decide_eq_false (by omega), cond_false]
      exact ⟨_, _, rfl, ⟨drawn_sea (by omega) (by omega) i2 i3 (by omega) hy, by dsimp only; omega, by dsimp only; omega⟩, hp⟩
    | succ k =>
      rw [decide_eq_true (by omega), cond_true]
      unfold spec_l7Draw_k1
      obtain ⟨b1, d1, f1, g1, r1⟩ := below_ok (n := n) hp (m := 5) (by omega)
      obtain ⟨b2, d2, f2, g2, r2⟩ := below_ok (n := n) r1 (m := 5) (by omega)
      obtain ⟨b3, d3, f3, g3, r3⟩ := below_ok (n := n) r2 (m := 5) (by omega)
      obtain ⟨b4, d4, f4, g4, r4⟩ := below_ok (n := n) r3 (m := 2) (by omega)
      obtain ⟨b5, d5, f5, g5, r5⟩ := below_ok (n := n) r4 (m := 2) (by omega)
      obtain ⟨b6, d6, f6, g6, r6⟩ := below_ok (n := n) r5 (m := 6) (by omega)
      have x1 : w64 (b1 + b4) = b1 + b4 := w64_id (by omega) (by omega)
      have x2 : w64 (b2 + b5) = b2 + b5 := w64_id (by omega) (by omega)
      have x3 : w64 (b3 + b6) = b3 + b6 := w64_id (by omega) (by omega)
      simp only [f1, f2, f3, f4, f5, f6, Option.bind_some, bd_eq, x1, x2, x3]
      rw [chk_dec (by rw [List.length_append, List.length_singleton]; omega), show w64 (((k + 1 : Nat) : Int) - 1) = (k : Int) from by rw [w64_id (by omega) (by omega)]; omega]
      refine ih _ ⟨k, rfl, r6, by rw [List.length_append, List.length_singleton]; omega, fun y h => ?_⟩ (by dsimp only; omega)
      rw [List.mem_append, List.mem_singleton] at h
      rcases h with h | rfl
      · exact hy y h
      · exact ⟨by dsimp only; omega, by dsimp only; omega, by dsimp only; omega⟩
theorem drawRight_ok {n : Nat} (code : List Int) (hc : code.length ≤ 1048576) (hn : 1000000000 < n) : ∃ (h : SSea) (f : Nat), spec_DrawRightSea n code = some (h, (f : Int)) ∧ seaB h = true ∧ h.Shut.length ≤ 10 ∧ f < h.Costs.length := by
  obtain ⟨c, e1, q1⟩ := new_ok code hc hn
  obtain ⟨h, c2, e2, ⟨hd1, hd2, hd3⟩, q2⟩ := draw_sea q1 hn
  have hhi := (seaO hd1).hi
  unfold spec_DrawRightSea
  rw [e1, Option.bind_some, e2, Option.bind_some]
  refine loopN_ind (fun x => 30 - x.1.toNat) (fun x => ∃ k : Nat, x.1 = (k : Int) ∧ k ≤ 30 ∧ CurOk x.2) (fun x r => ∃ (h : SSea) (f : Nat), r = some (h, (f : Int)) ∧ seaB h = true ∧ h.Shut.length ≤ 10 ∧ f < h.Costs.length) ?_ n _ ⟨0, rfl, by omega, q2⟩ (by dsimp only; omega)
  rintro ⟨_, p⟩ J ⟨k, rfl, hk, hp⟩ ih
  dsimp only at hp
  show ∃ (h' : SSea) (f : Nat), spec_DrawRightSea_L4 n _ _ _ (k : Int) _ _ _ _ p _ _ _ _ = _ ∧ _
  unfold spec_DrawRightSea_L4
  by_cases hlt : k < 30
  · rw [decide_eq_true (by omega), cond_true]
    obtain ⟨a, p1, e4, a4, q4⟩ := below_ok (n := n) hp (m := (h.Costs.length : Int)) (by omega)
    rw [e4, Option.bind_some, ix_of a4.1 a4.2, chk_dec (by dsimp only; omega), w64_succ (by omega)]
    cases decide (h.Costs.getD a.toNat 0 > 0) with
    | true =>
      rw [cond_true]
      refine ⟨h, a.toNat, ?_, hd1, hd3, by omega⟩
      rw [show ((a.toNat : Nat) : Int) = a by omega]
    | false =>
      rw [cond_false]
      exact ih _ ⟨k + 1, rfl, by omega, q4⟩ (by dsimp only; omega)
  · rw [decide_eq_false (by omega), cond_false]
    exact ⟨h, 0, rfl, hd1, hd3, by omega⟩
theorem at_okB {n : Nat} (code : List Int) (hc : code.length ≤ 1048576) (hr : ∀ y ∈ code, rng 0 255 y) {i : Int} (hi : 0 ≤ i ∧ i ≤ 100) : ∃ v, laws_at n code i = some v ∧ 0 ≤ v ∧ v ≤ 255 := by
  unfold laws_at
  by_cases h : i < (code.length : Int)
  · rw [decide_eq_true h, cond_true, ix_of hi.1 h]
    have := hr _ (getD_mem (l := code) (d := 0) (show i.toNat < code.length by omega))
    unfold rng at this
    exact ⟨_, rfl, by rw [w64_id (by omega) (by omega)]; exact this⟩
  · rw [decide_eq_false h, cond_false, bd_eq, bd_eq, w64_id (x := i * 7) (by omega) (by omega), w64_id (by omega) (by omega)]
    exact ⟨_, rfl, Int.tmod_nonneg _ (by omega), by have := Int.tmod_lt_of_pos (i * 7 + (code.length : Int)) (show (0 : Int) < 256 by omega); omega⟩
/-! ### Good updates on a chart in order -/
end Go.Sm
end

section
set_option linter.unusedVariables false
set_option linter.unusedSimpArgs false
namespace Go.Sm
attribute [local irreducible] bd chk ix loopN
/-! ### The law -/
theorem way_ok {n : Nat} {s : SSea} {f t : Nat} {c : List Int} (hsea : seaB s = true) (hfl : f < s.Costs.length) (htl : t < s.Costs.length) (hL : Lab s f c) (hF : Fix s c) (hch : impl_Cheapest n s (f : Int) = some (c, true)) (hn : 1000000000 < n) :
    (g0 c t < 0 ∧ impl_WayOf n s (f : Int) (t : Int) = some ([], false)) ∨ (0 ≤ g0 c t ∧ ∃ w, Pth s c t f w ∧ impl_WayOf n s (f : Int) (t : Int) = some (inI w, true)) := by
  have hs := seaO hsea
  have hhi := hs.hi
  have hcl := hL.len
  have et : c.getD t 0 = g0 c t := rfl
  by_cases hneg : g0 c t < 0
  · refine .inl ⟨hneg, ?_⟩
    unfold impl_WayOf
    rw [hch, Option.bind_some]
    dsimp only
    rw [Bool.not_true, cond_false, place_impl hs, Option.bind_some, show placeB s (t : Int) = true from decide_eq_true (by omega), Bool.not_true, cond_false, ix_nat (by omega), Int.toNat_natCast, chk_dec (by omega), et, decide_eq_true hneg, cond_true]
  · refine .inr ⟨by omega, ?_⟩
    have hle := hL.le hs t
    obtain ⟨w, hw1, hw⟩ := path_pth (fr := f) hs hL hF (t := t) 200000 t [t] htl (by omega) (by omega) ⟨by simp, rfl, rfl, fun i hi => by
      have : i = 0 := by rw [List.length_singleton] at hi; omega
      subst this
      exact ⟨htl, by show 0 ≤ g0 c t; omega⟩, fun i hi => by rw [List.length_singleton] at hi; omega⟩
    have hlen := hw.len
    have hpos := hw.pos
    have hil : (inI w).length = w.length := List.length_map ..
    refine ⟨w, hw, ?_⟩
    unfold impl_WayOf
    rw [hch, Option.bind_some]
    dsimp only
    rw [Bool.not_true, cond_false, place_impl hs, Option.bind_some, show placeB s (t : Int) = true from decide_eq_true (by omega), Bool.not_true, cond_false, ix_nat (by omega), Int.toNat_natCast, chk_dec (by omega), et, decide_eq_false hneg, cond_false]
    unfold impl_WayOf_k2
    refine (path_impl _ hs hL hF hn 200000 t [(t : Int)] n htl (by omega) (by omega) (by omega) (by rw [List.length_singleton]; omega)).trans ?_
    rw [show pathL s c f 200000 t [(t : Int)] = inI w from hw1]
    have hrl : (inI w).reverse.length = w.length := by rw [List.length_reverse, hil]
    rw [bd_eq, w64_id (by omega) (by omega), rev_loop _ _ (by omega) (by omega) hn, List.reverse_reverse, own_int _ (by omega)]
    rfl
theorem size_ok (n : Nat) {x : Int} (h : -1000 ≤ x ∧ x ≤ 1000) : laws_size n x = some (az x) := by
  unfold laws_size az
  by_cases c : x < 0
  · rw [decide_eq_true c, cond_true, w64_id (by omega) (by omega)]
    congr 1
    omega
  · rw [decide_eq_false c, cond_false]
    congr 1
    omega
theorem proves_zero {n : Nat} {s : SSea} {fr : Nat} {c : List Int} (hsea : seaB s = true) (hfr : fr < s.Costs.length) (hz : g0 s.Costs fr = 0) (hsh : s.Shut.length ≤ 1048576) (hn : 1000000000 < n) : impl_Proves n s (fr : Int) c = some false := by
  have hs := seaO hsea
  have hhi := hs.hi
  unfold impl_Proves
  rw [sea_impl s (by omega) hsh hn, hsea, Option.bind_some, place_impl hs, Option.bind_some, show placeB s (fr : Int) = true from decide_eq_true (by omega)]
  simp only [Bool.not_true, cond_false]
  rw [ix_nat hfr, Int.toNat_natCast, show s.Costs.getD fr 0 = g0 s.Costs fr from rfl, decide_eq_true hz, cond_true]
theorem k0_ok {n : Nat} {s : SSea} {f t : Nat} {c : List Int} (hsea : seaB s = true) (hfl : f < s.Costs.length) (htl : t < s.Costs.length) (hz : g0 s.Costs f ≠ 0) (hL : Lab s f c) {w : List Nat} (hw : Pth s c t f w) (hsh : s.Shut.length ≤ 1048576) (hn : 1000000000 < n) :
    laws_FnCheapest_k0 n (f : Int) (t : Int) s.Wide s.High s.Costs s.Shut c (inI w) = some true := by
  have hs := seaO hsea
  have hhi := hs.hi
  have hlen := hw.len
  have hpos := hw.pos
  have hil : (inI w).length = w.length := List.length_map ..
  have hW := hs.w
  have hH := hs.h
  obtain ⟨a1, a2, a3, a4, a5⟩ := xy hs hfl
  obtain ⟨b1, b2, b3, b4, b5⟩ := xy hs htl
  obtain ⟨⟨steps, soon⟩, hq, hB, hA⟩ := quick_ok (n := n) hsea hfl htl hz hw hsh hn
  unfold laws_FnCheapest_k0
  have ef : Int.tmod (f : Int) s.Wide = xO s f := rfl
  have et : Int.tmod (t : Int) s.Wide = xO s t := rfl
  have gf : Int.tdiv (f : Int) s.Wide = yO s f := rfl
  have gt : Int.tdiv (t : Int) s.Wide = yO s t := rfl
  have z1 : w64 (xO s f - xO s t) = xO s f - xO s t := w64_id (by omega) (by omega)
  have z2 : w64 (yO s f) = yO s f := w64_id (by omega) (by omega)
  have z3 : w64 (yO s t) = yO s t := w64_id (by omega) (by omega)
  have z4 : w64 (yO s f - yO s t) = yO s f - yO s t := w64_id (by omega) (by omega)
  have z5 : w64 ((w.length : Int) - 1) = (w.length : Int) - 1 := w64_id (by omega) (by omega)
  have z6 : w64 (az (xO s f - xO s t) + az (yO s f - yO s t)) = far s f t := w64_id (by unfold az; omega) (by unfold az; omega)
  rw [hL.len, hq, Option.bind_some]
  simp only [decide_eq_false (show ¬ s.Wide = 0 by omega), cond_false, bd_eq, ef, et, gf, gt, z1, z2, z3, z4]
  rw [size_ok n (by omega), Option.bind_some, size_ok n (by omega), Option.bind_some]
  rcases wshut_way (n := n) hsea hz hL hw hsh hn with ⟨hfree, h1⟩ | ⟨k, hk, h1⟩
  · obtain ⟨g1, g2⟩ := hA hfree
    dsimp only at g1 g2 hB
    subst g1
    have hB := hB rfl
    rw [h1, Option.bind_some]
    simp only [Bool.not_false, Bool.not_true, cond_true, cond_false, hil, z5, z6, decide_eq_false (show ¬ steps > (w.length : Int) - 1 by omega), decide_eq_true (show steps ≥ far s f t from hB)]
  · rw [h1, Option.bind_some]
    simp only [Bool.not_true, cond_true, cond_false, hil, z6, decide_eq_false (show ¬ (k : Int) < 0 by omega), decide_eq_false (show ¬ (k : Int) ≥ (w.length : Int) by omega)]
    cases soon with
    | false => rfl
    | true =>
      dsimp only at hB
      rw [decide_eq_true (show steps ≥ far s f t from hB rfl)]
      rfl
theorem k3_ok {n : Nat} {s : SSea} {f : Nat} {c : List Int} {code : List Int} (hcode : code.length ≤ 1048576) (hr : ∀ y ∈ code, rng 0 255 y) (hsea : seaB s = true) (hfl : f < s.Costs.length) (hc : CRes s f c) (hch : impl_Cheapest n s (f : Int) = some (c, true)) (hsh : s.Shut.length ≤ 1048576) (hn : 1000000000 < n) :
    laws_FnCheapest_k3 n code (f : Int) s.Wide s.High s.Costs s.Shut c = some true := by
  have hs := seaO hsea
  have hhi := hs.hi
  unfold laws_FnCheapest_k3
  rw [ix_nat hfl, Int.toNat_natCast, chk_dec hfl, show s.Costs.getD f 0 = g0 s.Costs f from rfl]
  rcases hc with ⟨hz, _⟩ | ⟨hz, hL, hF⟩
  · rw [decide_eq_true hz, cond_true, proves_zero hsea hfl hz hsh hn, Option.bind_some]
    rfl
  · have hcl := hL.len
    have hb : ∀ p, -1 ≤ g0 c p ∧ g0 c p ≤ 200000 := fun p => ⟨hL.low p, by have := hL.le hs p; omega⟩
    have hp1 : impl_Proves n s (f : Int) c = some true := by
      rw [proves_impl hsea hfl hz hcl hb hsh hn, decide_eq_true hL.fr0, all_of fun p hp => prov_true hs hz hL hF hp]
      rfl
    rw [decide_eq_false hz, cond_false, hp1, Option.bind_some, Bool.not_true, cond_false]
    unfold laws_FnCheapest_k2
    obtain ⟨v, hv1, hv2⟩ := at_okB (n := n) code hcode hr (i := 5) (by omega)
    rw [hv1, Option.bind_some, decide_eq_false (by omega), cond_false, bd_eq]
    obtain ⟨k, hk⟩ : ∃ k : Nat, Int.tmod v (c.length : Int) = (k : Int) := ⟨(Int.tmod v (c.length : Int)).toNat, by have := Int.tmod_nonneg (c.length : Int) hv2.1; omega⟩
    have hkl : k < s.Costs.length := by have := Int.tmod_lt_of_pos v (show 0 < (c.length : Int) by omega); omega
    have hlo := hb k
    rw [hk, chk_dec (by omega), ix_nat (by omega), Int.toNat_natCast, chk_dec (by omega), bd_eq, ix_nat (by omega), chk_dec (by omega), show c.getD k 0 = g0 c k from rfl, w64_id (by omega) (by omega)]
    have hp2 : impl_Proves n s (f : Int) (c.set k (g0 c k + 1)) = some false := by
      rw [proves_impl hsea hfl hz (by rw [List.length_set]; exact hcl) (fun p => ?_) hsh hn, prov_bent hs hz hL hF hkl]
      rw [set_get]
      have := hL.le hs k
      split
      · omega
      · exact hb p
    rw [hp2, Option.bind_some, cond_false]
    rcases way_ok hsea hfl hkl hL hF hch hn with ⟨g1, g2⟩ | ⟨g1, w, hw, g2⟩
    · rw [g2, Option.bind_some]
      simp only [Bool.not_false, cond_true]
      rw [ix_nat (by omega), chk_dec (by omega), decide_eq_true g1]
    · rw [g2, Option.bind_some]
      simp only [Bool.not_true, cond_false]
      have hil : (inI w).length = w.length := List.length_map ..
      have hpos := hw.pos
      have hlen := hw.len
      have i0 : (inI w).getD 0 0 = (f : Int) := by rw [inI_get w hpos, hw.hd]
      have i1 : (inI w).getD (w.length - 1) 0 = (k : Int) := by rw [inI_get w (by omega), hw.last]
      have e1 : w64 ((w.length : Int) - 1) = ((w.length - 1 : Nat) : Int) := by rw [w64_id (by omega) (by omega)]; omega
      unfold laws_FnCheapest_k1
      rw [cost_way hsea hz hL hw hsh hn, Option.bind_some]
      simp only [Bool.not_true, cond_false]
      rw [ix_nat (by omega), Int.toNat_natCast, chk_dec (by omega), show c.getD k 0 = g0 c k from rfl, decide_eq_true (show g0 c k = g0 c k from rfl), Bool.not_true, cond_false, hil, show (0 : Int) = ((0 : Nat) : Int) from rfl, ix_nat hpos, chk_dec hpos]
      rw [show (inI w).getD 0 ((0 : Nat) : Int) = (f : Int) from i0, decide_eq_true (show (f : Int) = (f : Int) from rfl), Bool.not_true, cond_false, bd_eq, e1, ix_nat (by omega), Int.toNat_natCast, chk_dec (by omega)]
      rw [show (inI w).getD (w.length - 1) ((0 : Nat) : Int) = (k : Int) from i1, decide_eq_true (show (k : Int) = (k : Int) from rfl), Bool.not_true, cond_false]
      exact k0_ok hsea hfl hkl hz hL hw hsh hn
theorem laws_FnCheapest_true (code0 : List Int) (h0 : (code0.length ≤ 9223372036854775807 ∧ ∀ y ∈ code0, rng 0 255 y)) : ∃ n, laws_FnCheapest n code0 = some true := by
  refine ⟨1000000001, ?_⟩
  generalize hN : (1000000001 : Nat) = n
  have hn : 1000000000 < n := by omega
  unfold laws_FnCheapest laws_big
  rw [Option.bind_some]
  by_cases hbig : (code0.length : Int) > 1048576
  · rw [decide_eq_true hbig, cond_true]
  · rw [decide_eq_false hbig, cond_false]
    obtain ⟨s, f, e1, hsea, hsh, hfl⟩ := drawRight_ok (n := n) code0 (by omega) hn
    have hs := seaO hsea
    have hhi := hs.hi
    obtain ⟨c, hc, hch⟩ := cheap_impl (n := n) s f hsea hfl (by omega) (by omega) hn
    have hcl : c.length = s.Costs.length := by
      rcases hc with ⟨_, a⟩ | ⟨_, a, _⟩
      · rw [a, iniK_len (Nat.le_refl _)]
      · exact a.len
    unfold laws_FnCheapest_k4
    rw [e1, Option.bind_some]
    dsimp only
    rw [hch, Option.bind_some]
    dsimp only
    rw [Bool.not_true, cond_false, hcl, decide_eq_true (show (s.Costs.length : Int) = (s.Costs.length : Int) from rfl), Bool.not_true, cond_false, sea_impl s (by omega) (by omega) hn, hsea, Option.bind_some, Bool.not_true, cond_false]
    exact k3_ok (by omega) h0.2 hsea hfl hc hch (by omega) hn
end Go.Sm
end
