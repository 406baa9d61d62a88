import Derived.Test.YtmefinakmgnbpaaEngA
/- The functions as plain functions over data, and that the law answers true for all arguments. Kept: what the drawn calls of functions are handed is not changed by them. -/
section
set_option linter.unusedSimpArgs false
set_option linter.deprecated false
set_option linter.unusedSectionVars false
set_option linter.unusedVariables false
namespace Go.Sm
structure SYard where
  High : Int
  Stacks : List (List Int)
structure SYardOp where
  Kind : Int
  Box : Int
  Stack : Int
structure Sl1Cur where
  b : List Int
  i : Int
  h : Int
structure SRadio where
  Id : Int
  Slot : Int
  Hears : List Int
def dSYard : SYard := ⟨(0 : Int), []⟩
def dSYardOp : SYardOp := ⟨(0 : Int), (0 : Int), (0 : Int)⟩
def dSl1Cur : Sl1Cur := ⟨[], (0 : Int), (0 : Int)⟩
def dSRadio : SRadio := ⟨(0 : Int), (0 : Int), []⟩
def laws_big (n : Nat) (code0 : List Int) : Option Bool :=
  some ((decide ((code0.length : Int) > (1048576 : Int))))
def spec_l1New_k0 {R : Type} (n : Nat) (kx0 : Int → Option R) (J : Int → Int → Option R) (code2 : List Int) (h8 : Int) (i9 : Int) : Option R :=
  ix i9 code2.length ((bd (w64 ((w64 (h8 * (131 : Int))) + (w64 (code2.getD i9.toNat (0 : Int))))) fun (v10 : Int) => (bd (w64 (((BitVec.ofInt 64 (w64 (v10 + (7 : Int))) &&& BitVec.ofInt 64 (1073741823 : Int)).toNat : Nat) : Int)) fun (v11 : Int) => J v11 (w64 (i9 + (1 : Int))))))
def spec_l1New_L3 {R : Type} (n : Nat) (kx0 : Int → Option R) (J : Int → Int → Option R) (code2 : List Int) (h3 : Int) (i4 : Int) : Option R :=
  (bif (decide (i4 < (code2.length : Int))) then (bif (decide (i4 < (4000 : Int))) then spec_l1New_k0 n kx0 J code2 h3 i4 else kx0 h3) else kx0 h3)
def spec_l1New (n : Nat) (code0 : List Int) : Option Sl1Cur :=
  (bd (w64 ((59059 : Int) + (code0.length : Int))) fun (v1 : Int) => loopN (fun (x : Int × Int) J' => spec_l1New_L3 n (fun h16 => some ((⟨code0, (0 : Int), h16⟩ : Sl1Cur))) (fun h17 i18 => J' (h17, i18)) code0 x.1 x.2) n (v1, (0 : Int)))
def spec_l1Byte (n : Nat) (c0 : Sl1Cur) : Option (Int × Sl1Cur) :=
  (bd (w64 (c0.h * (6364136223846793005 : Int))) fun (v1 : Int) => (bd (w64 (v1 + (1442695040888963407 : Int))) fun (v2 : Int) => (bd (Int.fdiv v2 (2 ^ (min (33 : Int).toNat 64))) fun (v3 : Int) => (bd (Int.fdiv v2 (2 ^ (min (45 : Int).toNat 64))) fun (v4 : Int) => (bd (w64 (((BitVec.ofInt 64 v3 ^^^ BitVec.ofInt 64 v4).toNat : Nat) : Int)) fun (v5 : Int) => (bd (w64 (((BitVec.ofInt 64 v5 &&& BitVec.ofInt 64 (255 : Int)).toNat : Nat) : Int)) fun (v6 : Int) => (bif (decide (c0.i < (c0.b.length : Int))) then ix c0.i c0.b.length ((bd (w64 (v6 + (w64 (c0.b.getD c0.i.toNat (0 : Int))))) fun (v7 : Int) => (bd (w64 (((BitVec.ofInt 64 v7 &&& BitVec.ofInt 64 (255 : Int)).toNat : Nat) : Int)) fun (v8 : Int) => some (v8, (⟨c0.b, (w64 (c0.i + (1 : Int))), v2⟩ : Sl1Cur))))) else some (v6, (⟨c0.b, c0.i, v2⟩ : Sl1Cur)))))))))
def spec_l1Below_k0 (n : Nat)  (n1 : Int) (p3 : Sl1Cur) : Option (Int × Sl1Cur) :=
  (spec_l1Byte n p3).bind fun r4 => (spec_l1Byte n r4.2).bind fun r5 => (spec_l1Byte n r5.2).bind fun r6 => (spec_l1Byte n r6.2).bind fun r7 => (bd (w64 (r4.1 * (16777216 : Int))) fun (v8 : Int) => (bd (w64 (r5.1 * (65536 : Int))) fun (v9 : Int) => (bd (w64 (r6.1 * (256 : Int))) fun (v10 : Int) => (bd (w64 ((w64 (v8 + v9)) + v10)) fun (v11 : Int) => (bif decide (n1 = 0) then none else (bd (Int.tmod (w64 (v11 + r7.1)) n1) fun (v12 : Int) => some (v12, r7.2)))))))
def spec_l1Below (n : Nat) (c0 : Sl1Cur) (n1 : Int) : Option (Int × Sl1Cur) :=
  (bif (decide (n1 ≤ (0 : Int))) then some ((0 : Int), c0) else (bif (decide (n1 ≤ (256 : Int))) then (spec_l1Byte n c0).bind fun r13 => (bif decide (n1 = 0) then none else some ((Int.tmod r13.1 n1), r13.2)) else spec_l1Below_k0 n  n1 c0))
def spec_l18Draw_k0 {R : Type} (n : Nat) (kx0 : Sl1Cur → List (List Int) → Option R) (J : Int → Int → Sl1Cur → List (List Int) → Option R) (stacks2 : Int) (boxes3 : Int) (box11 : Int) (i12 : Int) (p13 : Sl1Cur) (t7 : Int) (c8 : List (List Int)) (y9 : Int) (c14 : List (List Int)) : Option R :=
  (bd (w64 (box11 + (1 : Int))) fun (v15 : Int) => (spec_l1Below n p13 (2 : Int)).bind fun r16 => (spec_l1Below n r16.2 stacks2).bind fun r17 => ix r17.1 c14.length (chk (decide (r17.1.toNat < c14.length)) (chk (decide (r17.1.toNat < c14.length)) ((bif (decide (((c14.getD r17.1.toNat []).length : Int) < y9)) then ix r17.1 c14.length (chk (decide (r17.1.toNat < c14.length)) (chk (decide (r17.1.toNat < c14.length)) (chk (decide (((c14.getD r17.1.toNat []) ++ [(w64 (v15 + r16.1))]).length * 8 ≤ 140737488355328)) (ix r17.1 c14.length (chk (decide (r17.1.toNat < c14.length)) (chk (decide (r17.1.toNat = r17.1.toNat)) ((bd (c14.set r17.1.toNat ((c14.getD r17.1.toNat []) ++ [(w64 (v15 + r16.1))])) fun (l18 : List (List Int)) => J (w64 (v15 + r16.1)) (w64 (i12 + (1 : Int))) r17.2 l18)))))))) else J (w64 (v15 + r16.1)) (w64 (i12 + (1 : Int))) r17.2 c14)))))
def spec_l18Draw_L4 {R : Type} (n : Nat) (kx0 : Sl1Cur → List (List Int) → Option R) (J : Int → Int → Sl1Cur → List (List Int) → Option R) (stacks2 : Int) (boxes3 : Int) (box4 : Int) (i5 : Int) (p6 : Sl1Cur) (t7 : Int) (c8 : List (List Int)) (y9 : Int) (c10 : List (List Int)) : Option R :=
  (bif (decide (i5 < boxes3)) then spec_l18Draw_k0 n kx0 J stacks2 boxes3 box4 i5 p6 t7 c8 y9 c10 else kx0 p6 c10)
def spec_l18Draw_k1 {R : Type} (n : Nat) (kx4 : Sl1Cur → List (List Int) → Option R) (J : Int → Sl1Cur → List (List Int) → Option R) (stacks39 : Int) (s40 : Int) (t47 : Int) (p48 : Sl1Cur) (t43 : Int) (c44 : List (List Int)) (y45 : Int) (c49 : List (List Int)) : Option R :=
  (spec_l1Below n p48 (w64 (t47 + (1 : Int)))).bind fun r50 => ix s40 c49.length (chk (decide (s40.toNat < c49.length)) (chk (decide (s40.toNat < c49.length)) (ix t47 ((c49.getD s40.toNat []).length) (chk (decide (s40.toNat < c49.length)) (chk (decide (t47.toNat < (c49.getD s40.toNat []).length)) (ix s40 c49.length (chk (decide (s40.toNat < c49.length)) (ix s40 c49.length (chk (decide (s40.toNat < c49.length)) (chk (decide (s40.toNat < c49.length)) (ix r50.1 ((c49.getD s40.toNat []).length) (chk (decide (s40.toNat < c49.length)) (chk (decide (r50.1.toNat < (c49.getD s40.toNat []).length)) (chk (decide (s40.toNat < c49.length)) (ix t47 ((c49.getD s40.toNat []).length) (chk (decide (s40.toNat < c49.length)) (chk (decide (t47.toNat < (c49.getD s40.toNat []).length)) ((bd (c49.set s40.toNat ((c49.getD s40.toNat []).set t47.toNat ((c49.getD s40.toNat []).getD r50.1.toNat (0 : Int)))) fun (l51 : List (List Int)) => ix s40 l51.length (chk (decide (s40.toNat < l51.length)) (chk (decide (s40.toNat < l51.length)) (ix r50.1 ((l51.getD s40.toNat []).length) (chk (decide (s40.toNat < l51.length)) (chk (decide (r50.1.toNat < (l51.getD s40.toNat []).length)) ((bd (l51.set s40.toNat ((l51.getD s40.toNat []).set r50.1.toNat ((c49.getD s40.toNat []).getD t47.toNat (0 : Int)))) fun (l52 : List (List Int)) => J (w64 (t47 + (1 : Int))) r50.2 l52))))))))))))))))))))))))))
def spec_l18Draw_L14 {R : Type} (n : Nat) (kx4 : Sl1Cur → List (List Int) → Option R) (J : Int → Sl1Cur → List (List Int) → Option R) (stacks39 : Int) (s40 : Int) (t41 : Int) (p42 : Sl1Cur) (t43 : Int) (c44 : List (List Int)) (y45 : Int) (c46 : List (List Int)) : Option R :=
  ix s40 c46.length (chk (decide (s40.toNat < c46.length)) (chk (decide (s40.toNat < c46.length)) ((bif (decide (t41 < ((c46.getD s40.toNat []).length : Int))) then spec_l18Draw_k1 n kx4 J stacks39 s40 t41 p42 t43 c44 y45 c46 else kx4 p42 c46))))
def spec_l18Draw_L11 {R : Type} (n : Nat) (kx2 : List (List Int) → Sl1Cur → Option R) (J : Int → Sl1Cur → List (List Int) → Option R) (stacks29 : Int) (s30 : Int) (p31 : Sl1Cur) (t32 : Int) (c33 : List (List Int)) (y34 : Int) (c35 : List (List Int)) : Option R :=
  (bif (decide (s30 < stacks29)) then loopN (fun (x : Int × Sl1Cur × List (List Int)) J' => spec_l18Draw_L14 n (fun p58 c59 => J (w64 (s30 + (1 : Int))) p58 c59) (fun t60 p61 c62 => J' (t60, p61, c62)) stacks29 s30 x.1 x.2.1 t32 c33 y34 x.2.2) n ((0 : Int), p31, c35) else kx2 c35 p31)
def spec_l18Draw (n : Nat) (c0 : Sl1Cur) (stacks1 : Int) (boxes2 : Int) : Option (SYard × Sl1Cur) :=
  (spec_l1Below n c0 (4 : Int)).bind fun r1 => chk (decide ((0 : Int) ≤ stacks1)) (chk (decide (stacks1 ≤ stacks1)) (chk (decide (stacks1 ≤ 9223372036854775807 ∧ stacks1 * (24 : Int) ≤ 281474976710656)) (loopN (fun (x : Int × Int × Sl1Cur × List (List Int)) J' => spec_l18Draw_L4 n (fun p27 c28 => loopN (fun (x : Int × Sl1Cur × List (List Int)) J' => spec_l18Draw_L11 n (fun c63 p64 => some ((⟨(w64 ((1 : Int) + r1.1)), c63⟩ : SYard), p64)) (fun s65 p66 c67 => J' (s65, p66, c67)) stacks1 x.1 x.2.1 (0 : Int) [] (w64 ((1 : Int) + r1.1)) x.2.2) n ((0 : Int), p27, c28)) (fun box68 i69 p70 c71 => J' (box68, i69, p70, c71)) stacks1 boxes2 x.1 x.2.1 x.2.2.1 (0 : Int) [] (w64 ((1 : Int) + r1.1)) x.2.2.2) n ((0 : Int), (0 : Int), r1.2, (List.replicate stacks1.toNat [])))))
def spec_l1PickInt (n : Nat) (c0 : Sl1Cur) (list1 : List Int) : Option (Int × Sl1Cur) :=
  (spec_l1Below n c0 (list1.length : Int)).bind fun r1 => ix r1.1 list1.length (some ((list1.getD r1.1.toNat (0 : Int)), r1.2))
def spec_l18DrawOp_k0 (n : Nat)  (p5 : Sl1Cur) (op6 : Int) (op7 : Int) (op8 : Int) : Option (SYardOp × Sl1Cur) :=
  (spec_l1Below n p5 (40 : Int)).bind fun r9 => (bif (decide (r9.1 = (0 : Int))) then (spec_l1PickInt n r9.2 [(0 : Int), (4 : Int)]).bind fun r10 => some ((⟨r10.1, op7, op8⟩ : SYardOp), r10.2) else (bif (decide (r9.1 = (1 : Int))) then some ((⟨op6, op7, (-1 : Int)⟩ : SYardOp), r9.2) else (bif (decide (r9.1 = (2 : Int))) then (spec_l1PickInt n r9.2 [(0 : Int), (-1 : Int), (1000000 : Int), (1000001 : Int)]).bind fun r18 => some ((⟨op6, r18.1, op8⟩ : SYardOp), r18.2) else some ((⟨op6, op7, op8⟩ : SYardOp), r9.2))))
def spec_l18DrawOp (n : Nat) (c0 : Sl1Cur) : Option (SYardOp × Sl1Cur) :=
  (spec_l1Below n c0 (3 : Int)).bind fun r1 => (spec_l1Below n r1.2 (26 : Int)).bind fun r2 => (spec_l1Below n r2.2 (5 : Int)).bind fun r3 => (bif (decide ((w64 ((1 : Int) + r1.1)) = (3 : Int))) then (spec_l1Below n r3.2 (5 : Int)).bind fun r4 => spec_l18DrawOp_k0 n  r4.2 (w64 ((1 : Int) + r1.1)) r4.1 r3.1 else spec_l18DrawOp_k0 n  r3.2 (w64 ((1 : Int) + r1.1)) (w64 ((1 : Int) + r2.1)) r3.1)
def spec_DrawYard_L5 {R : Type} (n : Nat) (kx0 : List SYardOp → Option R) (J : Int → Sl1Cur → List SYardOp → Option R) (i6 : Int) (t7 : Int) (c8 : List (List Int)) (t9 : Sl1Cur) (y10 : Int) (c11 : List (List Int)) (ops12 : List SYardOp) : Option R :=
  (bif (decide (i6 > (0 : Int))) then (spec_l18DrawOp n t9).bind fun r17 => chk (decide ((ops12 ++ [r17.1]).length * 24 ≤ 140737488355328)) (J (w64 (i6 - (1 : Int))) r17.2 (ops12 ++ [r17.1])) else kx0 ops12)
def spec_DrawYard (n : Nat) (code0 : List Int) : Option (SYard × List SYardOp) :=
  (spec_l1New n code0).bind fun r1 => (spec_l1Below n r1 (5 : Int)).bind fun r2 => (spec_l1Below n r2.2 (16 : Int)).bind fun r3 => (spec_l18Draw n r3.2 (w64 ((1 : Int) + r2.1)) r3.1).bind fun r4 => (spec_l1Below n r4.2 (25 : Int)).bind fun r5 => loopN (fun (x : Int × Sl1Cur × List SYardOp) J' => spec_DrawYard_L5 n (fun ops18 => some (r4.1, ops18)) (fun i19 t20 ops21 => J' (i19, t20, ops21)) x.1 (0 : Int) [] x.2.1 r4.1.High r4.1.Stacks x.2.2) n (r5.1, r5.2, [])
def impl_own_int (n : Nat) (l0 : List (List Int)) : Option (List (List Int)) :=
  chk (decide ((0 : Int) ≤ (l0.length : Int))) (chk (decide ((l0.length : Int) ≤ 9223372036854775807 ∧ (l0.length : Int) * (24 : Int) ≤ 281474976710656)) (chk (decide (l0.length * 24 ≤ 140737488355328)) (some (l0))))
def impl_own_int_f34 (n : Nat) (l0 : List Int) : Option (List Int) :=
  chk (decide ((0 : Int) ≤ (l0.length : Int))) (chk (decide ((l0.length : Int) ≤ 9223372036854775807 ∧ (l0.length : Int) * (8 : Int) ≤ 281474976710656)) (chk (decide (l0.length * 8 ≤ 140737488355328)) (some (l0))))
def impl_Yard_own_k0 {R : Type} (n : Nat) (kx0 : (List (List Int)) × Nat → Option R) (J : Int → (List (List Int)) × Nat → Option R) (t2 : Int) (t8 : Int) (y4 : SYard) (t5 : Int) (c6 : List (List Int)) (l9 : Nat) (l10 : List (List Int)) : Option R :=
  ix t8 l10.length (chk (decide (t8.toNat < l10.length)) ((bif (decide (t8.toNat < l9)) then chk (decide (t8.toNat < l10.length)) ((impl_own_int_f34 n (l10.getD t8.toNat [])).bind fun r11 => ix t8 l10.length (chk (decide (t8.toNat < l10.length)) ((bif (decide (t8.toNat = l9)) then J (w64 (t8 + (1 : Int))) ((l10.set t8.toNat r11), (l9 + 1)) else J (w64 (t8 + (1 : Int))) ((l10.set t8.toNat r11), l9))))) else (impl_own_int_f34 n (l10.getD t8.toNat [])).bind fun r12 => ix t8 l10.length (chk (decide (t8.toNat < l10.length)) ((bif (decide (t8.toNat = l9)) then J (w64 (t8 + (1 : Int))) ((l10.set t8.toNat r12), (l9 + 1)) else J (w64 (t8 + (1 : Int))) ((l10.set t8.toNat r12), l9)))))))
def impl_Yard_own_L3 {R : Type} (n : Nat) (kx0 : (List (List Int)) × Nat → Option R) (J : Int → (List (List Int)) × Nat → Option R) (t2 : Int) (t3 : Int) (y4 : SYard) (t5 : Int) (c6 : List (List Int)) (l7 : (List (List Int)) × Nat) : Option R :=
  (bif (decide (t3 < t2)) then impl_Yard_own_k0 n kx0 J t2 t3 y4 t5 c6 l7.2 l7.1 else kx0 (l7.1, l7.2))
def impl_Yard_own (n : Nat) (y0 : SYard) : Option SYard :=
  (impl_own_int n y0.Stacks).bind fun r1 => loopN (fun (x : Int × ((List (List Int)) × Nat)) J' => impl_Yard_own_L3 n (fun l13 => chk (decide (l13.1.length ≤ l13.2)) (some ((⟨y0.High, l13.1⟩ : SYard)))) (fun t14 l15 => J' (t14, l15)) (r1.length : Int) x.1 y0 (0 : Int) [] x.2) n ((0 : Int), (r1, 0))
def impl_in (n : Nat) (n0 : Int) (least1 : Int) (most2 : Int) : Option Bool :=
  (bif (decide (n0 ≥ least1)) then some ((decide (n0 ≤ most2))) else some (false))
def impl_idRight (n : Nat) (n0 : Int) : Option Bool :=
  (impl_in n n0 (1 : Int) (1000000 : Int)).bind fun r1 => some (r1)
def impl_YardOk_k0 {R : Type} (n : Nat) (kx2 : List (Int × Bool) → Option R) (kxr : Bool → Option R) (J : Int → List (Int × Bool) → Option R) (t14 : List (List Int)) (t15 : Int) (t16 : Int) (t17 : List Int) (t18 : Int) (t22 : Int) (y20 : SYard) (t23 : List (Int × Bool)) : Option R :=
  ix t22 t17.length ((impl_idRight n (t17.getD t22.toNat (0 : Int))).bind fun r24 => (bif (!r24) then kxr false else (bd (mgetI t23 (t17.getD t22.toNat (0 : Int))) fun (g28 : Option Bool) => (bif (g28.getD false) then kxr false else (bd (mputI t23 (t17.getD t22.toNat (0 : Int)) true) fun (m43 : List (Int × Bool)) => J (w64 (t22 + (1 : Int))) m43)))))
def impl_YardOk_L10 {R : Type} (n : Nat) (kx2 : List (Int × Bool) → Option R) (kxr : Bool → Option R) (J : Int → List (Int × Bool) → Option R) (t14 : List (List Int)) (t15 : Int) (t16 : Int) (t17 : List Int) (t18 : Int) (t19 : Int) (y20 : SYard) (t21 : List (Int × Bool)) : Option R :=
  (bif (decide (t19 < t18)) then impl_YardOk_k0 n kx2 kxr J t14 t15 t16 t17 t18 t19 y20 t21 else kx2 t21)
def impl_YardOk_k1 {R : Type} (n : Nat) (kx0 : Option R) (kxr : Bool → Option R) (J : Int → List (Int × Bool) → Option R) (t4 : List (List Int)) (t5 : Int) (t9 : Int) (y7 : SYard) (t10 : List (Int × Bool)) : Option R :=
  ix t9 t4.length ((bif (decide (((t4.getD t9.toNat []).length : Int) > y7.High)) then kxr false else loopN (fun (x : Int × (List (Int × Bool))) J' => impl_YardOk_L10 n (fun t52 => J (w64 (t9 + (1 : Int))) t52) (fun t55 => kxr t55) (fun t56 t57 => J' (t56, t57)) t4 t5 t9 (t4.getD t9.toNat []) ((t4.getD t9.toNat []).length : Int) x.1 y7 x.2) n ((0 : Int), t10)))
def impl_YardOk_L5 {R : Type} (n : Nat) (kx0 : Option R) (kxr : Bool → Option R) (J : Int → List (Int × Bool) → Option R) (t4 : List (List Int)) (t5 : Int) (t6 : Int) (y7 : SYard) (t8 : List (Int × Bool)) : Option R :=
  (bif (decide (t6 < t5)) then impl_YardOk_k1 n kx0 kxr J t4 t5 t6 y7 t8 else kx0)
def impl_YardOk (n : Nat) (y0 : SYard) : Option Bool :=
  (impl_in n y0.High (1 : Int) (6 : Int)).bind fun r1 => (bif (!r1) then some (false) else (impl_in n (y0.Stacks.length : Int) (1 : Int) (12 : Int)).bind fun r2 => (bif (!r2) then some (false) else loopN (fun (x : Int × (List (Int × Bool))) J' => impl_YardOk_L5 n (some (true)) (fun t64 => some (t64)) (fun t65 t66 => J' (t65, t66)) y0.Stacks (y0.Stacks.length : Int) x.1 y0 x.2) n ((0 : Int), [])))
def slices_Index_int_int_L2 {R : Type} (n : Nat) (kx0 : Option R) (kxr : Int → Option R) (J : Int → Option R) (s1 : List Int) (v2 : Int) (t3 : Int) (t4 : Int) : Option R :=
  (bif (decide (t4 < t3)) then ix t4 s1.length ((bif (decide (v2 = (s1.getD t4.toNat (0 : Int)))) then kxr t4 else J (w64 (t4 + (1 : Int))))) else kx0)
def slices_Index_int_int (n : Nat) (s0 : List Int) (v1 : Int) : Option Int :=
  loopN (fun (x : Int) J' => slices_Index_int_int_L2 n (some ((-1 : Int))) (fun t8 => some (t8)) J' s0 v1 (s0.length : Int) x) n ((0 : Int))
def impl_FindBox_L3 {R : Type} (n : Nat) (kx0 : Option R) (kxr : Int → Int → Bool → Option R) (J : Int → Option R) (box2 : Int) (t3 : List (List Int)) (t4 : Int) (t5 : Int) : Option R :=
  (bif (decide (t5 < t4)) then ix t5 t3.length ((slices_Index_int_int n (t3.getD t5.toNat []) box2).bind fun r9 => (bif (decide (r9 ≥ (0 : Int))) then kxr t5 r9 true else J (w64 (t5 + (1 : Int))))) else kx0)
def impl_FindBox (n : Nat) (y0 : SYard) (box1 : Int) : Option (Int × Int × Bool) :=
  (impl_YardOk n y0).bind fun r1 => (bif r1 then loopN (fun (x : Int) J' => impl_FindBox_L3 n (some ((-1 : Int), (-1 : Int), false)) (fun t11 t12 t13 => some (t11, t12, t13)) J' box1 y0.Stacks (y0.Stacks.length : Int) x) n ((0 : Int)) else some ((-1 : Int), (-1 : Int), false))
def impl_Yard_lift (n : Nat) (y0 : SYard) (from1 : Int) (to2 : Int) : Option (List (List Int)) :=
  ix from1 y0.Stacks.length (chk (decide (from1.toNat < y0.Stacks.length)) (chk (decide (from1.toNat < y0.Stacks.length)) ((bd (w64 (((y0.Stacks.getD from1.toNat []).length : Int) - (1 : Int))) fun (v1 : Int) => ix to2 y0.Stacks.length (chk (decide (to2.toNat < y0.Stacks.length)) (chk (decide (to2.toNat < y0.Stacks.length)) ((impl_own_int_f34 n (y0.Stacks.getD to2.toNat [])).bind fun r2 => chk (decide (from1.toNat < y0.Stacks.length)) (ix v1 ((y0.Stacks.getD from1.toNat []).length) (chk (decide (from1.toNat < y0.Stacks.length)) (chk (decide (v1.toNat < (y0.Stacks.getD from1.toNat []).length)) ((bd (r2 ++ [((y0.Stacks.getD from1.toNat []).getD v1.toNat (0 : Int))]) fun (l3 : List Int) => chk (decide (l3.length * 8 ≤ 140737488355328)) (ix to2 y0.Stacks.length (chk (decide (to2.toNat < y0.Stacks.length)) ((bif (decide (from1.toNat = to2.toNat)) then none else chk (decide (from1.toNat < (y0.Stacks.set to2.toNat l3).length)) (chk (decide ((0 : Int) ≤ v1)) (chk (decide (v1 ≤ (((y0.Stacks.set to2.toNat l3).getD from1.toNat []).length : Int))) ((bif (decide (from1.toNat = to2.toNat)) then none else chk (decide (from1.toNat < (y0.Stacks.set to2.toNat l3).length)) (chk (decide ((0 + (v1.toNat - 0)) ≤ ((y0.Stacks.set to2.toNat l3).getD from1.toNat []).length)) ((impl_own_int_f34 n ((((y0.Stacks.set to2.toNat l3).getD from1.toNat []).drop 0).take (v1.toNat - 0))).bind fun r4 => ix from1 ((y0.Stacks.set to2.toNat l3).length) (chk (decide (from1.toNat < (y0.Stacks.set to2.toNat l3).length)) ((bd ((y0.Stacks.set to2.toNat l3).set from1.toNat r4) fun (l5 : List (List Int)) => some (l5))))))))))))))))))))))))))
def impl_DoYard_k0 (n : Nat)  (op1 : SYardOp) (x25 : Int) (t26 : List (List Int)) : Option (SYard × Int × Int) :=
  ix op1.Stack t26.length (chk (decide (op1.Stack.toNat < t26.length)) (chk (decide (op1.Stack.toNat < t26.length)) (chk (decide (((t26.getD op1.Stack.toNat []) ++ [op1.Box]).length * 8 ≤ 140737488355328)) ((impl_own_int_f34 n ((t26.getD op1.Stack.toNat []) ++ [op1.Box])).bind fun r27 => ix op1.Stack t26.length (chk (decide (op1.Stack.toNat < t26.length)) (chk (decide (op1.Stack.toNat = op1.Stack.toNat)) ((bd (t26.set op1.Stack.toNat r27) fun (l28 : List (List Int)) => some ((⟨x25, l28⟩ : SYard), (0 : Int), (0 : Int))))))))))
def impl_DoYard_k1 {R : Type} (n : Nat) (kx5 : Int → Option R) (J : Int → Int → Option R) (at59 : Int) (tier60 : Int) (many61 : Int) (to72 : Int) (t63 : Int) (t73 : Int) (y65 : SYard) (t66 : Int) (c67 : List (List Int)) (was68 : Int) (c69 : List (List Int)) (x70 : Int) (c71 : List (List Int)) : Option R :=
  ix t73 c71.length (chk (decide (t73.toNat < c71.length)) ((bif (!(decide (t73 = at59))) then chk (decide (t73.toNat < c71.length)) ((bif (decide (((c71.getD t73.toNat []).length : Int) < y65.High)) then (bif (decide (to72 < (0 : Int))) then J t73 (w64 (t73 + (1 : Int))) else chk (decide (t73.toNat < c71.length)) (ix to72 c71.length (chk (decide (to72.toNat < c71.length)) (chk (decide (to72.toNat < c71.length)) ((bif (decide (((c71.getD t73.toNat []).length : Int) < ((c71.getD to72.toNat []).length : Int))) then J t73 (w64 (t73 + (1 : Int))) else J to72 (w64 (t73 + (1 : Int))))))))) else J to72 (w64 (t73 + (1 : Int))))) else J to72 (w64 (t73 + (1 : Int))))))
def impl_DoYard_L29 {R : Type} (n : Nat) (kx5 : Int → Option R) (J : Int → Int → Option R) (at59 : Int) (tier60 : Int) (many61 : Int) (to62 : Int) (t63 : Int) (t64 : Int) (y65 : SYard) (t66 : Int) (c67 : List (List Int)) (was68 : Int) (c69 : List (List Int)) (x70 : Int) (c71 : List (List Int)) : Option R :=
  (bif (decide (t64 < t63)) then impl_DoYard_k1 n kx5 J at59 tier60 many61 to62 t63 t64 y65 t66 c67 was68 c69 x70 c71 else kx5 to62)
def impl_DoYard_k2 {R : Type} (n : Nat) (kx3 : Int → List (List Int) → Option R) (kxr : Int → Int → Option R) (J : Int → List (List Int) → Option R) (at46 : Int) (tier47 : Int) (many57 : Int) (y49 : SYard) (t50 : Int) (c51 : List (List Int)) (was52 : Int) (c53 : List (List Int)) (x54 : Int) (c58 : List (List Int)) : Option R :=
  loopN (fun (x : Int × Int) J' => impl_DoYard_L29 n (fun to105 => (bif (decide (to105 < (0 : Int))) then kxr (0 : Int) (4 : Int) else (impl_Yard_lift n (⟨x54, c58⟩ : SYard) at46 to105).bind fun r114 => (bd (w64 (many57 + (1 : Int))) fun (v117 : Int) => J v117 r114))) (fun to118 t119 => J' (to118, t119)) at46 tier47 many57 x.1 (c58.length : Int) x.2 y49 t50 c51 was52 c53 x54 c58) n ((-1 : Int), (0 : Int))
def impl_DoYard_L25 {R : Type} (n : Nat) (kx3 : Int → List (List Int) → Option R) (kxr : Int → Int → Option R) (J : Int → List (List Int) → Option R) (at46 : Int) (tier47 : Int) (many48 : Int) (y49 : SYard) (t50 : Int) (c51 : List (List Int)) (was52 : Int) (c53 : List (List Int)) (x54 : Int) (c55 : List (List Int)) : Option R :=
  ix at46 c55.length (chk (decide (at46.toNat < c55.length)) (chk (decide (at46.toNat < c55.length)) ((bd (w64 (((c55.getD at46.toNat []).length : Int) - (1 : Int))) fun (v56 : Int) => (bif (decide (v56 > tier47)) then impl_DoYard_k2 n kx3 kxr J at46 tier47 many48 y49 t50 c51 was52 c53 x54 c55 else kx3 many48 c55)))))
def impl_DoYard_k3 (n : Nat)  (at40 : Int) (tier41 : Int) (y0 : SYard) (was42 : Int) (t43 : List (List Int)) (x44 : Int) (t45 : List (List Int)) : Option (SYard × Int × Int) :=
  loopN (fun (x : Int × List (List Int)) J' => impl_DoYard_L25 n (fun many120 c121 => ix at40 c121.length (chk (decide (at40.toNat < c121.length)) (chk (decide (at40.toNat < c121.length)) (chk (decide ((0 : Int) ≤ tier41)) (chk (decide (tier41 ≤ ((c121.getD at40.toNat []).length : Int))) (chk (decide (at40.toNat < c121.length)) (chk (decide ((0 + (tier41.toNat - 0)) ≤ (c121.getD at40.toNat []).length)) ((impl_own_int_f34 n (((c121.getD at40.toNat []).drop 0).take (tier41.toNat - 0))).bind fun r122 => ix at40 c121.length (chk (decide (at40.toNat < c121.length)) (some ((⟨x44, (c121.set at40.toNat r122)⟩ : SYard), many120, (0 : Int)))))))))))) (fun t123 t124 => some ((⟨was42, t43⟩ : SYard), t123, t124)) (fun many125 c126 => J' (many125, c126)) at40 tier41 x.1 y0 (0 : Int) [] was42 t43 x44 x.2) n ((0 : Int), t45)
def impl_DoYard_k4 (n : Nat)  (y0 : SYard) (op1 : SYardOp) (was21 : Int) (t22 : List (List Int)) : Option (SYard × Int × Int) :=
  (impl_Yard_own n y0).bind fun r23 => (impl_FindBox n y0 op1.Box).bind fun r24 => (bif (decide (op1.Kind = (1 : Int))) then (bif r24.2.2 then some ((⟨was21, t22⟩ : SYard), (0 : Int), (2 : Int)) else ix op1.Stack r23.Stacks.length (chk (decide (op1.Stack.toNat < r23.Stacks.length)) (chk (decide (op1.Stack.toNat < r23.Stacks.length)) ((bif (decide (((r23.Stacks.getD op1.Stack.toNat []).length : Int) = y0.High)) then some ((⟨was21, t22⟩ : SYard), (0 : Int), (4 : Int)) else impl_DoYard_k0 n  op1 r23.High r23.Stacks))))) else (bif (decide (op1.Kind = (3 : Int))) then ix op1.Box r23.Stacks.length (chk (decide (op1.Box.toNat < r23.Stacks.length)) (chk (decide (op1.Box.toNat < r23.Stacks.length)) ((bif (decide (((r23.Stacks.getD op1.Box.toNat []).length : Int) = (0 : Int))) then some ((⟨was21, t22⟩ : SYard), (0 : Int), (3 : Int)) else ix op1.Stack r23.Stacks.length (chk (decide (op1.Stack.toNat < r23.Stacks.length)) (chk (decide (op1.Stack.toNat < r23.Stacks.length)) ((bif (decide (((r23.Stacks.getD op1.Stack.toNat []).length : Int) = y0.High)) then some ((⟨was21, t22⟩ : SYard), (0 : Int), (4 : Int)) else (impl_Yard_lift n r23 op1.Box op1.Stack).bind fun r32 => some ((⟨r23.High, r32⟩ : SYard), (0 : Int), (0 : Int)))))))))) else (bif (!r24.2.2) then some ((⟨was21, t22⟩ : SYard), (0 : Int), (3 : Int)) else impl_DoYard_k3 n  r24.1 r24.2.1 y0 was21 t22 r23.High r23.Stacks)))
def impl_DoYard (n : Nat) (y0 : SYard) (op1 : SYardOp) : Option (SYard × Int × Int) :=
  (impl_Yard_own n y0).bind fun r1 => (bd (w64 ((y0.Stacks.length : Int) - (1 : Int))) fun (v2 : Int) => (impl_YardOk n y0).bind fun r3 => (bif (!r3) then some (r1, (0 : Int), (1 : Int)) else (impl_in n op1.Kind (1 : Int) (3 : Int)).bind fun r6 => (bif (!r6) then some (r1, (0 : Int), (1 : Int)) else (bif (!(decide (op1.Kind = (2 : Int)))) then (impl_in n op1.Stack (0 : Int) v2).bind fun r9 => (bif (!r9) then some (r1, (0 : Int), (1 : Int)) else (bif (decide (op1.Kind = (1 : Int))) then (impl_idRight n op1.Box).bind fun r12 => (bif (!r12) then some (r1, (0 : Int), (1 : Int)) else (bif (decide (op1.Kind = (3 : Int))) then (impl_in n op1.Box (0 : Int) v2).bind fun r15 => (bif (!r15) then some (r1, (0 : Int), (1 : Int)) else (bif (decide (op1.Box = op1.Stack)) then some (r1, (0 : Int), (1 : Int)) else impl_DoYard_k4 n  y0 op1 r1.High r1.Stacks)) else impl_DoYard_k4 n  y0 op1 r1.High r1.Stacks)) else (bif (decide (op1.Kind = (3 : Int))) then (impl_in n op1.Box (0 : Int) v2).bind fun r141 => (bif (!r141) then some (r1, (0 : Int), (1 : Int)) else (bif (decide (op1.Box = op1.Stack)) then some (r1, (0 : Int), (1 : Int)) else impl_DoYard_k4 n  y0 op1 r1.High r1.Stacks)) else impl_DoYard_k4 n  y0 op1 r1.High r1.Stacks))) else (bif (decide (op1.Kind = (1 : Int))) then (impl_idRight n op1.Box).bind fun r153 => (bif (!r153) then some (r1, (0 : Int), (1 : Int)) else (bif (decide (op1.Kind = (3 : Int))) then (impl_in n op1.Box (0 : Int) v2).bind fun r156 => (bif (!r156) then some (r1, (0 : Int), (1 : Int)) else (bif (decide (op1.Box = op1.Stack)) then some (r1, (0 : Int), (1 : Int)) else impl_DoYard_k4 n  y0 op1 r1.High r1.Stacks)) else impl_DoYard_k4 n  y0 op1 r1.High r1.Stacks)) else (bif (decide (op1.Kind = (3 : Int))) then (impl_in n op1.Box (0 : Int) v2).bind fun r168 => (bif (!r168) then some (r1, (0 : Int), (1 : Int)) else (bif (decide (op1.Box = op1.Stack)) then some (r1, (0 : Int), (1 : Int)) else impl_DoYard_k4 n  y0 op1 r1.High r1.Stacks)) else impl_DoYard_k4 n  y0 op1 r1.High r1.Stacks))))))
def impl_RunYard_k0 {R : Type} (n : Nat) (kx0 : Int → Int → List (List Int) → List Int → Option R) (J : Int → Int → Int → List (List Int) → List Int → Option R) (all13 : Int) (t5 : List SYardOp) (t6 : Int) (t14 : Int) (y15 : Int) (c16 : List (List Int)) (t10 : Int) (c11 : List (List Int)) (codes17 : List Int) : Option R :=
  ix t14 t5.length ((bd (t5.getD t14.toNat dSYardOp) fun (e18 : SYardOp) => (impl_DoYard n (⟨y15, c16⟩ : SYard) e18).bind fun r19 => chk (decide ((codes17 ++ [r19.2.2]).length * 8 ≤ 140737488355328)) (J (w64 (all13 + r19.2.1)) (w64 (t14 + (1 : Int))) r19.1.High r19.1.Stacks (codes17 ++ [r19.2.2]))))
def impl_RunYard_L7 {R : Type} (n : Nat) (kx0 : Int → Int → List (List Int) → List Int → Option R) (J : Int → Int → Int → List (List Int) → List Int → Option R) (all4 : Int) (t5 : List SYardOp) (t6 : Int) (t7 : Int) (y8 : Int) (c9 : List (List Int)) (t10 : Int) (c11 : List (List Int)) (codes12 : List Int) : Option R :=
  (bif (decide (t7 < t6)) then impl_RunYard_k0 n kx0 J all4 t5 t6 t7 y8 c9 t10 c11 codes12 else kx0 all4 y8 c9 codes12)
def impl_RunYard_k1 (n : Nat)  (ops1 : List SYardOp) (y2 : Int) (t3 : List (List Int)) : Option (SYard × List Int × Int) :=
  loopN (fun (x : Int × Int × Int × List (List Int) × List Int) J' => impl_RunYard_L7 n (fun all20 y21 c22 codes23 => (impl_own_int_f34 n codes23).bind fun r24 => some ((⟨y21, c22⟩ : SYard), r24, all20)) (fun all25 t26 y27 c28 codes29 => J' (all25, t26, y27, c28, codes29)) x.1 ops1 (ops1.length : Int) x.2.1 x.2.2.1 x.2.2.2.1 (0 : Int) [] x.2.2.2.2) n ((0 : Int), (0 : Int), y2, t3, [])
def impl_RunYard (n : Nat) (y0 : SYard) (ops1 : List SYardOp) : Option (SYard × List Int × Int) :=
  (impl_Yard_own n y0).bind fun r1 => (bif (decide ((ops1.length : Int) > (200 : Int))) then some (r1, [], (0 : Int)) else impl_RunYard_k1 n  ops1 r1.High r1.Stacks)
def spec_l1Once (n : Nat) (c0 : Sl1Cur) (n1 : Int) : Option (Bool × Sl1Cur) :=
  (spec_l1Below n c0 n1).bind fun r1 => some ((decide (r1.1 = (0 : Int))), r1.2)
def spec_l9DrawRadios_k0 {R : Type} (n : Nat) (kx0 : Sl1Cur → List SRadio → Option R) (J : Int → Int → Sl1Cur → List SRadio → Option R) (n5 : Int) (id11 : Int) (slots7 : Int) (i12 : Int) (p13 : Sl1Cur) (out14 : List SRadio) : Option R :=
  (spec_l1Below n p13 (50 : Int)).bind fun r15 => (bd (w64 ((w64 (id11 + (1 : Int))) + r15.1)) fun (v16 : Int) => (spec_l1Below n r15.2 slots7).bind fun r17 => (bd (out14 ++ [(⟨v16, r17.1, []⟩ : SRadio)]) fun (l18 : List SRadio) => chk (decide (l18.length * 40 ≤ 140737488355328)) (J v16 (w64 (i12 + (1 : Int))) r17.2 l18)))
def spec_l9DrawRadios_L8 {R : Type} (n : Nat) (kx0 : Sl1Cur → List SRadio → Option R) (J : Int → Int → Sl1Cur → List SRadio → Option R) (n5 : Int) (id6 : Int) (slots7 : Int) (i8 : Int) (p9 : Sl1Cur) (out10 : List SRadio) : Option R :=
  (bif (decide (i8 < n5)) then spec_l9DrawRadios_k0 n kx0 J n5 id6 slots7 i8 p9 out10 else kx0 p9 out10)
def spec_l9DrawRadios_k1 {R : Type} (n : Nat) (kx4 : Sl1Cur → List SRadio → Option R) (J : Int → Sl1Cur → List SRadio → Option R) (n31 : Int) (few32 : Int) (i33 : Int) (k41 : Int) (p42 : Sl1Cur) (out43 : List SRadio) : Option R :=
  ix i33 out43.length (chk (decide (i33.toNat < out43.length)) (chk (decide (i33.toNat < out43.length)) (chk (decide (((out43.getD i33.toNat dSRadio).Hears ++ [k41]).length * 8 ≤ 140737488355328)) (ix i33 out43.length (chk (decide (i33.toNat < out43.length)) ((bd (out43.getD i33.toNat dSRadio) fun (e44 : SRadio) => chk (decide (i33.toNat = i33.toNat)) ((bd (out43.set i33.toNat (⟨e44.Id, e44.Slot, ((out43.getD i33.toNat dSRadio).Hears ++ [k41])⟩ : SRadio)) fun (l45 : List SRadio) => ix k41 l45.length (chk (decide (k41.toNat < l45.length)) (chk (decide (k41.toNat < l45.length)) (chk (decide (((l45.getD k41.toNat dSRadio).Hears ++ [i33]).length * 8 ≤ 140737488355328)) (ix k41 l45.length (chk (decide (k41.toNat < l45.length)) ((bd (l45.getD k41.toNat dSRadio) fun (e46 : SRadio) => chk (decide (k41.toNat = k41.toNat)) ((bd (l45.set k41.toNat (⟨e46.Id, e46.Slot, ((l45.getD k41.toNat dSRadio).Hears ++ [i33])⟩ : SRadio)) fun (l47 : List SRadio) => J (w64 (k41 + (1 : Int))) p42 l47))))))))))))))))))
def spec_l9DrawRadios_k2 {R : Type} (n : Nat) (kx4 : Sl1Cur → List SRadio → Option R) (J : Int → Sl1Cur → List SRadio → Option R) (n31 : Int) (few32 : Int) (i33 : Int) (k52 : Int) (t53 : Bool) (p54 : Sl1Cur) (out55 : List SRadio) : Option R :=
  (bif t53 then ix i33 out55.length (chk (decide (i33.toNat < out55.length)) (chk (decide (i33.toNat < out55.length)) (chk (decide (((out55.getD i33.toNat dSRadio).Hears ++ [k52]).length * 8 ≤ 140737488355328)) (ix i33 out55.length (chk (decide (i33.toNat < out55.length)) ((bd (out55.getD i33.toNat dSRadio) fun (e56 : SRadio) => chk (decide (i33.toNat = i33.toNat)) ((bd (out55.set i33.toNat (⟨e56.Id, e56.Slot, ((out55.getD i33.toNat dSRadio).Hears ++ [k52])⟩ : SRadio)) fun (l57 : List SRadio) => ix k52 l57.length (chk (decide (k52.toNat < l57.length)) (chk (decide (k52.toNat < l57.length)) (chk (decide (((l57.getD k52.toNat dSRadio).Hears ++ [i33]).length * 8 ≤ 140737488355328)) (ix k52 l57.length (chk (decide (k52.toNat < l57.length)) ((bd (l57.getD k52.toNat dSRadio) fun (e58 : SRadio) => chk (decide (k52.toNat = k52.toNat)) ((bd (l57.set k52.toNat (⟨e58.Id, e58.Slot, ((l57.getD k52.toNat dSRadio).Hears ++ [i33])⟩ : SRadio)) fun (l59 : List SRadio) => J (w64 (k52 + (1 : Int))) p54 l59)))))))))))))))))) else J (w64 (k52 + (1 : Int))) p54 out55)
def spec_l9DrawRadios_k3 {R : Type} (n : Nat) (kx4 : Sl1Cur → List SRadio → Option R) (J : Int → Sl1Cur → List SRadio → Option R) (n31 : Int) (few32 : Int) (i33 : Int) (k37 : Int) (p38 : Sl1Cur) (out39 : List SRadio) : Option R :=
  (spec_l1Once n p38 few32).bind fun r40 => (bif r40.1 then spec_l9DrawRadios_k1 n kx4 J n31 few32 i33 k37 r40.2 out39 else (bif (decide (n31 = (24 : Int))) then (spec_l1Once n r40.2 (9 : Int)).bind fun r51 => spec_l9DrawRadios_k2 n kx4 J n31 few32 i33 k37 (!r51.1) r51.2 out39 else J (w64 (k37 + (1 : Int))) r40.2 out39))
def spec_l9DrawRadios_L17 {R : Type} (n : Nat) (kx4 : Sl1Cur → List SRadio → Option R) (J : Int → Sl1Cur → List SRadio → Option R) (n31 : Int) (few32 : Int) (i33 : Int) (k34 : Int) (p35 : Sl1Cur) (out36 : List SRadio) : Option R :=
  (bif (decide (k34 < n31)) then spec_l9DrawRadios_k3 n kx4 J n31 few32 i33 k34 p35 out36 else kx4 p35 out36)
def spec_l9DrawRadios_L14 {R : Type} (n : Nat) (kx2 : List SRadio → Sl1Cur → Option R) (J : Int → Sl1Cur → List SRadio → Option R) (n23 : Int) (few24 : Int) (i25 : Int) (p26 : Sl1Cur) (out27 : List SRadio) : Option R :=
  (bif (decide (i25 < n23)) then loopN (fun (x : Int × Sl1Cur × List SRadio) J' => spec_l9DrawRadios_L17 n (fun p80 out81 => J (w64 (i25 + (1 : Int))) p80 out81) (fun k82 p83 out84 => J' (k82, p83, out84)) n23 few24 i25 x.1 x.2.1 x.2.2) n ((w64 (i25 + (1 : Int))), p26, out27) else kx2 out27 p26)
def spec_l9DrawRadios_k4 (n : Nat)  (p3 : Sl1Cur) : Option (List SRadio × Sl1Cur) :=
  (spec_l1Below n p3 (8 : Int)).bind fun r4 => loopN (fun (x : Int × Int × Sl1Cur × List SRadio) J' => spec_l9DrawRadios_L8 n (fun p19 out20 => (spec_l1Below n p19 (3 : Int)).bind fun r21 => (bd (w64 ((2 : Int) + r21.1)) fun (v22 : Int) => loopN (fun (x : Int × Sl1Cur × List SRadio) J' => spec_l9DrawRadios_L14 n (fun out85 p86 => some (out85, p86)) (fun i87 p88 out89 => J' (i87, p88, out89)) (24 : Int) v22 x.1 x.2.1 x.2.2) n ((0 : Int), r21.2, out20))) (fun id90 i91 p92 out93 => J' (id90, i91, p92, out93)) (24 : Int) x.1 (w64 ((1 : Int) + r4.1)) x.2.1 x.2.2.1 x.2.2.2) n ((0 : Int), (0 : Int), r4.2, [])
def spec_l9DrawRadios_k5 (n : Nat)  (n94 : Int) (p95 : Sl1Cur) : Option (List SRadio × Sl1Cur) :=
  (spec_l1Below n p95 (8 : Int)).bind fun r96 => (bd (w64 ((1 : Int) + r96.1)) fun (v97 : Int) => loopN (fun (x : Int × Int × Sl1Cur × List SRadio) J' => spec_l9DrawRadios_L8 n (fun p98 out99 => (spec_l1Below n p98 (3 : Int)).bind fun r100 => (bd (w64 ((2 : Int) + r100.1)) fun (v101 : Int) => loopN (fun (x : Int × Sl1Cur × List SRadio) J' => spec_l9DrawRadios_L14 n (fun out102 p103 => some (out102, p103)) (fun i104 p105 out106 => J' (i104, p105, out106)) n94 v101 x.1 x.2.1 x.2.2) n ((0 : Int), r100.2, out99))) (fun id107 i108 p109 out110 => J' (id107, i108, p109, out110)) n94 x.1 v97 x.2.1 x.2.2.1 x.2.2.2) n ((0 : Int), (0 : Int), r96.2, []))
def spec_l9DrawRadios (n : Nat) (c0 : Sl1Cur) : Option (List SRadio × Sl1Cur) :=
  (spec_l1Below n c0 (9 : Int)).bind fun r1 => (spec_l1Once n r1.2 (20 : Int)).bind fun r2 => (bif r2.1 then spec_l9DrawRadios_k4 n  r2.2 else spec_l9DrawRadios_k5 n  (w64 ((1 : Int) + r1.1)) r2.2)
def spec_l9DrawCoins_L3 {R : Type} (n : Nat) (kx0 : List Int → Sl1Cur → Option R) (J : Int → Sl1Cur → List Int → Option R) (n1 : Int) (i2 : Int) (p3 : Sl1Cur) (out4 : List Int) : Option R :=
  (bif (decide (i2 < n1)) then (spec_l1Below n p3 (1000 : Int)).bind fun r9 => chk (decide ((out4 ++ [r9.1]).length * 8 ≤ 140737488355328)) (J (w64 (i2 + (1 : Int))) r9.2 (out4 ++ [r9.1])) else kx0 out4 p3)
def spec_l9DrawCoins (n : Nat) (c0 : Sl1Cur) (n1 : Int) : Option (List Int × Sl1Cur) :=
  loopN (fun (x : Int × Sl1Cur × List Int) J' => spec_l9DrawCoins_L3 n (fun out10 p11 => some (out10, p11)) (fun i12 p13 out14 => J' (i12, p13, out14)) n1 x.1 x.2.1 x.2.2) n ((0 : Int), c0, [])
def spec_DrawQuiet_L3 {R : Type} (n : Nat) (kx0 : Sl1Cur → List SRadio → Option R) (J : Sl1Cur → List SRadio → Option R) (t3 : Sl1Cur) (list4 : List SRadio) : Option R :=
  (bif (decide ((list4.length : Int) = (24 : Int))) then (spec_l9DrawRadios n t3).bind fun r7 => J r7.2 r7.1 else kx0 t3 list4)
def spec_DrawQuiet (n : Nat) (code0 : List Int) : Option (List SRadio × List Int) :=
  (spec_l1New n code0).bind fun r1 => (spec_l9DrawRadios n r1).bind fun r2 => loopN (fun (x : Sl1Cur × List SRadio) J' => spec_DrawQuiet_L3 n (fun t8 list9 => (spec_l9DrawCoins n t8 (list9.length : Int)).bind fun r10 => some (list9, r10.1)) (fun t11 list12 => J' (t11, list12)) x.1 x.2) n (r2.2, r2.1)
def impl_idOk (n : Nat) (n0 : Int) : Option Bool :=
  (impl_in n n0 (1 : Int) (999999999 : Int)).bind fun r1 => some (r1)
def impl_slotOk (n : Nat) (n0 : Int) : Option Bool :=
  (impl_in n n0 (0 : Int) (19 : Int)).bind fun r1 => some (r1)
def slices_Contains_int_int (n : Nat) (s0 : List Int) (v1 : Int) : Option Bool :=
  (slices_Index_int_int n s0 v1).bind fun r1 => some ((decide (r1 ≥ (0 : Int))))
def impl_RadiosOk_k0 {R : Type} (n : Nat) (kx2 : Option R) (kxr : Bool → Option R) (J : Int → Option R) (list24 : List SRadio) (i25 : Int) (t26 : List SRadio) (t27 : Int) (t28 : Int) (t29 : List Int) (t30 : Int) (t33 : Int) (r32 : SRadio) : Option R :=
  ix t33 t29.length ((bd (w64 ((list24.length : Int) - (1 : Int))) fun (v34 : Int) => (impl_in n (t29.getD t33.toNat (0 : Int)) (0 : Int) v34).bind fun r35 => (bif (!r35) then kxr false else (bif (decide ((t29.getD t33.toNat (0 : Int)) = i25)) then kxr false else (bif (decide (t33 > (0 : Int))) then ix (w64 (t33 - (1 : Int))) r32.Hears.length ((bif (decide ((r32.Hears.getD ((w64 (t33 - (1 : Int))).toNat) (0 : Int)) ≥ (t29.getD t33.toNat (0 : Int)))) then kxr false else ix (t29.getD t33.toNat (0 : Int)) list24.length ((bd (list24.getD ((t29.getD t33.toNat (0 : Int)).toNat) dSRadio) fun (e39 : SRadio) => (slices_Contains_int_int n e39.Hears i25).bind fun r40 => (bif (!r40) then kxr false else J (w64 (t33 + (1 : Int)))))))) else ix (t29.getD t33.toNat (0 : Int)) list24.length ((bd (list24.getD ((t29.getD t33.toNat (0 : Int)).toNat) dSRadio) fun (e45 : SRadio) => (slices_Contains_int_int n e45.Hears i25).bind fun r46 => (bif (!r46) then kxr false else J (w64 (t33 + (1 : Int)))))))))))
def impl_RadiosOk_L9 {R : Type} (n : Nat) (kx2 : Option R) (kxr : Bool → Option R) (J : Int → Option R) (list24 : List SRadio) (i25 : Int) (t26 : List SRadio) (t27 : Int) (t28 : Int) (t29 : List Int) (t30 : Int) (t31 : Int) (r32 : SRadio) : Option R :=
  (bif (decide (t31 < t30)) then impl_RadiosOk_k0 n kx2 kxr J list24 i25 t26 t27 t28 t29 t30 t31 r32 else kx2)
def impl_RadiosOk_k1 {R : Type} (n : Nat) (kx0 : Option R) (kxr : Bool → Option R) (J : Int → Option R) (list2 : List SRadio) (t3 : List SRadio) (t4 : Int) (t6 : Int) : Option R :=
  ix t6 t3.length ((bd (t3.getD t6.toNat dSRadio) fun (e7 : SRadio) => (impl_idOk n e7.Id).bind fun r8 => (bif (!r8) then kxr false else (bif (decide (t6 > (0 : Int))) then ix (w64 (t6 - (1 : Int))) list2.length ((bd (list2.getD ((w64 (t6 - (1 : Int))).toNat) dSRadio) fun (e12 : SRadio) => (bif (decide (e12.Id ≥ e7.Id)) then kxr false else (impl_slotOk n e7.Slot).bind fun r16 => (bif (!r16) then kxr false else loopN (fun (x : Int) J' => impl_RadiosOk_L9 n (J (w64 (t6 + (1 : Int)))) (fun t60 => kxr t60) J' list2 t6 t3 t4 t6 e7.Hears (e7.Hears.length : Int) x e7) n ((0 : Int)))))) else (impl_slotOk n e7.Slot).bind fun r62 => (bif (!r62) then kxr false else loopN (fun (x : Int) J' => impl_RadiosOk_L9 n (J (w64 (t6 + (1 : Int)))) (fun t71 => kxr t71) J' list2 t6 t3 t4 t6 e7.Hears (e7.Hears.length : Int) x e7) n ((0 : Int)))))))
def impl_RadiosOk_L4 {R : Type} (n : Nat) (kx0 : Option R) (kxr : Bool → Option R) (J : Int → Option R) (list2 : List SRadio) (t3 : List SRadio) (t4 : Int) (t5 : Int) : Option R :=
  (bif (decide (t5 < t4)) then impl_RadiosOk_k1 n kx0 kxr J list2 t3 t4 t5 else kx0)
def impl_RadiosOk (n : Nat) (list0 : List SRadio) : Option Bool :=
  (impl_in n (list0.length : Int) (1 : Int) (24 : Int)).bind fun r1 => (bif (!r1) then some (false) else loopN (fun (x : Int) J' => impl_RadiosOk_L4 n (some (true)) (fun t75 => some (t75)) J' list0 list0 (list0.length : Int) x) n ((0 : Int)))
def impl_Settle_1 (n : Nat) (c0 : Int) : Option Bool :=
  some ((decide (c0 < (0 : Int))))
def slices_IndexFunc_int_int__impl_Settle_1_L2 {R : Type} (n : Nat) (kx0 : Option R) (kxr : Int → Option R) (J : Int → Option R) (s1 : List Int) (t2 : Int) (t3 : Int) : Option R :=
  (bif (decide (t3 < t2)) then ix t3 s1.length ((impl_Settle_1 n (s1.getD t3.toNat (0 : Int))).bind fun r7 => (bif r7 then kxr t3 else J (w64 (t3 + (1 : Int))))) else kx0)
def slices_IndexFunc_int_int__impl_Settle_1 (n : Nat) (s0 : List Int) : Option Int :=
  loopN (fun (x : Int) J' => slices_IndexFunc_int_int__impl_Settle_1_L2 n (some ((-1 : Int))) (fun t9 => some (t9)) J' s0 (s0.length : Int) x) n ((0 : Int))
def slices_ContainsFunc_int_int__impl_Settle_1 (n : Nat) (s0 : List Int) : Option Bool :=
  (slices_IndexFunc_int_int__impl_Settle_1 n s0).bind fun r1 => some ((decide (r1 ≥ (0 : Int))))
def impl_own_impl_Radio (n : Nat) (l0 : List SRadio) : Option (List SRadio) :=
  chk (decide ((0 : Int) ≤ (l0.length : Int))) (chk (decide ((l0.length : Int) ≤ 9223372036854775807 ∧ (l0.length : Int) * (40 : Int) ≤ 281474976710656)) (chk (decide (l0.length * 40 ≤ 140737488355328)) (some (l0))))
def impl_Clashes_1 (n : Nat) (h0 : Int) (a1 : List SRadio) (a2 : SRadio) : Option Bool :=
  ix h0 a1.length ((bd (a1.getD h0.toNat dSRadio) fun (e1 : SRadio) => some ((decide (e1.Slot = a2.Slot)))))
def slices_IndexFunc_int_int__impl_Clashes_1_L2 {R : Type} (n : Nat) (kx0 : Option R) (kxr : Int → Option R) (J : Int → Option R) (s1 : List Int) (f2 : List SRadio) (laws_FnKept : SRadio) (t4 : Int) (t5 : Int) : Option R :=
  (bif (decide (t5 < t4)) then ix t5 s1.length ((impl_Clashes_1 n (s1.getD t5.toNat (0 : Int)) f2 laws_FnKept).bind fun r9 => (bif r9 then kxr t5 else J (w64 (t5 + (1 : Int))))) else kx0)
def slices_IndexFunc_int_int__impl_Clashes_1 (n : Nat) (s0 : List Int) (f1c0 : List SRadio) (f1c1 : SRadio) : Option Int :=
  loopN (fun (x : Int) J' => slices_IndexFunc_int_int__impl_Clashes_1_L2 n (some ((-1 : Int))) (fun t11 => some (t11)) J' s0 f1c0 f1c1 (s0.length : Int) x) n ((0 : Int))
def slices_ContainsFunc_int_int__impl_Clashes_1 (n : Nat) (s0 : List Int) (f1c0 : List SRadio) (f1c1 : SRadio) : Option Bool :=
  (slices_IndexFunc_int_int__impl_Clashes_1 n s0 f1c0 f1c1).bind fun r1 => some ((decide (r1 ≥ (0 : Int))))
def impl_Clashes_k0 {R : Type} (n : Nat) (kx0 : List Int → Option R) (J : Int → List Int → Option R) (t2 : List SRadio) (t3 : Int) (t7 : Int) (list5 : List SRadio) (out8 : List Int) : Option R :=
  ix t7 t2.length ((bd (t2.getD t7.toNat dSRadio) fun (e9 : SRadio) => (slices_ContainsFunc_int_int__impl_Clashes_1 n e9.Hears list5 e9).bind fun r10 => (bif r10 then chk (decide ((out8 ++ [t7]).length * 8 ≤ 140737488355328)) (J (w64 (t7 + (1 : Int))) (out8 ++ [t7])) else J (w64 (t7 + (1 : Int))) out8)))
def impl_Clashes_L5 {R : Type} (n : Nat) (kx0 : List Int → Option R) (J : Int → List Int → Option R) (t2 : List SRadio) (t3 : Int) (t4 : Int) (list5 : List SRadio) (out6 : List Int) : Option R :=
  (bif (decide (t4 < t3)) then impl_Clashes_k0 n kx0 J t2 t3 t4 list5 out6 else kx0 out6)
def impl_Clashes (n : Nat) (list0 : List SRadio) : Option (List Int) :=
  (impl_RadiosOk n list0).bind fun r1 => (bif (!r1) then some ([]) else loopN (fun (x : Int × List Int) J' => impl_Clashes_L5 n (fun out19 => (impl_own_int_f34 n out19).bind fun r20 => some (r20)) (fun t21 out22 => J' (t21, out22)) list0 (list0.length : Int) x.1 list0 x.2) n ((0 : Int), []))
def impl_Choose_1 (n : Nat) (h0 : Int) (a1 : List SRadio) (a2 : Int) : Option Bool :=
  ix h0 a1.length ((bd (a1.getD h0.toNat dSRadio) fun (e1 : SRadio) => some ((decide (e1.Slot = a2)))))
def slices_IndexFunc_int_int__impl_Choose_1_L2 {R : Type} (n : Nat) (kx0 : Option R) (kxr : Int → Option R) (J : Int → Option R) (s1 : List Int) (f2 : List SRadio) (laws_FnKept : Int) (t4 : Int) (t5 : Int) : Option R :=
  (bif (decide (t5 < t4)) then ix t5 s1.length ((impl_Choose_1 n (s1.getD t5.toNat (0 : Int)) f2 laws_FnKept).bind fun r9 => (bif r9 then kxr t5 else J (w64 (t5 + (1 : Int))))) else kx0)
def slices_IndexFunc_int_int__impl_Choose_1 (n : Nat) (s0 : List Int) (f1c0 : List SRadio) (f1c1 : Int) : Option Int :=
  loopN (fun (x : Int) J' => slices_IndexFunc_int_int__impl_Choose_1_L2 n (some ((-1 : Int))) (fun t11 => some (t11)) J' s0 f1c0 f1c1 (s0.length : Int) x) n ((0 : Int))
def slices_ContainsFunc_int_int__impl_Choose_1 (n : Nat) (s0 : List Int) (f1c0 : List SRadio) (f1c1 : Int) : Option Bool :=
  (slices_IndexFunc_int_int__impl_Choose_1 n s0 f1c0 f1c1).bind fun r1 => some ((decide (r1 ≥ (0 : Int))))
def impl_Choose_k0 {R : Type} (n : Nat) (kx0 : List Int → Option R) (J : Int → List Int → Option R) (at5 : Int) (coin6 : Int) (t10 : Int) (list8 : List SRadio) (free11 : List Int) : Option R :=
  ix at5 list8.length ((bd (list8.getD at5.toNat dSRadio) fun (e12 : SRadio) => (slices_ContainsFunc_int_int__impl_Choose_1 n e12.Hears list8 t10).bind fun r13 => (bif (!r13) then chk (decide ((free11 ++ [t10]).length * 8 ≤ 140737488355328)) (J (w64 (t10 + (1 : Int))) (free11 ++ [t10])) else J (w64 (t10 + (1 : Int))) free11)))
def impl_Choose_L5 {R : Type} (n : Nat) (kx0 : List Int → Option R) (J : Int → List Int → Option R) (at5 : Int) (coin6 : Int) (t7 : Int) (list8 : List SRadio) (free9 : List Int) : Option R :=
  (bif (decide (t7 < (20 : Int))) then impl_Choose_k0 n kx0 J at5 coin6 t7 list8 free9 else kx0 free9)
def impl_Choose_k1 (n : Nat)  (at1 : Int) (coin2 : Int) (list0 : List SRadio) : Option (Int × Bool) :=
  loopN (fun (x : Int × List Int) J' => impl_Choose_L5 n (fun free18 => (bif (decide ((free18.length : Int) = (0 : Int))) then ix at1 list0.length ((bd (list0.getD at1.toNat dSRadio) fun (e19 : SRadio) => some (e19.Slot, false))) else (bif decide ((free18.length : Int) = 0) then none else (bd (Int.tmod coin2 (free18.length : Int)) fun (v22 : Int) => ix v22 free18.length (chk (decide (v22.toNat < free18.length)) (some ((free18.getD v22.toNat (0 : Int)), true))))))) (fun t23 free24 => J' (t23, free24)) at1 coin2 x.1 list0 x.2) n ((0 : Int), [])
def impl_Choose (n : Nat) (list0 : List SRadio) (at1 : Int) (coin2 : Int) : Option (Int × Bool) :=
  (impl_RadiosOk n list0).bind fun r1 => (bif (!r1) then some ((-1 : Int), false) else (bd (w64 ((list0.length : Int) - (1 : Int))) fun (v2 : Int) => (impl_in n at1 (0 : Int) v2).bind fun r3 => (bif (!r3) then some ((-1 : Int), false) else (bif (decide (coin2 < (0 : Int))) then some ((-1 : Int), false) else impl_Choose_k1 n  at1 coin2 list0))))
def impl_Settle_k0 {R : Type} (n : Nat) (kx0 : (List SRadio) × Nat → Option R) (J : Int → (List SRadio) × Nat → Option R) (coins5 : List Int) (t6 : Int) (t9 : Int) (l10 : Nat) (l11 : List SRadio) : Option R :=
  ix t9 l11.length (chk (decide (t9.toNat < l11.length)) ((bif (decide (t9.toNat < l10)) then chk (decide (t9.toNat < l11.length)) ((impl_own_int_f34 n ((l11.getD t9.toNat dSRadio).Hears)).bind fun r12 => ix t9 l11.length (chk (decide (t9.toNat < l11.length)) ((bd (l11.getD t9.toNat dSRadio) fun (e13 : SRadio) => (bif (decide (t9.toNat = l10)) then (bd (l11.set t9.toNat (⟨e13.Id, e13.Slot, r12⟩ : SRadio)) fun (l14 : List SRadio) => J (w64 (t9 + (1 : Int))) (l14, (l10 + 1))) else (bd (l11.set t9.toNat (⟨e13.Id, e13.Slot, r12⟩ : SRadio)) fun (l15 : List SRadio) => J (w64 (t9 + (1 : Int))) (l15, l10))))))) else (impl_own_int_f34 n ((l11.getD t9.toNat dSRadio).Hears)).bind fun r16 => ix t9 l11.length (chk (decide (t9.toNat < l11.length)) ((bd (l11.getD t9.toNat dSRadio) fun (e17 : SRadio) => (bif (decide (t9.toNat = l10)) then (bd (l11.set t9.toNat (⟨e17.Id, e17.Slot, r16⟩ : SRadio)) fun (l18 : List SRadio) => J (w64 (t9 + (1 : Int))) (l18, (l10 + 1))) else (bd (l11.set t9.toNat (⟨e17.Id, e17.Slot, r16⟩ : SRadio)) fun (l19 : List SRadio) => J (w64 (t9 + (1 : Int))) (l19, l10)))))))))
def impl_Settle_L5 {R : Type} (n : Nat) (kx0 : (List SRadio) × Nat → Option R) (J : Int → (List SRadio) × Nat → Option R) (coins5 : List Int) (t6 : Int) (t7 : Int) (l8 : (List SRadio) × Nat) : Option R :=
  (bif (decide (t7 < t6)) then impl_Settle_k0 n kx0 J coins5 t6 t7 l8.2 l8.1 else kx0 (l8.1, l8.2))
def impl_Settle_k1 {R : Type} (n : Nat) (kxr : Int → Bool → (List SRadio) × Nat → Option R) (J : Int → (List SRadio) × Nat → Option R) (coins21 : List Int) (used39 : Int) (s40 : Int) (l41 : Nat) (l42 : List SRadio) (t43 : List Int) : Option R :=
  ix (0 : Int) t43.length (chk (decide (0 < t43.length)) (ix (t43.getD 0 (0 : Int)) l42.length (chk (decide ((t43.getD 0 (0 : Int)).toNat < l42.length)) ((bd (l42.getD ((t43.getD 0 (0 : Int)).toNat) dSRadio) fun (e44 : SRadio) => (bd (l42.set ((t43.getD 0 (0 : Int)).toNat) (⟨e44.Id, s40, e44.Hears⟩ : SRadio)) fun (l45 : List SRadio) => (bd (w64 (used39 + (1 : Int))) fun (v46 : Int) => J v46 (l45, l41))))))))
def impl_Settle_k2 {R : Type} (n : Nat) (kxr : Int → Bool → (List SRadio) × Nat → Option R) (J : Int → (List SRadio) × Nat → Option R) (coins21 : List Int) (used34 : Int) (l35 : Nat) (l36 : List SRadio) (t37 : List Int) : Option R :=
  ix (0 : Int) t37.length (chk (decide (0 < t37.length)) (ix used34 coins21.length ((impl_Choose n l36 (t37.getD 0 (0 : Int)) (coins21.getD used34.toNat (0 : Int))).bind fun r38 => (bif (!r38.2) then kxr used34 false (l36, l35) else impl_Settle_k1 n kxr J coins21 used34 r38.1 l35 l36 t37))))
def impl_Settle_L10 {R : Type} (n : Nat) (kxr : Int → Bool → (List SRadio) × Nat → Option R) (J : Int → (List SRadio) × Nat → Option R) (coins21 : List Int) (used22 : Int) (l23 : (List SRadio) × Nat) : Option R :=
  (impl_Clashes n l23.1).bind fun r24 => (bif (decide ((r24.length : Int) = (0 : Int))) then kxr used22 (decide ((r24.length : Int) = (0 : Int))) (l23.1, l23.2) else (bif (decide (used22 = (coins21.length : Int))) then kxr used22 (decide ((r24.length : Int) = (0 : Int))) (l23.1, l23.2) else impl_Settle_k2 n kxr J coins21 used22 l23.2 l23.1 r24))
def impl_Settle_k3 (n : Nat)  (list0 : List SRadio) (coins1 : List Int) : Option (List SRadio × Int × Bool) :=
  (impl_own_impl_Radio n list0).bind fun r4 => loopN (fun (x : Int × ((List SRadio) × Nat)) J' => impl_Settle_L5 n (fun l20 => loopN (fun (x : Int × ((List SRadio) × Nat)) J' => impl_Settle_L10 n (fun t51 t52 t53 => chk (decide (t53.1.length ≤ t53.2)) (some (t53.1, t51, t52))) (fun used54 l55 => J' (used54, l55)) coins1 x.1 x.2) n ((0 : Int), (l20.1, l20.2))) (fun t56 l57 => J' (t56, l57)) coins1 (r4.length : Int) x.1 x.2) n ((0 : Int), (r4, 0))
def impl_Settle (n : Nat) (list0 : List SRadio) (coins1 : List Int) : Option (List SRadio × Int × Bool) :=
  (impl_RadiosOk n list0).bind fun r1 => (bif (!r1) then some ([], (0 : Int), false) else (bif (decide ((coins1.length : Int) > (200 : Int))) then some ([], (0 : Int), false) else (slices_ContainsFunc_int_int__impl_Settle_1 n coins1).bind fun r2 => (bif r2 then some ([], (0 : Int), false) else impl_Settle_k3 n  list0 coins1)))
def laws_FnKept_k0 {R : Type} (n : Nat) (kx2 : Int → Option R) (J : Int → Int → Option R) (code11 : List Int) (sum18 : Int) (s13 : Int) (t19 : Int) (y15 : Int) (c16 : List (List Int)) (ops17 : List SYardOp) : Option R :=
  (bd (w64 (sum18 * (31 : Int))) fun (v20 : Int) => ix s13 c16.length (chk (decide (s13.toNat < c16.length)) (chk (decide (s13.toNat < c16.length)) (ix t19 ((c16.getD s13.toNat []).length) (chk (decide (s13.toNat < c16.length)) (chk (decide (t19.toNat < (c16.getD s13.toNat []).length)) ((bd (w64 (v20 + ((c16.getD s13.toNat []).getD t19.toNat (0 : Int)))) fun (v21 : Int) => J v21 (w64 (t19 + (1 : Int)))))))))))
def laws_FnKept_L9 {R : Type} (n : Nat) (kx2 : Int → Option R) (J : Int → Int → Option R) (code11 : List Int) (sum12 : Int) (s13 : Int) (t14 : Int) (y15 : Int) (c16 : List (List Int)) (ops17 : List SYardOp) : Option R :=
  ix s13 c16.length (chk (decide (s13.toNat < c16.length)) (chk (decide (s13.toNat < c16.length)) ((bif (decide (t14 < ((c16.getD s13.toNat []).length : Int))) then laws_FnKept_k0 n kx2 J code11 sum12 s13 t14 y15 c16 ops17 else kx2 sum12))))
def laws_FnKept_L6 {R : Type} (n : Nat) (kx0 : Int → Option R) (J : Int → Int → Option R) (code3 : List Int) (sum4 : Int) (s5 : Int) (y6 : Int) (c7 : List (List Int)) (ops8 : List SYardOp) : Option R :=
  (bif (decide (s5 < (c7.length : Int))) then loopN (fun (x : Int × Int) J' => laws_FnKept_L9 n (fun sum25 => J sum25 (w64 (s5 + (1 : Int)))) (fun sum26 t27 => J' (sum26, t27)) code3 x.1 s5 x.2 y6 c7 ops8) n (sum4, (0 : Int)) else kx0 sum4)
def laws_FnKept_L16 {R : Type} (n : Nat) (kx4 : Int → Option R) (J : Int → Int → Option R) (sum31 : Int) (slots32 : Int) (i33 : Int) (y34 : Int) (c35 : List (List Int)) (ops36 : List SYardOp) (codes37 : List Int) (list38 : List SRadio) (coins39 : List Int) : Option R :=
  (bif (decide (i33 < (list38.length : Int))) then (bd (w64 (slots32 * (31 : Int))) fun (v44 : Int) => ix i33 list38.length (chk (decide (i33.toNat < list38.length)) ((bd (w64 (v44 + (list38.getD i33.toNat dSRadio).Slot)) fun (v45 : Int) => J v45 (w64 (i33 + (1 : Int))))))) else kx4 slots32)
def laws_FnKept_k1 {R : Type} (n : Nat) (kx8 : List (List Int) → Option R) (J : Int → List (List Int) → Option R) (sum60 : Int) (slots61 : Int) (s62 : Int) (t70 : Int) (y64 : Int) (c71 : List (List Int)) (ops66 : List SYardOp) (codes67 : List Int) (list68 : List SRadio) (out69 : List SRadio) : Option R :=
  ix s62 c71.length (chk (decide (s62.toNat < c71.length)) (ix s62 c71.length (chk (decide (s62.toNat < c71.length)) (chk (decide (s62.toNat < c71.length)) (ix t70 ((c71.getD s62.toNat []).length) (chk (decide (s62.toNat < c71.length)) (chk (decide (t70.toNat < (c71.getD s62.toNat []).length)) ((bd (w64 (((c71.getD s62.toNat []).getD t70.toNat (0 : Int)) + (0 : Int))) fun (v72 : Int) => chk (decide (s62.toNat < c71.length)) (ix t70 ((c71.getD s62.toNat []).length) (chk (decide (s62.toNat < c71.length)) (chk (decide (t70.toNat < (c71.getD s62.toNat []).length)) ((bd (c71.set s62.toNat ((c71.getD s62.toNat []).set t70.toNat v72)) fun (l73 : List (List Int)) => J (w64 (t70 - (1 : Int))) l73))))))))))))))
def laws_FnKept_L24 {R : Type} (n : Nat) (kx8 : List (List Int) → Option R) (J : Int → List (List Int) → Option R) (sum60 : Int) (slots61 : Int) (s62 : Int) (t63 : Int) (y64 : Int) (c65 : List (List Int)) (ops66 : List SYardOp) (codes67 : List Int) (list68 : List SRadio) (out69 : List SRadio) : Option R :=
  (bif (decide (t63 ≥ (0 : Int))) then laws_FnKept_k1 n kx8 J sum60 slots61 s62 t63 y64 c65 ops66 codes67 list68 out69 else kx8 c65)
def laws_FnKept_k2 {R : Type} (n : Nat) (kx6 : List (List Int) → Option R) (J : Int → List (List Int) → Option R) (sum48 : Int) (slots49 : Int) (s57 : Int) (y51 : Int) (c58 : List (List Int)) (ops53 : List SYardOp) (codes54 : List Int) (list55 : List SRadio) (out56 : List SRadio) : Option R :=
  ix s57 c58.length (chk (decide (s57.toNat < c58.length)) (chk (decide (s57.toNat < c58.length)) ((bd (w64 (((c58.getD s57.toNat []).length : Int) - (1 : Int))) fun (v59 : Int) => loopN (fun (x : Int × List (List Int)) J' => laws_FnKept_L24 n (fun c74 => J (w64 (s57 + (1 : Int))) c74) (fun t75 c76 => J' (t75, c76)) sum48 slots49 s57 x.1 y51 x.2 ops53 codes54 list55 out56) n (v59, c58)))))
def laws_FnKept_L21 {R : Type} (n : Nat) (kx6 : List (List Int) → Option R) (J : Int → List (List Int) → Option R) (sum48 : Int) (slots49 : Int) (s50 : Int) (y51 : Int) (c52 : List (List Int)) (ops53 : List SYardOp) (codes54 : List Int) (list55 : List SRadio) (out56 : List SRadio) : Option R :=
  (bif (decide (s50 < (c52.length : Int))) then laws_FnKept_k2 n kx6 J sum48 slots49 s50 y51 c52 ops53 codes54 list55 out56 else kx6 c52)
def laws_FnKept_k3 {R : Type} (n : Nat) (kx12 : Int → Option R) (J : Int → Int → Option R) (sum91 : Int) (slots92 : Int) (again103 : Int) (back94 : Int) (s95 : Int) (t104 : Int) (y97 : Int) (c98 : List (List Int)) (ops99 : List SYardOp) (codes100 : List Int) (list101 : List SRadio) (out102 : List SRadio) : Option R :=
  (bd (w64 (again103 * (31 : Int))) fun (v105 : Int) => ix s95 c98.length (chk (decide (s95.toNat < c98.length)) (chk (decide (s95.toNat < c98.length)) (ix t104 ((c98.getD s95.toNat []).length) (chk (decide (s95.toNat < c98.length)) (chk (decide (t104.toNat < (c98.getD s95.toNat []).length)) ((bd (w64 (v105 + ((c98.getD s95.toNat []).getD t104.toNat (0 : Int)))) fun (v106 : Int) => J v106 (w64 (t104 + (1 : Int)))))))))))
def laws_FnKept_L32 {R : Type} (n : Nat) (kx12 : Int → Option R) (J : Int → Int → Option R) (sum91 : Int) (slots92 : Int) (again93 : Int) (back94 : Int) (s95 : Int) (t96 : Int) (y97 : Int) (c98 : List (List Int)) (ops99 : List SYardOp) (codes100 : List Int) (list101 : List SRadio) (out102 : List SRadio) : Option R :=
  ix s95 c98.length (chk (decide (s95.toNat < c98.length)) (chk (decide (s95.toNat < c98.length)) ((bif (decide (t96 < ((c98.getD s95.toNat []).length : Int))) then laws_FnKept_k3 n kx12 J sum91 slots92 again93 back94 s95 t96 y97 c98 ops99 codes100 list101 out102 else kx12 again93))))
def laws_FnKept_L29 {R : Type} (n : Nat) (kx10 : Int → Option R) (J : Int → Int → Option R) (sum78 : Int) (slots79 : Int) (again80 : Int) (back81 : Int) (s82 : Int) (y83 : Int) (c84 : List (List Int)) (ops85 : List SYardOp) (codes86 : List Int) (list87 : List SRadio) (out88 : List SRadio) : Option R :=
  (bif (decide (s82 < (c84.length : Int))) then loopN (fun (x : Int × Int) J' => laws_FnKept_L32 n (fun again110 => J again110 (w64 (s82 + (1 : Int)))) (fun again111 t112 => J' (again111, t112)) sum78 slots79 x.1 back81 s82 x.2 y83 c84 ops85 codes86 list87 out88) n (again80, (0 : Int)) else kx10 again80)
def laws_FnKept_L36 {R : Type} (n : Nat) (kx14 : Int → Option R) (J : Int → Int → Option R) (sum114 : Int) (slots115 : Int) (again116 : Int) (back117 : Int) (i118 : Int) (ops119 : List SYardOp) (codes120 : List Int) (list121 : List SRadio) (out122 : List SRadio) : Option R :=
  (bif (decide (i118 < (list121.length : Int))) then (bd (w64 (back117 * (31 : Int))) fun (v127 : Int) => ix i118 list121.length (chk (decide (i118.toNat < list121.length)) ((bd (w64 (v127 + (list121.getD i118.toNat dSRadio).Slot)) fun (v128 : Int) => J v128 (w64 (i118 + (1 : Int))))))) else kx14 back117)
def laws_FnKept_k4 (n : Nat)  (code0 : List Int) : Option Bool :=
  (spec_DrawYard n code0).bind fun r2 => loopN (fun (x : Int × Int) J' => laws_FnKept_L6 n (fun sum28 => (impl_RunYard n r2.1 r2.2).bind fun r29 => (spec_DrawQuiet n code0).bind fun r30 => loopN (fun (x : Int × Int) J' => laws_FnKept_L16 n (fun slots46 => (impl_Settle n r30.1 r30.2).bind fun r47 => loopN (fun (x : Int × List (List Int)) J' => laws_FnKept_L21 n (fun c77 => loopN (fun (x : Int × Int) J' => laws_FnKept_L29 n (fun again113 => loopN (fun (x : Int × Int) J' => laws_FnKept_L36 n (fun back129 => (bif (decide (sum28 = again113)) then (bif (decide (slots46 = back129)) then (bif (decide ((r29.2.1.length : Int) = (r2.2.length : Int))) then some ((decide ((r47.1.length : Int) = (r30.1.length : Int)))) else some (false)) else some (false)) else some (false))) (fun back131 i132 => J' (back131, i132)) sum28 slots46 again113 x.1 x.2 r2.2 r29.2.1 r30.1 r47.1) n ((0 : Int), (0 : Int))) (fun again133 s134 => J' (again133, s134)) sum28 slots46 x.1 (0 : Int) x.2 r2.1.High c77 r2.2 r29.2.1 r30.1 r47.1) n ((0 : Int), (0 : Int))) (fun s135 c136 => J' (s135, c136)) sum28 slots46 x.1 r2.1.High x.2 r2.2 r29.2.1 r30.1 r47.1) n ((0 : Int), r2.1.Stacks)) (fun slots137 i138 => J' (slots137, i138)) sum28 x.1 x.2 r2.1.High r2.1.Stacks r2.2 r29.2.1 r30.1 r30.2) n ((0 : Int), (0 : Int))) (fun sum139 s140 => J' (sum139, s140)) code0 x.1 x.2 r2.1.High r2.1.Stacks r2.2) n ((0 : Int), (0 : Int))
def laws_FnKept (n : Nat) (code0 : List Int) : Option Bool :=
  (laws_big n code0).bind fun r1 => (bif r1 then some (true) else laws_FnKept_k4 n  code0)
def rng (a b x : Int) : Prop := a ≤ x ∧ x ≤ b
def wfSYard (x : SYard) : Prop := rng (-9223372036854775808) 9223372036854775807 x.High ∧ (x.Stacks.length ≤ 9223372036854775807 ∧ ∀ y ∈ x.Stacks, (y.length ≤ 9223372036854775807 ∧ ∀ z ∈ y, rng (-9223372036854775808) 9223372036854775807 z))
def wfSYardOp (x : SYardOp) : Prop := rng (-9223372036854775808) 9223372036854775807 x.Kind ∧ rng (-9223372036854775808) 9223372036854775807 x.Box ∧ rng (-9223372036854775808) 9223372036854775807 x.Stack
def wfSl1Cur (x : Sl1Cur) : Prop := (x.b.length ≤ 9223372036854775807 ∧ ∀ y ∈ x.b, rng 0 255 y) ∧ rng (-9223372036854775808) 9223372036854775807 x.i ∧ rng (-9223372036854775808) 9223372036854775807 x.h
def wfSRadio (x : SRadio) : Prop := rng (-9223372036854775808) 9223372036854775807 x.Id ∧ rng (-9223372036854775808) 9223372036854775807 x.Slot ∧ (x.Hears.length ≤ 9223372036854775807 ∧ ∀ y ∈ x.Hears, rng (-9223372036854775808) 9223372036854775807 y)
end Go.Sm
end

section
set_option linter.unusedSimpArgs false
set_option linter.deprecated false
set_option linter.unusedSectionVars false
set_option linter.unusedVariables false
namespace Go.Sm
/-! ### Of the words that printed functions are made of -/
theorem w64_id {x : Int} (h1 : -9223372036854775808 ≤ x) (h2 : x ≤ 9223372036854775807) : w64 x = x := by
  show (let m := x % (2 ^ 64 : Int); if (true && decide ((2 : Int) ^ 63 ≤ m)) = true then m - 2 ^ 64 else m) = x
  simp only [Bool.true_and, decide_eq_true_eq]
  split <;> omega
theorem w64_rng (x : Int) : -9223372036854775808 ≤ w64 x ∧ w64 x ≤ 9223372036854775807 := by
  show -9223372036854775808 ≤ (let m := x % (2 ^ 64 : Int); if (true && decide ((2 : Int) ^ 63 ≤ m)) = true then m - 2 ^ 64 else m) ∧ (let m := x % (2 ^ 64 : Int); if (true && decide ((2 : Int) ^ 63 ≤ m)) = true then m - 2 ^ 64 else m) ≤ 9223372036854775807
  simp only [Bool.true_and, decide_eq_true_eq]
  split <;> omega
theorem chk_of {R : Type} {b : Bool} {x : Option R} (h : b = true) : chk b x = x := by rw [h]; rfl
theorem chk_true {R : Type} {x : Option R} : chk true x = x := rfl
theorem chk_dec {R : Type} {p : Prop} [Decidable p] {x : Option R} (h : p) : chk (decide p) x = x := chk_of (decide_eq_true h)
theorem ix_of {R : Type} {i : Int} {len : Nat} {x : Option R} (h0 : 0 ≤ i) (h1 : i < (len : Int)) : ix i len x = x := by
  unfold ix
  rw [decide_eq_true h0, decide_eq_true h1]
  rfl
theorem ix_nat {R : Type} {i len : Nat} {x : Option R} (h1 : i < len) : ix (i : Int) len x = x := ix_of (by omega) (by omega)
theorem bif_dec {α : Type} {p : Prop} [Decidable p] {x y : α} : (bif decide p then x else y) = if p then x else y := by
  by_cases h : p <;> simp [h]
theorem bif_not {α : Type} {b : Bool} {x y : α} : (bif !b then x else y) = bif b then y else x := by cases b <;> rfl
theorem bif_and {α : Type} {a b : Bool} {x y : α} : (bif a && b then x else y) = bif a then (bif b then x else y) else y := by cases a <;> rfl
theorem loopN_succ {X R : Type} (b : X → (X → Option R) → Option R) (m : Nat) (x : X) : loopN b (m + 1) x = b x (loopN b m) := rfl
/-- What holds of a loop: by what is left to go. -/
theorem loopN_ind {X R : Type} {b : X → (X → Option R) → Option R} (μ : X → Nat) (I : X → Prop) (Q : X → Option R → Prop)
    (h : ∀ x J, I x → (∀ y, I y → μ y < μ x → Q y (J y)) → Q x (b x J)) : ∀ n x, I x → μ x < n → Q x (loopN b n x)
  | 0, x, hi, hm => absurd hm (Nat.not_lt_zero _)
  | n + 1, x, hi, hm => h x (loopN b n) hi fun y hy hl => loopN_ind μ I Q h n y hy (by omega)
theorem getD_eq {α : Type} {l : List α} {i : Nat} {d : α} (h : i < l.length) : l.getD i d = l[i] := by
  simp [List.getD, h]
theorem w64_succ {k : Nat} (h : k < 9223372036854775807) : w64 ((k : Int) + 1) = ((k + 1 : Nat) : Int) := by
  rw [w64_id (by omega) (by omega)]
  rfl
theorem take_succ_getD {α : Type} {l : List α} {i : Nat} {d : α} (h : i < l.length) : l.take (i + 1) = l.take i ++ [l.getD i d] := by
  rw [List.take_succ, getD_eq h, List.getElem?_eq_getElem h]
  rfl
theorem drop_getD {α : Type} {l : List α} {i : Nat} {d : α} (h : i < l.length) : l.drop i = l.getD i d :: l.drop (i + 1) := by
  rw [getD_eq h]
  exact List.drop_eq_getElem_cons h
theorem bd_eq {α β : Type} (e : α) (f : α → β) : bd e f = f e := rfl
theorem bd_set {α β : Type} {Q : β → Prop} {F : List α → β} {p : List α} {i : Nat} {x : α} (h : ∀ l : List α, l.length = p.length → Q (F l)) : Q (bd (p.set i x) F) := h _ (by simp)
theorem bd_is {α β : Type} {Q : β → Prop} {F : α → β} {e : α} (h : ∀ v : α, v = e → Q (F v)) : Q (bd e F) := h _ rfl
theorem bd_val {α β : Type} {Q : β → Prop} {F : α → β} {e : α} (h : ∀ v : α, Q (F v)) : Q (bd e F) := h _
theorem chk_q {R : Type} {Q : Option R → Prop} {b : Bool} {x : Option R} (h : b = true) (hx : Q x) : Q (chk b x) := by rw [chk_of h]; exact hx
theorem ix_q {R : Type} {Q : Option R → Prop} {i : Int} {len : Nat} {x : Option R} (h0 : 0 ≤ i) (h1 : i < (len : Int)) (hx : Q x) : Q (ix i len x) := by rw [ix_of h0 h1]; exact hx
theorem bd_upd {α β : Type} {Q : β → Prop} {F : List α → β} {p : List α} {i : Nat} {x d : α} (hi : i < p.length) (h : ∀ l : List α, l.length = p.length → l.getD i d = x → (∀ j, j ≠ i → l.getD j d = p.getD j d) → Q (F l)) : Q (bd (p.set i x) F) :=
  h _ (by simp) (by simp [List.getD, hi]) (fun j hj => by simp [List.getD, List.getElem?_set, Ne.symm hj])
/-- A list written from the front. -/
theorem set_take {α : Type} {a : List α} {d : α} {m k : Nat} (h : k < a.length) (hm : m = a.length := by rfl) : (a.take k ++ (List.replicate m d).drop k).set k (a.getD k d) = a.take (k + 1) ++ (List.replicate m d).drop (k + 1) := by
  subst hm
  have h1 : (a.take k).length = k := by simp; omega
  rw [List.set_append_right _ _ (by omega), h1, Nat.sub_self, take_succ_getD h, List.append_assoc]
  congr 1
  rw [List.drop_eq_getElem_cons (by simp; exact h)]
  rfl
/-! ### Loops over 0 .. len, by what is left -/
/-- Steps k, k+1, .. told one after the other; J: what comes behind a step. -/
def forK {S R : Type} (step : Nat → S → (S → Option R) → Option R) (fin : S → Option R) : Nat → Nat → S → Option R
  | 0, _, s => fin s
  | m + 1, k, s => step k s fun s' => forK step fin m (k + 1) s'
theorem loop_forK {X S R : Type} {b : X → (X → Option R) → Option R} {enc : Nat → S → X} {len : Nat} {step : Nat → S → (S → Option R) → Option R} {fin : S → Option R} (I : Nat → S → Prop)
    (hstep : ∀ k s J J', k < len → I k s → (∀ s', I (k + 1) s' → J (enc (k + 1) s') = J' s') → b (enc k s) J = step k s J') (hfin : ∀ s J, I len s → b (enc len s) J = fin s) :
    ∀ m k s n, k + m = len → m < n → I k s → loopN b n (enc k s) = forK step fin m k s
  | 0, k, s, 0, _, h, _ => absurd h (Nat.lt_irrefl _)
  | 0, k, s, n + 1, hk, _, hi => by
    have hk : k = len := by omega
    subst hk
    exact hfin s _ hi
  | m + 1, k, s, 0, _, h, _ => absurd h (Nat.not_lt_zero _)
  | m + 1, k, s, n + 1, hk, hn, hi => by
    show b (enc k s) (loopN b n) = step k s fun s' => forK step fin m (k + 1) s'
    exact hstep k s _ _ (by omega) hi fun s' hi' => loop_forK I hstep hfin m (k + 1) s' n (by omega) (by omega) hi'
/-- The first k at which f answers; at none: z. -/
def scanK {R : Type} (f : Nat → Option (Option R)) (z : Option R) : Nat → Nat → Option R
  | 0, _ => z
  | m + 1, k => match f k with
    | some r => r
    | none => scanK f z m (k + 1)
theorem loop_scan {X R : Type} {b : X → (X → Option R) → Option R} {enc : Nat → X} {len : Nat} {f : Nat → Option (Option R)} {z : Option R}
    (hstep : ∀ k J, k < len → b (enc k) J = match f k with | some r => r | none => J (enc (k + 1))) (hfin : ∀ J, b (enc len) J = z) :
    ∀ m k n, k + m = len → m < n → loopN b n (enc k) = scanK f z m k
  | 0, k, 0, _, h => absurd h (Nat.lt_irrefl _)
  | 0, k, n + 1, hk, _ => by
    have hk : k = len := by omega
    subst hk
    exact hfin _
  | m + 1, k, 0, _, h => absurd h (Nat.not_lt_zero _)
  | m + 1, k, n + 1, hk, hn => by
    show b (enc k) (loopN b n) = _
    rw [hstep k _ (by omega)]
    unfold scanK
    cases f k with
    | some r => rfl
    | none => exact loop_scan hstep hfin m (k + 1) n (by omega) (by omega)
/-- Is p so of all of k, .. k + m - 1? -/
theorem scan_all {R : Type} {p : Nat → Bool} {r z : Option R} : ∀ m k, scanK (fun k => bif p k then none else some r) z m k = bif (List.range' k m).all p then z else r
  | 0, k => rfl
  | m + 1, k => by
    rw [scanK, List.range'_succ, List.all_cons]
    cases h : p k with
    | true => simp only [cond_true, Bool.true_and]; exact scan_all m (k + 1)
    | false => rfl
theorem scan_any {R : Type} {p : Nat → Bool} {r z : Option R} : ∀ m k, scanK (fun k => bif p k then some r else none) z m k = bif (List.range' k m).any p then r else z
  | 0, k => rfl
  | m + 1, k => by
    rw [scanK, List.range'_succ, List.any_cons]
    cases h : p k with
    | false => simp only [cond_false, Bool.false_or]; exact scan_any m (k + 1)
    | true => rfl
theorem mgetI_mputI {β : Type} (l : List (Int × β)) (n m : Int) (v : β) : mgetI (mputI l n v) m = if m = n then some v else mgetI l m := by
  unfold mgetI mputI
  induction l with
  | nil =>
    by_cases h : m = n <;> simp [h]
  | cons a l ih =>
    rw [List.findIdx?_cons]
    by_cases h : n = a.1
    · simp only [h, decide_true, if_true, Option.elim_some, List.set_cons_zero, List.find?_cons]
      by_cases h2 : m = a.1
      · simp [h2]
      · simp [h2]
    · simp only [h, decide_false, Bool.false_eq_true, if_false]
      cases hf : l.findIdx? (fun e => decide (n = e.1)) with
      | none =>
        rw [hf] at ih
        simp only [Option.elim_none] at ih
        simp only [Option.map_none, Option.elim_none, List.cons_append, List.find?_cons]
        by_cases h2 : m = a.1
        · have : m ≠ n := fun e => h (e ▸ h2)
          simp [h2]
          simp [h2] at this
          simp [this]
        · simp only [h2, decide_false]
          exact ih
      | some i =>
        rw [hf] at ih
        simp only [Option.elim_some] at ih
        simp only [Option.map_some, Option.elim_some, List.set_cons_succ, List.find?_cons]
        by_cases h2 : m = a.1
        · have : m ≠ n := fun e => h (e ▸ h2)
          simp [h2]
          simp [h2] at this
          simp [this]
        · simp only [h2, decide_false]
          exact ih
theorem mgetI_nil {β : Type} (m : Int) : mgetI ([] : List (Int × β)) m = none := rfl
/-! ### Chains of tests -/
theorem bif_and' {α : Type} {a b : Bool} {x y : α} : (bif a then (bif b then x else y) else y) = bif a && b then x else y := by cases a <;> rfl
theorem bif_or' {α : Type} {a b : Bool} {x y : α} : (bif a then y else (bif b then x else y)) = bif !a && b then x else y := by cases a <;> rfl
theorem bif_and2 {α : Type} {a b : Bool} {x y : α} : (bif a then (bif b then y else x) else y) = bif a && !b then x else y := by cases a <;> cases b <;> rfl
theorem bif_or2 {α : Type} {a b : Bool} {x y : α} : (bif a then y else (bif b then y else x)) = bif !a && !b then x else y := by cases a <;> cases b <;> rfl
theorem bif_some {α β : Type} {a : Bool} {x y : α} {f : α → Option β} : (bif a then some x else some y).bind f = bif a then f x else f y := by cases a <;> rfl
theorem bif_tf {a : Bool} : (bif a then some true else some false) = some a := by cases a <;> rfl
theorem bif_ft {a : Bool} : (bif a then some false else some true) = some (!a) := by cases a <;> rfl
theorem bif_sf {a b : Bool} : (bif a then some b else some false) = some (a && b) := by cases a <;> rfl
theorem all_range_succ {p : Nat → Bool} {k : Nat} : (List.range (k + 1)).all p = ((List.range k).all p && p k) := by
  rw [List.range_succ, List.all_append]
  simp
theorem any_range_succ {p : Nat → Bool} {k : Nat} : (List.range (k + 1)).any p = ((List.range k).any p || p k) := by
  rw [List.range_succ, List.any_append]
  simp
theorem all_range_not {p : Nat → Bool} {k m : Nat} (hk : k < m) (h : p k = false) : (List.range m).all p = false := by
  rw [Bool.eq_false_iff]
  intro e
  rw [List.all_eq_true] at e
  rw [e k (List.mem_range.2 hk)] at h
  cases h
theorem any_range_of {p : Nat → Bool} {k m : Nat} (hk : k < m) (h : p k = true) : (List.range m).any p = true := by
  rw [List.any_eq_true]
  exact ⟨k, List.mem_range.2 hk, h⟩
/-- A loop that looks at k = 0, 1, .. and leaves at the first that is not so. -/
theorem loop_all {R : Type} {b : Int → (Int → Option R) → Option R} {len : Nat} {p : Nat → Bool} {no yes : Option R} (hlen : len ≤ 9223372036854775807)
    (hstep : ∀ (k : Nat) (J : Int → Option R), k < len → (∀ j, j < k → p j = true) → b (k : Int) J = bif p k then J ((k + 1 : Nat) : Int) else no) (hfin : ∀ J, (∀ j, j < len → p j = true) → b (len : Int) J = yes) {n : Nat} (hn : len < n) :
    loopN b n (0 : Int) = bif (List.range len).all p then yes else no := by
  refine loopN_ind (fun x => len - x.toNat) (fun x => ∃ k : Nat, k ≤ len ∧ x = (k : Int) ∧ (List.range k).all p = true) (fun x r => r = bif (List.range len).all p then yes else no) ?_ n _ ⟨0, by omega, rfl, rfl⟩ (by simp; omega)
  rintro _ J ⟨k, hk, rfl, hb⟩ ih
  have hb' : ∀ j, j < k → p j = true := fun j hj => List.all_eq_true.1 hb j (List.mem_range.2 hj)
  by_cases h : k < len
  · rw [hstep k J h hb']
    cases hp : p k with
    | true => exact ih _ ⟨k + 1, h, rfl, by rw [all_range_succ, hb, hp]; rfl⟩ (by simp; omega)
    | false => rw [all_range_not h hp]; rfl
  · have : k = len := by omega
    subst this
    rw [hfin _ hb', hb]
    rfl
/-- The same, a state turned on the way (its invariant: I). -/
theorem loop_allS {S R : Type} {X : Type} {enc : Int → S → X} {b : X → (X → Option R) → Option R} {len : Nat} {p : Nat → Bool} {I : Nat → S → Prop} {no yes : Option R}
    (hstep : ∀ (k : Nat) (s : S) (J : X → Option R), k < len → I k s → (∀ j, j < k → p j = true) → ∃ s', (p k = true → I (k + 1) s') ∧ b (enc (k : Int) s) J = bif p k then J (enc ((k + 1 : Nat) : Int) s') else no) (hfin : ∀ s J, I len s → (∀ j, j < len → p j = true) → b (enc (len : Int) s) J = yes) {n : Nat} (hn : len < n) {s0 : S} (h0 : I 0 s0) :
    loopN b n (enc (0 : Int) s0) = bif (List.range len).all p then yes else no := by
  have key : ∀ m (k : Nat) (s : S) n, k + m = len → m < n → I k s → (List.range k).all p = true → loopN b n (enc (k : Int) s) = bif (List.range len).all p then yes else no := by
    intro m
    induction m with
    | zero =>
      intro k s n hk hn hi hb
      have hb' : ∀ j, j < k → p j = true := fun j hj => List.all_eq_true.1 hb j (List.mem_range.2 hj)
      have hk : k = len := by omega
      subst hk
      cases n with
      | zero => omega
      | succ n => rw [loopN_succ, hfin s _ hi hb', hb]; rfl
    | succ m ih =>
      intro k s n hk hn hi hb
      have hb' : ∀ j, j < k → p j = true := fun j hj => List.all_eq_true.1 hb j (List.mem_range.2 hj)
      cases n with
      | zero => omega
      | succ n =>
        rw [loopN_succ]
        obtain ⟨s', h1, h2⟩ := hstep k s (loopN b n) (by omega) hi hb'
        rw [h2]
        cases hp : p k with
        | true => exact ih (k + 1) s' n (by omega) (by omega) (h1 hp) (by rw [all_range_succ, hb, hp]; rfl)
        | false => rw [all_range_not (by omega : k < len) hp]; rfl
  exact key len 0 s0 n (by omega) hn h0 rfl
/-- A loop over 0 .. len that never leaves early; its state: I. -/
theorem loop_runS {S R : Type} {X : Type} {enc : Int → S → X} {b : X → (X → Option R) → Option R} {len : Nat} {I : Nat → S → Prop} {Q : Option R → Prop}
    (hstep : ∀ (k : Nat) (s : S) (J : X → Option R), k < len → I k s → ∃ s', I (k + 1) s' ∧ b (enc (k : Int) s) J = J (enc ((k + 1 : Nat) : Int) s')) (hfin : ∀ s J, I len s → Q (b (enc (len : Int) s) J)) {n : Nat} (hn : len < n) {s0 : S} (h0 : I 0 s0) :
    Q (loopN b n (enc (0 : Int) s0)) := by
  have key : ∀ m (k : Nat) (s : S) n, k + m = len → m < n → I k s → Q (loopN b n (enc (k : Int) s)) := by
    intro m
    induction m with
    | zero =>
      intro k s n hk hn hi
      have hk : k = len := by omega
      subst hk
      cases n with
      | zero => omega
      | succ n => rw [loopN_succ]; exact hfin s _ hi
    | succ m ih =>
      intro k s n hk hn hi
      cases n with
      | zero => omega
      | succ n =>
        rw [loopN_succ]
        obtain ⟨s', h1, h2⟩ := hstep k s (loopN b n) (by omega) hi
        rw [h2]
        exact ih (k + 1) s' n (by omega) (by omega) h1
  exact key len 0 s0 n (by omega) hn h0
/-! ### Sums over lists -/
def sumOf {α : Type} (f : α → Nat) : List α → Nat
  | [] => 0
  | a :: l => f a + sumOf f l
theorem sumOf_append {α : Type} (f : α → Nat) : ∀ a b : List α, sumOf f (a ++ b) = sumOf f a + sumOf f b
  | [], b => by simp [sumOf]
  | x :: a, b => by simp only [List.cons_append, sumOf, sumOf_append f a b]; omega
theorem sumOf_take_succ {α : Type} {f : α → Nat} {l : List α} {k : Nat} {d : α} (h : k < l.length) : sumOf f (l.take (k + 1)) = sumOf f (l.take k) + f (l.getD k d) := by
  rw [take_succ_getD (d := d) h, sumOf_append]
  simp [sumOf]
theorem sumOf_take_le {α : Type} (f : α → Nat) (l : List α) (k : Nat) : sumOf f (l.take k) ≤ sumOf f l := by
  have := sumOf_append f (l.take k) (l.drop k)
  rw [List.take_append_drop] at this
  omega
theorem sumOf_mem {α : Type} {f : α → Nat} {l : List α} {k : Nat} {d : α} (h : k < l.length) : f (l.getD k d) ≤ sumOf f l := by
  have h1 := sumOf_take_succ (f := f) (d := d) h
  have h2 := sumOf_take_le f l (k + 1)
  omega
theorem sumOf_lin {α : Type} {f g : α → Nat} {c s : Nat} (h : ∀ y, f y ≤ c * g y + s) : ∀ l : List α, sumOf f l ≤ c * sumOf g l + s * l.length
  | [] => by simp [sumOf]
  | a :: l => by
    have h1 := h a
    have h2 := sumOf_lin h l
    simp only [sumOf, List.length_cons, Nat.mul_add, Nat.mul_succ]
    omega
theorem sumOf_const {α : Type} (c : Nat) : ∀ l : List α, sumOf (fun _ => c) l = c * l.length
  | [] => by simp [sumOf]
  | a :: l => by simp only [sumOf, sumOf_const c l, List.length_cons, Nat.mul_succ]; omega
theorem getD_set {α : Type} {l : List α} {k : Nat} {x d : α} (h : k < l.length) : (l.set k x).getD k d = x := by simp [List.getD, h]
theorem getD_set_ne {α : Type} {l : List α} {k j : Nat} {x d : α} (h : j ≠ k) : (l.set k x).getD j d = l.getD j d := by simp [List.getD, List.getElem?_set, Ne.symm h]
theorem getD_mem {α : Type} {l : List α} {k : Nat} {d : α} (h : k < l.length) : l.getD k d ∈ l := by rw [getD_eq h]; exact List.getElem_mem h
theorem take_drop_set {α : Type} {a : List α} {d : α} {m k : Nat} {x : α} (h : k < a.length) (hm : m = a.length) (hx : x = a.getD k d) : (a.take k ++ (List.replicate m d).drop k).set k x = a.take (k + 1) ++ (List.replicate m d).drop (k + 1) := by
  subst hx
  exact set_take h hm
/-! ### The first that is so -/
def idxOf (p : Nat → Bool) (m : Nat) : Int := match (List.range m).find? p with
  | some k => (k : Int)
  | none => -1
theorem find_range_none {p : Nat → Bool} {m : Nat} (h : ∀ j, j < m → p j = false) : (List.range m).find? p = none := by
  rw [List.find?_eq_none]
  intro x hx
  rw [h x (List.mem_range.1 hx)]
  simp
theorem find_range_some {p : Nat → Bool} {m k : Nat} (hk : k < m) (hp : p k = true) (h : ∀ j, j < k → p j = false) : (List.range m).find? p = some k := by
  have e : m = k + (m - k) := by omega
  rw [e, List.range_add, List.find?_append, find_range_none h, Option.none_or]
  obtain ⟨r, hr⟩ : ∃ r, m - k = r + 1 := ⟨m - k - 1, by omega⟩
  rw [hr, List.range_succ_eq_map]
  simp [hp]
theorem idxOf_ge (p : Nat → Bool) (m : Nat) : decide (idxOf p m ≥ 0) = (List.range m).any p := by
  unfold idxOf
  cases h : (List.range m).find? p with
  | none =>
    rw [List.find?_eq_none] at h
    rw [show (List.range m).any p = false from by rw [List.any_eq_false]; exact h]
    rfl
  | some k =>
    have h1 := List.find?_some h
    rw [show (List.range m).any p = true from List.any_eq_true.2 ⟨k, List.mem_of_find?_eq_some h, h1⟩]
    exact decide_eq_true (by show (0 : Int) ≤ (k : Int); omega)
theorem idxOf_lt (p : Nat → Bool) (m : Nat) : decide (idxOf p m < 0) = !(List.range m).any p := by
  rw [← idxOf_ge]
  by_cases h : idxOf p m < 0
  · rw [decide_eq_true h, decide_eq_false (by omega)]; rfl
  · rw [decide_eq_false h, decide_eq_true (by omega)]; rfl
theorem find_range (p : Nat → Bool) : ∀ m, ((List.range m).find? p = none ∧ ∀ j, j < m → p j = false) ∨ ∃ k, (List.range m).find? p = some k ∧ k < m ∧ p k = true ∧ ∀ j, j < k → p j = false
  | 0 => .inl ⟨rfl, fun j hj => absurd hj (Nat.not_lt_zero _)⟩
  | m + 1 => by
    rcases find_range p m with ⟨h1, h2⟩ | ⟨k, h1, h2, h3, h4⟩
    · cases hp : p m with
      | true => exact .inr ⟨m, find_range_some (by omega) hp h2, by omega, hp, h2⟩
      | false =>
        have : ∀ j, j < m + 1 → p j = false := fun j hj => by
          by_cases e : j = m
          · rw [e]; exact hp
          · exact h2 j (by omega)
        exact .inl ⟨find_range_none this, this⟩
    · exact .inr ⟨k, find_range_some (by omega) h3 h4, by omega, h3, h4⟩
theorem idxOf_spec (p : Nat → Bool) (m : Nat) : (idxOf p m = -1 ∧ ∀ j, j < m → p j = false) ∨ ∃ k : Nat, idxOf p m = (k : Int) ∧ k < m ∧ p k = true ∧ ∀ j, j < k → p j = false := by
  unfold idxOf
  rcases find_range p m with ⟨h1, h2⟩ | ⟨k, h1, h2, h3, h4⟩
  · rw [h1]; exact .inl ⟨rfl, h2⟩
  · rw [h1]; exact .inr ⟨k, rfl, h2, h3, h4⟩
/-- A loop that looks at k = 0, 1, .. and leaves at the first that is so. -/
theorem loop_find {R : Type} {b : Int → (Int → Option R) → Option R} {len : Nat} {p : Nat → Bool} {yes : Nat → Option R} {no : Option R} (hlen : len ≤ 9223372036854775807)
    (hstep : ∀ (k : Nat) (J : Int → Option R), k < len → (∀ j, j < k → p j = false) → b (k : Int) J = bif p k then yes k else J ((k + 1 : Nat) : Int)) (hfin : ∀ J, (∀ j, j < len → p j = false) → b (len : Int) J = no) {n : Nat} (hn : len < n) :
    loopN b n (0 : Int) = match (List.range len).find? p with | some k => yes k | none => no := by
  refine loopN_ind (fun x => len - x.toNat) (fun x => ∃ k : Nat, k ≤ len ∧ x = (k : Int) ∧ ∀ j, j < k → p j = false) (fun x r => r = match (List.range len).find? p with | some k => yes k | none => no) ?_ n _ ⟨0, by omega, rfl, fun j hj => absurd hj (Nat.not_lt_zero _)⟩ (by simp; omega)
  rintro _ J ⟨k, hk, rfl, hb⟩ ih
  by_cases h : k < len
  · rw [hstep k J h hb]
    cases hp : p k with
    | false => exact ih _ ⟨k + 1, h, rfl, fun j hj => by
        by_cases e : j = k
        · rw [e]; exact hp
        · exact hb j (by omega)⟩ (by simp; omega)
    | true => rw [find_range_some h hp hb]; rfl
  · have : k = len := by omega
    subst this
    rw [hfin _ hb, find_range_none hb]
theorem loop_idx {b : Int → (Int → Option Int) → Option Int} {len : Nat} {p : Nat → Bool} (hlen : len ≤ 9223372036854775807)
    (hstep : ∀ (k : Nat) (J : Int → Option Int), k < len → (∀ j, j < k → p j = false) → b (k : Int) J = bif p k then some (k : Int) else J ((k + 1 : Nat) : Int)) (hfin : ∀ J, (∀ j, j < len → p j = false) → b (len : Int) J = some (-1)) {n : Nat} (hn : len < n) :
    loopN b n (0 : Int) = some (idxOf p len) := by
  rw [loop_find (yes := fun k => some (k : Int)) (no := some (-1)) hlen hstep hfin hn]
  unfold idxOf
  cases (List.range len).find? p <;> rfl
theorem byteAt_rng (s : ByteArray) (k : Nat) : 0 ≤ byteAt s k ∧ byteAt s k ≤ 255 := by
  unfold byteAt
  have := (s.data.getD k 0).toNat_lt
  omega
theorem range_any {α : Type} {l : List α} {d : α} {f : α → Bool} : (List.range l.length).any (fun k => f (l.getD k d)) = l.any f := by
  induction l with
  | nil => rfl
  | cons a l ih =>
    rw [List.length_cons, List.range_succ_eq_map, List.any_cons, List.any_map, List.any_cons, ← ih]
    rfl
theorem range_all {α : Type} {l : List α} {d : α} {f : α → Bool} : (List.range l.length).all (fun k => f (l.getD k d)) = l.all f := by
  induction l with
  | nil => rfl
  | cons a l ih =>
    rw [List.length_cons, List.range_succ_eq_map, List.all_cons, List.all_map, List.all_cons, ← ih]
    rfl
theorem all_congr_lt {p q : Nat → Bool} {m : Nat} (h : ∀ k, k < m → p k = q k) : (List.range m).all p = (List.range m).all q := by
  rw [Bool.eq_iff_iff, List.all_eq_true, List.all_eq_true]
  constructor
  · intro g x hx; rw [← h x (List.mem_range.1 hx)]; exact g x hx
  · intro g x hx; rw [h x (List.mem_range.1 hx)]; exact g x hx
theorem any_congr_lt {p q : Nat → Bool} {m : Nat} (h : ∀ k, k < m → p k = q k) : (List.range m).any p = (List.range m).any q := by
  rw [Bool.eq_iff_iff, List.any_eq_true, List.any_eq_true]
  constructor
  · rintro ⟨x, hx, g⟩; exact ⟨x, hx, by rw [← h x (List.mem_range.1 hx)]; exact g⟩
  · rintro ⟨x, hx, g⟩; exact ⟨x, hx, by rw [h x (List.mem_range.1 hx)]; exact g⟩
theorem guard_sz {w : Nat} {x : Option Bool} (h : w ≤ 1048576 → x = some true) : (bif decide ((if (w : Int) ≤ 1048576 then 1048576 - (w : Int) else -1) < 0) then some true else x) = some true := by
  by_cases c : (w : Int) ≤ 1048576
  · rw [if_pos c, decide_eq_false (by omega), cond_false]
    exact h (by omega)
  · rw [if_neg c]
    rfl
end Go.Sm
end

section
set_option linter.unusedSimpArgs false
set_option linter.deprecated false
set_option linter.unusedSectionVars false
set_option linter.unusedVariables false
set_option linter.unusedSimpArgs false
namespace Go.Sm
attribute [local irreducible] bd chk ix loopN
end Go.Sm
end

section
set_option linter.unusedSimpArgs false
set_option linter.deprecated false
set_option linter.unusedSectionVars false
set_option linter.unusedVariables false
set_option linter.unusedSimpArgs false
namespace Go.Sm
attribute [local irreducible] bd chk ix loopN
/-! ### Weights -/
def w_LInt (a : List Int) : Nat := a.length
def w_LLInt (a : List (List Int)) : Nat := a.length + sumOf (fun y => w_LInt y) a
def w_SYard (a : SYard) : Nat := w_LLInt a.Stacks
def w_SRadio (a : SRadio) : Nat := w_LInt a.Hears
def w_LSRadio (a : List SRadio) : Nat := a.length + sumOf (fun y => w_SRadio y) a
theorem in_impl (n : Nat) (x a b : Int) : impl_in n x a b = some (decide (a ≤ x ∧ x ≤ b)) := by
  unfold impl_in
  by_cases h0 : a ≤ x <;> by_cases h1 : x ≤ b <;> simp [h0, h1]
/-! ### Names -/
def charOk (c : Int) : Bool := decide (97 ≤ c ∧ c ≤ 122) || (decide (65 ≤ c ∧ c ≤ 90) || (decide (48 ≤ c ∧ c ≤ 57) || decide (c = 45)))
def nameB (s : ByteArray) : Bool := decide (1 ≤ (s.size : Int) ∧ (s.size : Int) ≤ 20) && (List.range s.size).all fun k => charOk (byteAt s k)
abbrev stk (y : SYard) (s : Nat) : List Int := y.Stacks.getD s []
def before (y : SYard) (s t : Nat) : List Int := (y.Stacks.take s).flatten ++ (stk y s).take t
theorem before_zero (y : SYard) (s : Nat) : before y s 0 = (y.Stacks.take s).flatten := by simp [before]
theorem take_flat (y : SYard) {s : Nat} (h : s < y.Stacks.length) : (y.Stacks.take (s + 1)).flatten = (y.Stacks.take s).flatten ++ stk y s := by
  rw [take_succ_getD (d := []) h, List.flatten_append]
  simp
theorem before_succ (y : SYard) (s : Nat) {t : Nat} (h : t < (stk y s).length) : before y s (t + 1) = before y s t ++ [(stk y s).getD t 0] := by
  unfold before
  rw [take_succ_getD (d := 0) h, List.append_assoc]
theorem before_full (y : SYard) {s : Nat} (h : s < y.Stacks.length) : before y s (stk y s).length = (y.Stacks.take (s + 1)).flatten := by
  unfold before
  rw [take_flat y h, List.take_length]
theorem nodup_snoc {l : List Int} {x : Int} : (l ++ [x]).Nodup ↔ l.Nodup ∧ x ∉ l := by
  rw [List.nodup_append]
  constructor
  · rintro ⟨h1, _, h3⟩
    exact ⟨h1, fun h => h3 x h x (by simp) rfl⟩
  · rintro ⟨h1, h2⟩
    exact ⟨h1, by simp, fun a ha b hb e => h2 (by simp at hb; rw [← hb, ← e]; exact ha)⟩
theorem nodup_inner (y : SYard) (s : Nat) : ∀ t, t ≤ (stk y s).length → ((before y s t).Nodup ↔ (y.Stacks.take s).flatten.Nodup ∧ ∀ j, j < t → (stk y s).getD j 0 ∉ before y s j)
  | 0, _ => by
    rw [before_zero]
    exact ⟨fun h => ⟨h, fun j hj => absurd hj (Nat.not_lt_zero _)⟩, fun h => h.1⟩
  | t + 1, ht => by
    rw [before_succ y s (by omega), nodup_snoc, nodup_inner y s t (by omega)]
    constructor
    · rintro ⟨⟨h1, h2⟩, h3⟩
      refine ⟨h1, fun j hj => ?_⟩
      by_cases e : j = t
      · rw [e]; exact h3
      · exact h2 j (by omega)
    · rintro ⟨h1, h2⟩
      exact ⟨⟨h1, fun j hj => h2 j (by omega)⟩, h2 t (by omega)⟩
theorem nodup_outer (y : SYard) : ∀ s, s ≤ y.Stacks.length → ((y.Stacks.take s).flatten.Nodup ↔ ∀ i, i < s → ∀ j, j < (stk y i).length → (stk y i).getD j 0 ∉ before y i j)
  | 0, _ => by simp
  | s + 1, hs => by
    rw [← before_full y (by omega), nodup_inner y s _ (Nat.le_refl _), nodup_outer y s (by omega)]
    constructor
    · rintro ⟨h1, h2⟩ i hi
      by_cases e : i = s
      · rw [e]; exact h2
      · exact h1 i (by omega)
    · intro h
      exact ⟨fun i hi => h i (by omega), h s (by omega)⟩
theorem mem_flat (y : SYard) {s t : Nat} (hs : s < y.Stacks.length) (ht : t < (stk y s).length) : (stk y s).getD t 0 ∈ y.Stacks.flatten :=
  List.mem_flatten.2 ⟨stk y s, getD_mem hs, getD_mem ht⟩
theorem flat_mem (y : SYard) {x : Int} (h : x ∈ y.Stacks.flatten) : ∃ s t, s < y.Stacks.length ∧ t < (stk y s).length ∧ (stk y s).getD t 0 = x := by
  obtain ⟨l, hl, hx⟩ := List.mem_flatten.1 h
  obtain ⟨s, hs, rfl⟩ := List.getElem_of_mem hl
  obtain ⟨t, ht, rfl⟩ := List.getElem_of_mem hx
  have e : stk y s = y.Stacks[s] := getD_eq hs
  exact ⟨s, t, hs, by rw [e]; exact ht, by rw [e, getD_eq ht]⟩
def boxId (y : SYard) (s t : Nat) : Bool := decide (1 ≤ (stk y s).getD t 0 ∧ (stk y s).getD t 0 ≤ 1000000)
def one (y : SYard) (s t : Nat) : Bool := decide (y.Stacks.flatten.count ((stk y s).getD t 0) = 1)
def fresh (y : SYard) (s t : Nat) : Bool := !decide ((stk y s).getD t 0 ∈ before y s t)
def high (y : SYard) (s : Nat) : Bool := !decide (((stk y s).length : Int) > y.High)
def yardHead (y : SYard) : Bool := decide (1 ≤ y.High ∧ y.High ≤ 6) && decide (1 ≤ (y.Stacks.length : Int) ∧ (y.Stacks.length : Int) ≤ 12)
def yardB (y : SYard) : Bool := yardHead y && ((List.range y.Stacks.length).all (high y) && (List.range y.Stacks.length).all fun s => (List.range (stk y s).length).all fun t => boxId y s t && one y s t)
def yardB' (y : SYard) : Bool := yardHead y && (List.range y.Stacks.length).all fun s => high y s && (List.range (stk y s).length).all fun t => boxId y s t && fresh y s t
theorem all_iff {p : Nat → Bool} {m : Nat} : (List.range m).all p = true ↔ ∀ k, k < m → p k = true := by
  rw [List.all_eq_true]
  exact ⟨fun h k hk => h k (List.mem_range.2 hk), fun h k hk => h k (List.mem_range.1 hk)⟩
theorem ones_iff (y : SYard) : (∀ s, s < y.Stacks.length → ∀ t, t < (stk y s).length → one y s t = true) ↔ ∀ s, s < y.Stacks.length → ∀ t, t < (stk y s).length → fresh y s t = true := by
  have h1 : (∀ s, s < y.Stacks.length → ∀ t, t < (stk y s).length → one y s t = true) ↔ y.Stacks.flatten.Nodup := by
    rw [List.nodup_iff_count]
    constructor
    · intro h a
      by_cases ha : a ∈ y.Stacks.flatten
      · obtain ⟨s, t, hs, ht, rfl⟩ := flat_mem y ha
        have := of_decide_eq_true (h s hs t ht)
        omega
      · rw [List.count_eq_zero.2 ha]; omega
    · intro h s hs t ht
      have h2 := h ((stk y s).getD t 0)
      have h3 := List.count_pos_iff.2 (mem_flat y hs ht)
      exact decide_eq_true (by omega)
  have h2 := nodup_outer y y.Stacks.length (Nat.le_refl _)
  rw [List.take_length] at h2
  rw [h1, h2]
  simp only [fresh, Bool.not_eq_true', decide_eq_false_iff_not]
theorem yard_same (y : SYard) : yardB y = yardB' y := by
  unfold yardB yardB'
  congr 1
  rw [Bool.eq_iff_iff]
  simp only [Bool.and_eq_true, all_iff]
  have h := ones_iff y
  constructor
  · rintro ⟨h1, h2⟩ s hs
    exact ⟨h1 s hs, fun t ht => ⟨(h2 s hs t ht).1, h.1 (fun s hs t ht => (h2 s hs t ht).2) s hs t ht⟩⟩
  · intro h1
    exact ⟨fun s hs => (h1 s hs).1, fun s hs t ht => ⟨((h1 s hs).2 t ht).1, h.2 (fun s hs t ht => ((h1 s hs).2 t ht).2) s hs t ht⟩⟩
structure YardSz (y : SYard) : Prop where
  len : y.Stacks.length ≤ 100000000
  each : ∀ s, s < y.Stacks.length → (stk y s).length ≤ 100000000
  all : y.Stacks.flatten.length ≤ 100000000
theorem flat_len : ∀ l : List (List Int), l.flatten.length = sumOf (fun y => w_LInt y) l
  | [] => rfl
  | a :: l => by
    rw [List.flatten_cons, List.length_append, flat_len l]
    rfl
theorem yardSz (y : SYard) (h : w_SYard y ≤ 100000000) : YardSz y := by
  have h1 : w_SYard y = y.Stacks.length + sumOf (fun z => w_LInt z) y.Stacks := rfl
  have h2 := flat_len y.Stacks
  refine ⟨by omega, fun s hs => ?_, by omega⟩
  have s1 := sumOf_mem (f := fun y => w_LInt y) (d := []) hs
  have h4 : w_LInt (y.Stacks.getD s []) = (stk y s).length := rfl
  try simp only at s1
  omega
theorem count_take_le (y : SYard) (s : Nat) (x : Int) : (y.Stacks.take s).flatten.count x ≤ y.Stacks.flatten.length := by
  have h1 : (y.Stacks.take s).flatten.count x + (y.Stacks.drop s).flatten.count x = y.Stacks.flatten.count x := by
    rw [← List.count_append, ← List.flatten_append, List.take_append_drop]
  have h2 := List.count_le_length (a := x) (l := y.Stacks.flatten)
  omega
theorem count_before_le (y : SYard) {s t : Nat} (hs : s < y.Stacks.length) (x : Int) : (before y s t).count x ≤ y.Stacks.flatten.length := by
  have h1 := count_take_le y (s + 1) x
  rw [take_flat y hs, List.count_append] at h1
  have h2 : ((stk y s).take t).count x + ((stk y s).drop t).count x = (stk y s).count x := by
    rw [← List.count_append, List.take_append_drop]
  unfold before
  rw [List.count_append]
  omega
def putAll (m : List (Int × Bool)) (l : List Int) : List (Int × Bool) := l.foldl (fun m x => mputI m x true) m
theorem putAll_get (l : List Int) : ∀ (m : List (Int × Bool)) (x : Int), (mgetI (putAll m l) x).getD false = ((mgetI m x).getD false || decide (x ∈ l)) := by
  induction l with
  | nil => intro m x; simp [putAll]
  | cons a l ih =>
    intro m x
    show (mgetI (putAll (mputI m a true) l) x).getD false = _
    rw [ih, mgetI_mputI]
    by_cases h : x = a
    · simp [h]
    · simp [h]
theorem putAll_snoc (m : List (Int × Bool)) (l : List Int) (x : Int) : putAll m (l ++ [x]) = mputI (putAll m l) x true := by
  simp [putAll]
theorem id_impl2 (n : Nat) (x : Int) : impl_idRight n x = some (decide (1 ≤ x ∧ x ≤ 1000000)) := by
  unfold impl_idRight
  rw [in_impl]; rfl
theorem yard_impl {n : Nat} (y : SYard) (hz : YardSz y) (hn : 1000000000 < n) : impl_YardOk n y = some (yardB' y) := by
  have hl := hz.len
  unfold impl_YardOk yardB' yardHead
  rw [in_impl, in_impl, Option.bind_some]
  cases decide (1 ≤ y.High ∧ y.High ≤ 6) with
  | false => rfl
  | true =>
    cases decide (1 ≤ (y.Stacks.length : Int) ∧ (y.Stacks.length : Int) ≤ 12) with
    | false => rfl
    | true =>
      simp only [Bool.not_true, cond_false, Option.bind_some, Bool.true_and]
      refine (loop_allS (S := List (Int × Bool)) (X := Int × List (Int × Bool)) (enc := fun k s => (k, s)) (len := y.Stacks.length) (p := fun s => high y s && (List.range (stk y s).length).all fun t => boxId y s t && fresh y s t)
        (I := fun s m => ∀ x, (mgetI m x).getD false = decide (x ∈ (y.Stacks.take s).flatten)) (no := some false) (yes := some true) (fun s m J h hi _ => ?_) (fun m J hi _ => ?_) (n := n) (by omega) (s0 := []) (fun q => by simp [mgetI])).trans ?_
      · refine ⟨putAll m (stk y s), fun _ x => ?_, ?_⟩
        · rw [putAll_get, hi x, take_flat y h]
          simp only [List.mem_append, Bool.decide_or]
        · have he := hz.each s h
          show impl_YardOk_L5 n _ _ _ y.Stacks _ (s : Int) y m = _
          unfold impl_YardOk_L5 impl_YardOk_k1
          simp only [Int.ofNat_lt, h, decide_true, cond_true, ix_nat h, Int.toNat_natCast, w64_succ (show s < 9223372036854775807 by omega)]
          have := loop_allS (R := Bool) (S := List (Int × Bool)) (X := Int × List (Int × Bool)) (enc := fun k s => (k, s)) (len := (stk y s).length) (p := fun t => boxId y s t && fresh y s t)
            (b := fun x J' => impl_YardOk_L10 n (fun t52 => J (((s + 1 : Nat) : Int), t52)) (fun t55 => some t55) (fun t56 t57 => J' (t56, t57)) y.Stacks (y.Stacks.length : Int) (s : Int) (y.Stacks.getD s []) ((y.Stacks.getD s []).length : Int) x.1 y x.2)
            (I := fun t m' => m' = putAll m ((stk y s).take t)) (no := some false) (yes := J (((s + 1 : Nat) : Int), putAll m (stk y s))) (fun t m' J2 ht hi2 _ => ?_) (fun m' J2 hi2 _ => ?_) (n := n) (by omega) (s0 := m) (by simp [putAll])
          · refine (congrArg (fun z => bif decide (((y.Stacks.getD s []).length : Int) > y.High) then some false else z) this).trans ?_
            unfold high
            cases decide (((stk y s).length : Int) > y.High) <;> rfl
          · refine ⟨mputI m' ((stk y s).getD t 0) true, fun _ => ?_, ?_⟩
            · rw [take_succ_getD (d := 0) ht, putAll_snoc, hi2]
            · have hf : (mgetI m' ((stk y s).getD t 0)).getD false = !fresh y s t := by
                rw [hi2, putAll_get, hi, fresh, Bool.not_not, before]
                simp only [List.mem_append, Bool.decide_or]
              show impl_YardOk_L10 n _ _ _ y.Stacks _ (s : Int) _ _ (t : Int) y m' = _
              unfold impl_YardOk_L10 impl_YardOk_k0
              simp only [Int.ofNat_lt, ht, decide_true, cond_true, ix_nat ht, Int.toNat_natCast, id_impl2, Option.bind_some, bd_eq, hf, w64_succ (show t < 9223372036854775807 by omega), bif_not, bif_and', boxId]
          · subst hi2
            show impl_YardOk_L10 n _ _ _ y.Stacks _ (s : Int) _ _ ((stk y s).length : Int) y _ = _
            unfold impl_YardOk_L10
            simp only [Int.lt_irrefl, decide_false, cond_false, List.take_length]
      · show impl_YardOk_L5 n _ _ _ y.Stacks _ (y.Stacks.length : Int) y m = _
        unfold impl_YardOk_L5
        simp only [Int.lt_irrefl, decide_false, cond_false]
      · rw [bif_tf]
end Go.Sm
end

section
set_option linter.unusedSimpArgs false
set_option linter.deprecated false
set_option linter.unusedSectionVars false
set_option linter.unusedVariables false
set_option linter.unusedSimpArgs false
namespace Go.Sm
attribute [local irreducible] bd chk ix loopN
theorem set_getD_self {α : Type} {l : List α} {k : Nat} {d : α} (h : k < l.length) : l.set k (l.getD k d) = l := by
  rw [getD_eq h]; exact List.set_getElem_self h
theorem ownL_impl (n : Nat) (l : List (List Int)) (h : l.length ≤ 100000000) : impl_own_int n l = some l := by
  unfold impl_own_int
  rw [chk_dec (by omega), chk_dec (by omega), chk_dec (by omega)]
theorem ownI_impl (n : Nat) (l : List Int) (h : l.length ≤ 200000000) : impl_own_int_f34 n l = some l := by
  unfold impl_own_int_f34
  rw [chk_dec (by omega), chk_dec (by omega), chk_dec (by omega)]
theorem own_impl {n : Nat} (y : SYard) (hz : YardSz y) (hn : 1000000000 < n) : impl_Yard_own n y = some y := by
  have hl := hz.len
  unfold impl_Yard_own
  rw [ownL_impl n _ hl, Option.bind_some]
  refine loop_runS (S := List (List Int) × Nat) (enc := fun k c => (k, c)) (len := y.Stacks.length) (I := fun s c => c = (y.Stacks, s)) (Q := fun r => r = some y) (fun s c J hs hi => ?_) (fun c J hi => ?_) (by omega) (s0 := (y.Stacks, 0)) (by simp)
  · refine ⟨_, rfl, ?_⟩
    subst hi
    have he := hz.each s hs
    show impl_Yard_own_L3 n _ _ _ (s : Int) y _ _ _ = _
    unfold impl_Yard_own_L3 impl_Yard_own_k0
    simp only [Int.ofNat_lt, hs, decide_true, cond_true, ix_nat hs, Int.toNat_natCast, chk_true, Nat.lt_irrefl, decide_false, cond_false, ownI_impl n _ (Nat.le_trans he (by omega)), Option.bind_some, w64_succ (show s < 9223372036854775807 by omega), set_getD_self hs]
  · subst hi
    show impl_Yard_own_L3 n _ _ _ _ y _ _ _ = _
    unfold impl_Yard_own_L3
    simp only [Int.lt_irrefl, decide_false, cond_false, Nat.le_refl, decide_true, chk_true]
/-! ### Where a box stands -/
def inS (y : SYard) (x : Int) (s : Nat) : Nat → Bool := fun t => decide ((stk y s).getD t 0 = x)
def atS (y : SYard) (x : Int) (s : Nat) : Int := idxOf (inS y x s) (stk y s).length
def findB (y : SYard) (x : Int) : Int × Int × Bool := match (List.range y.Stacks.length).find? (fun s => decide (atS y x s ≥ 0)) with
  | some s => ((s : Int), atS y x s, true)
  | none => (-1, -1, false)
theorem findB_spec (y : SYard) (x : Int) : findB y x = (-1, -1, false) ∨ ∃ s t : Nat, findB y x = ((s : Int), (t : Int), true) ∧ s < y.Stacks.length ∧ t < (stk y s).length := by
  unfold findB
  rcases find_range (fun s => decide (atS y x s ≥ 0)) y.Stacks.length with ⟨h1, _⟩ | ⟨s, h1, h2, h3, _⟩
  · rw [h1]; exact .inl rfl
  · rw [h1]
    unfold atS at h3 ⊢
    rcases idxOf_spec (inS y x s) (stk y s).length with ⟨e, _⟩ | ⟨t, e, ht, _⟩
    · rw [e] at h3; exact absurd (of_decide_eq_true h3) (by omega)
    · exact .inr ⟨s, t, by simp only [e], h2, ht⟩
theorem index_impl {n : Nat} (l : List Int) (x : Int) (hl : l.length ≤ 100000000) (hn : 1000000000 < n) : slices_Index_int_int n l x = some (idxOf (fun t => decide (l.getD t 0 = x)) l.length) := by
  unfold slices_Index_int_int
  refine loop_idx (by omega) (fun k J hk _ => ?_) (fun J _ => ?_) (by omega)
  · unfold slices_Index_int_int_L2
    simp only [Int.ofNat_lt, hk, decide_true, cond_true, ix_nat hk, Int.toNat_natCast, w64_succ (show k < 9223372036854775807 by omega), eq_comm]
  · unfold slices_Index_int_int_L2
    simp only [Int.lt_irrefl, decide_false, cond_false]
theorem findBox_impl {n : Nat} (y : SYard) (x : Int) (hz : YardSz y) (hy : yardB y = true) (hn : 1000000000 < n) : impl_FindBox n y x = some (findB y x) := by
  have hl := hz.len
  unfold impl_FindBox
  rw [yard_impl y hz hn, ← yard_same, hy, Option.bind_some, cond_true]
  rw [loop_find (p := fun s => decide (atS y x s ≥ 0)) (yes := fun s => some ((s : Int), atS y x s, true)) (no := some (-1, -1, false)) (len := y.Stacks.length) (by omega) (fun s J hs _ => ?_) (fun J _ => ?_) (by omega)]
  · unfold findB
    cases (List.range y.Stacks.length).find? (fun s => decide (atS y x s ≥ 0)) <;> rfl
  · unfold impl_FindBox_L3
    have he := hz.each s hs
    simp only [Int.ofNat_lt, hs, decide_true, cond_true, ix_nat hs, Int.toNat_natCast, index_impl _ x he hn, Option.bind_some, w64_succ (show s < 9223372036854775807 by omega)]
    rfl
  · unfold impl_FindBox_L3
    simp only [Int.lt_irrefl, decide_false, cond_false]
end Go.Sm
end

section
set_option linter.unusedSimpArgs false
set_option linter.deprecated false
set_option linter.unusedSectionVars false
set_option linter.unusedVariables false
set_option linter.unusedSimpArgs false
namespace Go.Sm
attribute [local irreducible] bd chk ix loopN
/-! ### A box goes from a stack to another; where to -/
def moveB (L : List (List Int)) (f t : Nat) : List (List Int) :=
  (L.set t (L.getD t [] ++ [(L.getD f []).getD ((L.getD f []).length - 1) 0])).set f ((L.getD f []).take ((L.getD f []).length - 1))
structure LSz (L : List (List Int)) : Prop where
  len : L.length ≤ 100000000
  each : ∀ s, s < L.length → (L.getD s []).length ≤ 100000000
theorem moveB_len (L : List (List Int)) (f t : Nat) : (moveB L f t).length = L.length := by simp [moveB]
theorem lift_impl {n : Nat} {H : Int} {L : List (List Int)} (hz : LSz L) {f t : Nat} (hf : f < L.length) (ht : t < L.length) (hne : f ≠ t) (h0 : 0 < (L.getD f []).length) : impl_Yard_lift n ⟨H, L⟩ (f : Int) (t : Int) = some (moveB L f t) := by
  have h1 := hz.each f hf
  have h2 := hz.each t ht
  obtain ⟨m, hm⟩ : ∃ m, (L.getD f []).length = m + 1 := ⟨(L.getD f []).length - 1, by omega⟩
  have hw : w64 (((m + 1 : Nat) : Int) - 1) = (m : Int) := by rw [w64_id (by omega) (by omega)]; omega
  have hfs : f < (L.set t (L.getD t [] ++ [(L.getD f []).getD m 0])).length := by simpa using hf
  have ho : impl_own_int_f34 n (List.take m (L.getD f [])) = some (List.take m (L.getD f [])) := ownI_impl n _ (by rw [List.length_take]; omega)
  unfold impl_Yard_lift moveB
  simp only [hm, ix_nat hf, ix_nat ht, Int.toNat_natCast, hf, ht, decide_true, chk_true, hw, bd_eq, ix_nat (show m < m + 1 by omega), Nat.lt_succ_self, Nat.add_sub_cancel, ix_nat hfs, hfs, getD_set_ne hne, Nat.zero_add, Nat.sub_zero, List.drop_zero, ownI_impl n _ (Nat.le_trans h2 (by omega)), Option.bind_some, hne, decide_false, cond_false]
  rw [chk_dec (by rw [List.length_append, List.length_singleton]; omega), chk_dec (by omega), chk_dec (by omega), chk_dec (by omega), ho, Option.bind_some]
def bestS (H : Int) (L : List (List Int)) (s : Nat) (b : Int) (k : Nat) : Int :=
  bif !decide ((k : Int) = (s : Int)) then (bif decide (((L.getD k []).length : Int) < H) then (bif decide (b < 0) then (k : Int) else (bif decide (((L.getD k []).length : Int) < ((L.getD b.toNat []).length : Int)) then (k : Int) else b)) else b) else b
def bestU (H : Int) (L : List (List Int)) (s : Nat) : Nat → Int
  | 0 => -1
  | k + 1 => bestS H L s (bestU H L s k) k
def bestB (H : Int) (L : List (List Int)) (s : Nat) : Int := bestU H L s L.length
def BestOk (L : List (List Int)) (s k : Nat) (b : Int) : Prop := b = -1 ∨ ∃ j : Nat, b = (j : Int) ∧ j < k ∧ j ≠ s
theorem bestS_ok {H : Int} {L : List (List Int)} {s k : Nat} {b : Int} (h : BestOk L s k b) : BestOk L s (k + 1) (bestS H L s b k) := by
  have h1 : BestOk L s (k + 1) b := by
    rcases h with h | ⟨j, h1, h2, h3⟩
    · exact .inl h
    · exact .inr ⟨j, h1, by omega, h3⟩
  unfold bestS
  cases hk : decide ((k : Int) = (s : Int)) with
  | true => exact h1
  | false =>
    have hk := of_decide_eq_false hk
    have h2 : BestOk L s (k + 1) (k : Int) := .inr ⟨k, rfl, by omega, by omega⟩
    cases decide (((L.getD k []).length : Int) < H) <;> cases decide (b < 0) <;> cases decide (((L.getD k []).length : Int) < ((L.getD b.toNat []).length : Int)) <;> first | exact h1 | exact h2
theorem bestU_ok (H : Int) (L : List (List Int)) (s : Nat) : ∀ k, BestOk L s k (bestU H L s k)
  | 0 => .inl rfl
  | k + 1 => bestS_ok (bestU_ok H L s k)
theorem best_step {n : Nat} {R : Type} {H : Int} {L : List (List Int)} {s k : Nat} {b : Int} {J : Int → Int → Option R} (hk : k < L.length) (hl : L.length ≤ 100000000) (hb : BestOk L s k b) :
    (bif !decide ((k : Int) = (s : Int)) then (bif decide (((L.getD k []).length : Int) < H) then (bif decide (b < 0) then J (k : Int) (w64 ((k : Int) + 1)) else ix b L.length (chk (decide (b.toNat < L.length)) (bif decide (((L.getD k []).length : Int) < ((L.getD b.toNat []).length : Int)) then J (k : Int) (w64 ((k : Int) + 1)) else J b (w64 ((k : Int) + 1))))) else J b (w64 ((k : Int) + 1))) else J b (w64 ((k : Int) + 1))) = J (bestS H L s b k) ((k + 1 : Nat) : Int) := by
  unfold bestS
  rw [w64_succ (by omega)]
  cases decide ((k : Int) = (s : Int)) with
  | true => rfl
  | false =>
    cases decide (((L.getD k []).length : Int) < H) with
    | false => rfl
    | true =>
      rcases hb with rfl | ⟨j, rfl, hj, _⟩
      · rfl
      · simp only [Bool.not_false, cond_true, show ¬ ((j : Int) < 0) from by omega, decide_false, cond_false, ix_nat (show j < L.length by omega), Int.toNat_natCast]
        rw [chk_dec (by omega)]
        cases decide (((L.getD k []).length : Int) < ((L.getD j []).length : Int)) <;> rfl
/-! ### The boxes above are taken off -/
def outR (H : Int) (s : Nat) : Nat → List (List Int) → Option (List (List Int))
  | 0, L => some L
  | d + 1, L => bif decide (bestB H L s < 0) then none else outR H s d (moveB L s (bestB H L s).toNat)
/-- What a yard's stack is while its boxes go. -/
structure Mid (m s t d : Nat) (H : Int) (L : List (List Int)) : Prop where
  len : L.length = m
  top : (L.getD s []).length = t + 1 + d
  each : ∀ k, k < m → ((L.getD k []).length : Int) ≤ H
theorem bestS_low {H : Int} {L : List (List Int)} {s k : Nat} {b : Int} (h : b = -1 ∨ ((L.getD b.toNat []).length : Int) < H) : bestS H L s b k = -1 ∨ ((L.getD (bestS H L s b k).toNat []).length : Int) < H := by
  unfold bestS
  cases decide ((k : Int) = (s : Int)) with
  | true => exact h
  | false =>
    cases h1 : decide (((L.getD k []).length : Int) < H) with
    | false => exact h
    | true =>
      have h1 := of_decide_eq_true h1
      cases decide (b < 0) <;> cases decide (((L.getD k []).length : Int) < ((L.getD b.toNat []).length : Int)) <;> first | exact .inr h1 | exact h
theorem bestU_low (H : Int) (L : List (List Int)) (s : Nat) : ∀ k, bestU H L s k = -1 ∨ ((L.getD (bestU H L s k).toNat []).length : Int) < H
  | 0 => .inl rfl
  | k + 1 => bestS_low (bestU_low H L s k)
theorem best_cases (H : Int) (L : List (List Int)) (s : Nat) : bestB H L s = -1 ∨ ∃ j : Nat, bestB H L s = (j : Int) ∧ j < L.length ∧ j ≠ s ∧ ((L.getD j []).length : Int) < H := by
  unfold bestB
  rcases bestU_ok H L s L.length with h | ⟨j, h1, h2, h3⟩
  · exact .inl h
  · refine .inr ⟨j, h1, h2, h3, ?_⟩
    rcases bestU_low H L s L.length with h | h
    · rw [h] at h1; omega
    · rw [h1] at h; exact h
theorem Mid.step {m s t d : Nat} {H : Int} {L : List (List Int)} (h : Mid m s t (d + 1) H L) (hs : s < m) {j : Nat} (hj : j < m) (hne : j ≠ s) (hlow : ((L.getD j []).length : Int) < H) : Mid m s t d H (moveB L s j) := by
  have hl := h.len
  have ht := h.top
  refine ⟨by rw [moveB_len]; exact hl, ?_, fun k hk => ?_⟩
  · unfold moveB
    rw [getD_set (by simp; omega), List.length_take]
    omega
  · unfold moveB
    by_cases e : k = s
    · subst e
      rw [getD_set (by simp; omega), List.length_take]
      have := h.each k hk
      omega
    · rw [getD_set_ne e]
      by_cases e2 : k = j
      · subst e2
        rw [getD_set (by omega), List.length_append, List.length_singleton]
        omega
      · rw [getD_set_ne e2]
        exact h.each k hk
theorem outR_mid {m s t : Nat} {H : Int} (hs : s < m) : ∀ {d : Nat} {L L' : List (List Int)}, Mid m s t d H L → outR H s d L = some L' → Mid m s t 0 H L'
  | 0, L, L', h, e => by cases e; exact h
  | d + 1, L, L', h, e => by
    unfold outR at e
    rcases best_cases H L s with hb | ⟨j, hb, h1, h2, h3⟩
    · rw [hb] at e; cases e
    · rw [hb, decide_eq_false (by omega), cond_false, Int.toNat_natCast] at e
      exact outR_mid hs (h.step hs (by rw [← h.len]; exact h1) h2 h3) e
end Go.Sm
end

section
set_option linter.unusedSimpArgs false
set_option linter.deprecated false
set_option linter.unusedSectionVars false
set_option linter.unusedVariables false
set_option linter.unusedSimpArgs false
namespace Go.Sm
attribute [local irreducible] bd chk ix loopN
/-! ### A deed in the yard -/
def opB (y : SYard) (op : SYardOp) : Bool :=
  bif decide (op.Kind = 1) then decide (0 ≤ op.Stack ∧ op.Stack ≤ (y.Stacks.length : Int) - 1) && decide (1 ≤ op.Box ∧ op.Box ≤ 1000000)
  else bif decide (op.Kind = 3) then decide (0 ≤ op.Stack ∧ op.Stack ≤ (y.Stacks.length : Int) - 1) && (decide (0 ≤ op.Box ∧ op.Box ≤ (y.Stacks.length : Int) - 1) && !decide (op.Box = op.Stack))
  else decide (op.Kind = 2)
def outY (y : SYard) (s t : Nat) : SYard × Int × Int :=
  match outR y.High s ((stk y s).length - 1 - t) y.Stacks with
  | none => (y, 0, 4)
  | some L => (⟨y.High, L.set s ((L.getD s []).take t)⟩, (((stk y s).length - 1 - t : Nat) : Int), 0)
def doC (y : SYard) (op : SYardOp) : SYard × Int × Int :=
  bif decide (op.Kind = 1) then (bif (findB y op.Box).2.2 then (y, 0, 2) else bif decide (((stk y op.Stack.toNat).length : Int) = y.High) then (y, 0, 4) else (⟨y.High, y.Stacks.set op.Stack.toNat (stk y op.Stack.toNat ++ [op.Box])⟩, 0, 0))
  else bif decide (op.Kind = 3) then (bif decide (((stk y op.Box.toNat).length : Int) = 0) then (y, 0, 3) else bif decide (((stk y op.Stack.toNat).length : Int) = y.High) then (y, 0, 4) else (⟨y.High, moveB y.Stacks op.Box.toNat op.Stack.toNat⟩, 0, 0))
  else bif !(findB y op.Box).2.2 then (y, 0, 3) else outY y (findB y op.Box).1.toNat (findB y op.Box).2.1.toNat
def doY (y : SYard) (op : SYardOp) : SYard × Int × Int := bif !yardB y then (y, 0, 1) else bif !opB y op then (y, 0, 1) else doC y op
structure YOk (y : SYard) : Prop where
  high : 1 ≤ y.High ∧ y.High ≤ 6
  len : y.Stacks.length ≤ 12
  each : ∀ s, s < y.Stacks.length → ((stk y s).length : Int) ≤ y.High
theorem yOk {y : SYard} (h : yardB y = true) : YOk y := by
  unfold yardB yardHead at h
  simp only [Bool.and_eq_true, decide_eq_true_eq] at h
  obtain ⟨⟨h1, h2⟩, h3, _⟩ := h
  refine ⟨h1, by omega, fun s hs => ?_⟩
  have := all_iff.1 h3 s hs
  unfold high at this
  simp only [Bool.not_eq_true', decide_eq_false_iff_not] at this
  omega
theorem Mid.sz {m s t d : Nat} {H : Int} {L : List (List Int)} (h : Mid m s t d H L) (hm : m ≤ 12) (hh : H ≤ 6) : LSz L := by
  have hl := h.len
  exact ⟨by omega, fun k hk => by have := h.each k (by omega); omega⟩
theorem out_impl {n : Nat} {y : SYard} (hy : YOk y) (hn : 1000000000 < n) {s t : Nat} (hs : s < y.Stacks.length) (ht : t < (stk y s).length) : impl_DoYard_k3 n (s : Int) (t : Int) y y.High y.Stacks y.High y.Stacks = some (outY y s t) := by
  have hyh := hy.high
  have hyl := hy.len
  have hye := hy.each s hs
  have hd0 : ∃ d0, (stk y s).length - 1 - t = d0 := ⟨_, rfl⟩
  obtain ⟨d0, hd0⟩ := hd0
  unfold impl_DoYard_k3
  refine loopN_ind (fun x => (x.2.getD s []).length - (t + 1)) (fun x => ∃ d many : Nat, x.1 = (many : Int) ∧ many + d = d0 ∧ Mid y.Stacks.length s t d y.High x.2 ∧ outR y.High s d x.2 = outR y.High s d0 y.Stacks) (fun x r => r = some (outY y s t)) ?_ n _ ⟨d0, 0, rfl, by omega, ⟨rfl, by show (stk y s).length = _; omega, fun k hk => hy.each k hk⟩, rfl⟩ (by show (stk y s).length - (t + 1) < n; omega)
  rintro ⟨_, L⟩ J ⟨d, many, rfl, hmd, hM, hout⟩ ih
  change Mid y.Stacks.length s t d y.High L at hM
  change outR y.High s d L = _ at hout
  have hz := hM.sz hyl hyh.2
  have hl := hM.len
  have htop := hM.top
  have hsL : s < L.length := by omega
  show impl_DoYard_L25 n _ _ _ (s : Int) (t : Int) (many : Int) y _ _ _ _ _ L = _
  unfold impl_DoYard_L25
  simp only [ix_nat hsL, Int.toNat_natCast, hsL, decide_true, chk_true, htop, bd_eq]
  rw [show w64 (((t + 1 + d : Nat) : Int) - 1) = ((t + d : Nat) : Int) from by rw [w64_id (by omega) (by omega)]; omega]
  cases d with
  | zero =>
    rw [decide_eq_false (by omega), cond_false]
    simp only [Nat.add_zero, Nat.zero_add, Nat.sub_zero, List.drop_zero]
    rw [chk_dec (by omega), chk_dec (by omega), chk_dec (by omega), ownI_impl n _ (by rw [List.length_take]; omega), Option.bind_some]
    unfold outY
    rw [hd0, ← hout]
    show _ = some ((⟨y.High, L.set s ((L.getD s []).take t)⟩ : SYard), (d0 : Int), (0 : Int))
    rw [← hmd]
    rfl
  | succ d =>
    rw [decide_eq_true (by omega), cond_true]
    unfold impl_DoYard_k2
    refine loop_runS (S := Int) (enc := fun k b => (b, k)) (len := L.length) (I := fun k b => b = bestU y.High L s k) (Q := fun r => r = some (outY y s t)) (fun k b J2 hk hi => ?_) (fun b J2 hi => ?_) (by omega) (s0 := -1) rfl
    · refine ⟨_, rfl, ?_⟩
      subst hi
      show impl_DoYard_L29 n _ _ (s : Int) (t : Int) (many : Int) _ _ (k : Int) y _ _ _ _ _ L = _
      unfold impl_DoYard_L29 impl_DoYard_k1
      simp only [Int.ofNat_lt, hk, decide_true, cond_true, ix_nat hk, Int.toNat_natCast, chk_true]
      show _ = J2 (bestS y.High L s (bestU y.High L s k) k, ((k + 1 : Nat) : Int))
      rw [← best_step (n := n) (J := fun a c => J2 (a, c)) hk (by omega) (bestU_ok y.High L s k)]
      rcases bestU_ok y.High L s k with hb | ⟨j, hb, hj, _⟩
      · rw [hb]; rfl
      · have hjL : j < L.length := by omega
        simp only [hb, ix_nat hjL, Int.toNat_natCast, hjL, decide_true, chk_true, Int.ofNat_lt]
    · subst hi
      show impl_DoYard_L29 n _ _ (s : Int) (t : Int) (many : Int) (bestB y.High L s) _ (L.length : Int) y _ _ _ _ _ L = _
      unfold impl_DoYard_L29
      simp only [Int.lt_irrefl, decide_false, cond_false]
      rcases best_cases y.High L s with hb | ⟨j, hb, hj, hjs, hlow⟩
      · have hn1 : outR y.High s d0 y.Stacks = none := by
          rw [← hout]
          unfold outR
          rw [hb]
          rfl
        rw [hb, decide_eq_true (by omega), cond_true]
        unfold outY
        rw [hd0, hn1]
      · rw [hb, decide_eq_false (by omega), cond_false, lift_impl hz hsL hj (Ne.symm hjs) (by omega), Option.bind_some]
        simp only [bd_eq]
        rw [w64_succ (show many < 9223372036854775807 by omega)]
        have hstep := hM.step hs (by omega) hjs hlow
        refine ih (((many + 1 : Nat) : Int), moveB L s j) ⟨d, many + 1, rfl, by omega, hstep, ?_⟩ ?_
        · rw [← hout]
          conv => rhs; unfold outR
          rw [hb, decide_eq_false (by omega), cond_false, Int.toNat_natCast]
        · have := hstep.top
          show ((moveB L s j).getD s []).length - (t + 1) < (L.getD s []).length - (t + 1)
          omega
end Go.Sm
end

section
set_option linter.unusedSimpArgs false
set_option linter.deprecated false
set_option linter.unusedSectionVars false
set_option linter.unusedVariables false
set_option linter.unusedSimpArgs false
namespace Go.Sm
attribute [local irreducible] bd chk ix loopN
/-- What a deed that is right says of its numbers. -/
theorem op_ok {y : SYard} {op : SYardOp} (h : opB y op = true) :
    (op.Kind = 1 → ∃ k : Nat, op.Stack = (k : Int) ∧ k < y.Stacks.length) ∧ (op.Kind = 3 → ∃ k j : Nat, op.Stack = (k : Int) ∧ k < y.Stacks.length ∧ op.Box = (j : Int) ∧ j < y.Stacks.length ∧ j ≠ k) := by
  unfold opB at h
  constructor
  · intro hk
    rw [decide_eq_true hk, cond_true, Bool.and_eq_true, decide_eq_true_eq] at h
    exact ⟨op.Stack.toNat, by omega, by omega⟩
  · intro hk
    rw [decide_eq_false (by omega), cond_false, decide_eq_true hk, cond_true] at h
    simp only [Bool.and_eq_true, decide_eq_true_eq, Bool.not_eq_true', decide_eq_false_iff_not] at h
    exact ⟨op.Stack.toNat, op.Box.toNat, by omega, by omega, by omega, by omega, by omega⟩
theorem yl {y : SYard} (hz : YardSz y) : LSz y.Stacks := ⟨hz.len, hz.each⟩
theorem push_impl {n : Nat} {y : SYard} (hz : YardSz y) {op : SYardOp} {k : Nat} (hk : op.Stack = (k : Int)) (hl : k < y.Stacks.length) :
    impl_DoYard_k0 n op y.High y.Stacks = some (⟨y.High, y.Stacks.set k (stk y k ++ [op.Box])⟩, 0, 0) := by
  have he : (y.Stacks.getD k []).length ≤ 100000000 := hz.each k hl
  unfold impl_DoYard_k0
  have ho : impl_own_int_f34 n (y.Stacks.getD k [] ++ [op.Box]) = some (y.Stacks.getD k [] ++ [op.Box]) := ownI_impl n _ (by rw [List.length_append, List.length_singleton]; omega)
  simp only [hk, ix_nat hl, Int.toNat_natCast, hl, decide_true, chk_true, bd_eq]
  rw [chk_dec (by rw [List.length_append, List.length_singleton]; omega), ho, Option.bind_some]
theorem core_impl {n : Nat} {y : SYard} (hz : YardSz y) (hy : yardB y = true) {op : SYardOp} (ho : opB y op = true) (hn : 1000000000 < n) : impl_DoYard_k4 n y op y.High y.Stacks = some (doC y op) := by
  obtain ⟨o1, o3⟩ := op_ok ho
  unfold impl_DoYard_k4 doC
  rw [own_impl y hz hn, Option.bind_some, findBox_impl y _ hz hy hn, Option.bind_some]
  cases h1 : decide (op.Kind = 1) with
  | true =>
    obtain ⟨k, hk, hl⟩ := o1 (of_decide_eq_true h1)
    rw [cond_true, cond_true]
    rw [push_impl hz hk hl]
    simp only [hk, ix_nat hl, Int.toNat_natCast, hl, decide_true, chk_true]
    cases (findB y op.Box).2.2 <;> cases decide (((y.Stacks.getD k []).length : Int) = y.High) <;> rfl
  | false =>
    rw [cond_false, cond_false]
    cases h3 : decide (op.Kind = 3) with
    | true =>
      obtain ⟨k, j, hk, hkl, hj, hjl, hne⟩ := o3 (of_decide_eq_true h3)
      rw [cond_true, cond_true]
      simp only [hk, hj, ix_nat hkl, ix_nat hjl, Int.toNat_natCast, hkl, hjl, decide_true, chk_true]
      cases h0 : decide (((y.Stacks.getD j []).length : Int) = 0) with
      | true => rfl
      | false =>
        have h0 := of_decide_eq_false h0
        rw [cond_false, cond_false, lift_impl (n := n) (H := y.High) (yl hz) hjl hkl hne (by omega), Option.bind_some]
        cases decide (((y.Stacks.getD k []).length : Int) = y.High) <;> rfl
    | false =>
      rw [cond_false, cond_false]
      rcases findB_spec y op.Box with e | ⟨s, t, e, hs, ht⟩
      · rw [e]; rfl
      · rw [e]
        simp only [Bool.not_true, cond_false, Int.toNat_natCast]
        exact out_impl (yOk hy) hn hs ht
theorem doY_impl {n : Nat} (y : SYard) (op : SYardOp) (hz : YardSz y) (hn : 1000000000 < n) : impl_DoYard n y op = some (doY y op) := by
  have hl := hz.len
  unfold impl_DoYard doY
  rw [own_impl y hz hn, Option.bind_some, yard_impl y hz hn, ← yard_same]
  rw [show w64 ((y.Stacks.length : Int) - 1) = (y.Stacks.length : Int) - 1 from w64_id (by omega) (by omega)]
  simp only [bd_eq, in_impl, id_impl2, Option.bind_some]
  cases hy : yardB y with
  | false => rfl
  | true =>
    simp only [Bool.not_true, cond_false]
    have hc : opB y op = true → impl_DoYard_k4 n y op y.High y.Stacks = some (doC y op) := fun ho => core_impl hz hy ho hn
    revert hc
    unfold opB
    by_cases k1 : op.Kind = 1
    · simp only [k1, decide_true, cond_true, show (decide ((1 : Int) ≤ 1 ∧ (1 : Int) ≤ 3)) = true from rfl, Bool.not_true, cond_false, show decide ((1 : Int) = 2) = false from rfl, Bool.not_false, show decide ((1 : Int) = 3) = false from rfl]
      cases decide (0 ≤ op.Stack ∧ op.Stack ≤ (y.Stacks.length : Int) - 1) <;> cases decide (1 ≤ op.Box ∧ op.Box ≤ 1000000) <;> intro hc <;> first | rfl | exact hc rfl
    · by_cases k3 : op.Kind = 3
      · simp only [k3, decide_true, cond_true, show (decide ((1 : Int) ≤ 3 ∧ (3 : Int) ≤ 3)) = true from rfl, Bool.not_true, cond_false, show decide ((3 : Int) = 2) = false from rfl, Bool.not_false, show decide ((3 : Int) = 1) = false from rfl]
        cases decide (0 ≤ op.Stack ∧ op.Stack ≤ (y.Stacks.length : Int) - 1) <;> cases decide (0 ≤ op.Box ∧ op.Box ≤ (y.Stacks.length : Int) - 1) <;> cases decide (op.Box = op.Stack) <;> intro hc <;> first | rfl | exact hc rfl
      · by_cases k2 : op.Kind = 2
        · simp only [k2, decide_true, cond_true, show (decide ((1 : Int) ≤ 2 ∧ (2 : Int) ≤ 3)) = true from rfl, Bool.not_true, cond_false, show decide ((2 : Int) = 1) = false from rfl, show decide ((2 : Int) = 3) = false from rfl]
          exact fun hc => hc trivial
        · intro _
          rw [show decide (1 ≤ op.Kind ∧ op.Kind ≤ 3) = false from decide_eq_false (by omega)]
          simp only [k1, k2, k3, decide_false, cond_false, Bool.not_false, cond_true]
/-! ### A yard stays a yard -/
theorem sumOf_bound {α : Type} {f : α → Nat} {c : Nat} : ∀ l : List α, (∀ x ∈ l, f x ≤ c) → sumOf f l ≤ c * l.length
  | [], _ => Nat.zero_le _
  | a :: l, h => by
    have h1 := h a (List.mem_cons_self ..)
    have h2 := sumOf_bound l fun x hx => h x (List.mem_cons_of_mem _ hx)
    show f a + sumOf f l ≤ c * (l.length + 1)
    rw [Nat.mul_add]
    omega
structure YFits (m : Nat) (H : Int) (y : SYard) : Prop where
  high : y.High = H
  len : y.Stacks.length = m
  each : ∀ k, k < m → ((stk y k).length : Int) ≤ H
theorem YFits.w {m : Nat} {H : Int} {y : SYard} (h : YFits m H y) (hm : m ≤ 12) (hh : H ≤ 6) : w_SYard y ≤ 84 := by
  have hl := h.len
  have h1 : sumOf (fun z => w_LInt z) y.Stacks ≤ 6 * y.Stacks.length := sumOf_bound _ fun x hx => by
    obtain ⟨k, hk, rfl⟩ := List.getElem_of_mem hx
    have := h.each k (by omega)
    have e : stk y k = y.Stacks[k] := getD_eq hk
    rw [e] at this
    show y.Stacks[k].length ≤ 6
    omega
  have h2 : w_SYard y = y.Stacks.length + sumOf (fun z => w_LInt z) y.Stacks := rfl
  omega
theorem yFitsY {y : SYard} (h : YOk y) : YFits y.Stacks.length y.High y := ⟨rfl, rfl, h.each⟩
theorem set_fits {y : SYard} (h : YOk y) {k : Nat} {l : List Int} (hl : (l.length : Int) ≤ y.High) : YFits y.Stacks.length y.High ⟨y.High, y.Stacks.set k l⟩ := by
  refine ⟨rfl, by simp, fun j hj => ?_⟩
  show (((y.Stacks.set k l).getD j []).length : Int) ≤ _
  by_cases e : j = k
  · subst e
    rw [getD_set hj]
    exact hl
  · rw [getD_set_ne e]
    exact h.each j hj
theorem move_fits {y : SYard} (h : YOk y) {f t : Nat} (hf : f < y.Stacks.length) (ht : t < y.Stacks.length) (hne : f ≠ t) (hlow : ((y.Stacks.getD t []).length : Int) < y.High) : YFits y.Stacks.length y.High ⟨y.High, moveB y.Stacks f t⟩ := by
  refine ⟨rfl, moveB_len _ _ _, fun j hj => ?_⟩
  show (((moveB y.Stacks f t).getD j []).length : Int) ≤ _
  unfold moveB
  by_cases e : j = f
  · subst e
    rw [getD_set (by simpa using hj), List.length_take]
    have : ((y.Stacks.getD j []).length : Int) ≤ y.High := h.each j hj
    omega
  · rw [getD_set_ne e]
    by_cases e2 : j = t
    · subst e2
      rw [getD_set hj, List.length_append, List.length_singleton]
      omega
    · rw [getD_set_ne e2]
      exact h.each j hj
theorem out_fits {y : SYard} (h : YOk y) {s t : Nat} (hs : s < y.Stacks.length) (ht : t < (stk y s).length) : YFits y.Stacks.length y.High (outY y s t).1 := by
  unfold outY
  cases ho : outR y.High s ((stk y s).length - 1 - t) y.Stacks with
  | none => exact yFitsY h
  | some L =>
    have hm : Mid y.Stacks.length s t ((stk y s).length - 1 - t) y.High y.Stacks := ⟨rfl, by show (stk y s).length = _; omega, h.each⟩
    have hM := outR_mid hs hm ho
    have hl := hM.len
    refine ⟨rfl, by simp [hl], fun j hj => ?_⟩
    show (((L.set s ((L.getD s []).take t)).getD j []).length : Int) ≤ _
    by_cases e : j = s
    · subst e
      rw [getD_set (by omega), List.length_take]
      have := hM.each j hj
      omega
    · rw [getD_set_ne e]
      exact hM.each j hj
theorem doC_fits {y : SYard} (hy : yardB y = true) {op : SYardOp} (ho : opB y op = true) : YFits y.Stacks.length y.High (doC y op).1 := by
  obtain ⟨o1, o3⟩ := op_ok ho
  have h := yOk hy
  unfold doC
  cases h1 : decide (op.Kind = 1) with
  | true =>
    obtain ⟨k, hk, hl⟩ := o1 (of_decide_eq_true h1)
    rw [cond_true, hk, Int.toNat_natCast]
    have he := h.each k hl
    cases (findB y op.Box).2.2 with
    | true => exact yFitsY h
    | false =>
      rw [cond_false]
      cases h4 : decide (((stk y k).length : Int) = y.High) with
      | true => exact yFitsY h
      | false =>
        have h4 := of_decide_eq_false h4
        exact set_fits h (by rw [List.length_append, List.length_singleton]; omega)
  | false =>
    rw [cond_false]
    cases h3 : decide (op.Kind = 3) with
    | true =>
      obtain ⟨k, j, hk, hkl, hj, hjl, hne⟩ := o3 (of_decide_eq_true h3)
      rw [cond_true, hk, hj, Int.toNat_natCast, Int.toNat_natCast]
      have he := h.each k hkl
      cases decide (((stk y j).length : Int) = 0) with
      | true => exact yFitsY h
      | false =>
        rw [cond_false]
        cases h4 : decide (((stk y k).length : Int) = y.High) with
        | true => exact yFitsY h
        | false =>
          have h4 := of_decide_eq_false h4
          exact move_fits h hjl hkl hne (by show ((stk y k).length : Int) < y.High; omega)
    | false =>
      rw [cond_false]
      rcases findB_spec y op.Box with e | ⟨s, t, e, hs, ht⟩
      · rw [e]; exact yFitsY h
      · rw [e]; exact out_fits h hs ht
theorem doY_w {y : SYard} {op : SYardOp} {c : Nat} (h : w_SYard y ≤ c) (hc : 84 ≤ c) : w_SYard (doY y op).1 ≤ c := by
  unfold doY
  cases hy : yardB y with
  | false => exact h
  | true =>
    cases ho : opB y op with
    | false => exact h
    | true =>
      have h1 := yOk hy
      have h2 := (doC_fits hy ho).w h1.len h1.high.2
      show w_SYard (doC y op).1 ≤ c
      omega
theorem zle : (0 : Int) ≤ 0 ∧ (0 : Int) ≤ 6 := ⟨Int.le_refl _, by decide⟩
theorem doY_many {y : SYard} (op : SYardOp) : 0 ≤ (doY y op).2.1 ∧ (doY y op).2.1 ≤ 6 := by
  unfold doY
  cases hy : yardB y with
  | false => exact zle
  | true =>
    cases ho : opB y op with
    | false => exact zle
    | true =>
      show 0 ≤ (doC y op).2.1 ∧ (doC y op).2.1 ≤ 6
      unfold doC
      have h := yOk hy
      cases decide (op.Kind = 1) with
      | true =>
        rw [cond_true]
        cases (findB y op.Box).2.2 with
        | true => exact zle
        | false => cases decide (((stk y op.Stack.toNat).length : Int) = y.High) <;> exact zle
      | false =>
        rw [cond_false]
        cases decide (op.Kind = 3) with
        | true =>
          rw [cond_true]
          cases decide (((stk y op.Box.toNat).length : Int) = 0) with
          | true => exact zle
          | false => cases decide (((stk y op.Stack.toNat).length : Int) = y.High) <;> exact zle
        | false =>
          rw [cond_false]
          rcases findB_spec y op.Box with e | ⟨s, t, e, hs, ht⟩
          · rw [e]; exact zle
          · rw [e]
            show 0 ≤ (outY y s t).2.1 ∧ (outY y s t).2.1 ≤ 6
            unfold outY
            have := h.each s hs
            have := h.high.2
            cases outR y.High s ((stk y s).length - 1 - t) y.Stacks with
            | none => exact zle
            | some L => exact ⟨by simp only; omega, by simp only; omega⟩
end Go.Sm
end

section
set_option linter.unusedSimpArgs false
set_option linter.deprecated false
set_option linter.unusedSectionVars false
set_option linter.unusedVariables false
set_option linter.unusedSimpArgs false
namespace Go.Sm
attribute [local irreducible] bd chk ix loopN
def stepY (s : SYard × List Int × Int) (d : SYardOp) : SYard × List Int × Int := ((doY s.1 d).1, s.2.1 ++ [(doY s.1 d).2.2], s.2.2 + (doY s.1 d).2.1)
def runY (h : SYard) (l : List SYardOp) : SYard × List Int × Int := l.foldl stepY (h, [], 0)
theorem runY_succ (h : SYard) (l : List SYardOp) {k : Nat} (hk : k < l.length) : runY h (l.take (k + 1)) = stepY (runY h (l.take k)) (l.getD k dSYardOp) := by
  unfold runY
  rw [take_succ_getD (d := dSYardOp) hk, List.foldl_append]
  rfl
theorem runY_ok (h : SYard) (l : List SYardOp) {c : Nat} (hw : w_SYard h ≤ c) (hc : 84 ≤ c) : ∀ k, k ≤ l.length → w_SYard (runY h (l.take k)).1 ≤ c ∧ (runY h (l.take k)).2.1.length = k ∧ 0 ≤ (runY h (l.take k)).2.2 ∧ (runY h (l.take k)).2.2 ≤ 6 * (k : Int)
  | 0, _ => ⟨hw, rfl, Int.le_refl _, Int.le_refl _⟩
  | k + 1, hk => by
    obtain ⟨h1, h2, h3, h4⟩ := runY_ok h l hw hc k (by omega)
    rw [runY_succ h l (by omega)]
    obtain ⟨g1, g2⟩ := doY_many (y := (runY h (l.take k)).1) (l.getD k dSYardOp)
    unfold stepY
    exact ⟨doY_w h1 hc, by simp [h2], by dsimp only; omega, by dsimp only; omega⟩
def runsY (h : SYard) (l : List SYardOp) : SYard × List Int × Int := if l.length ≤ 200 then runY h l else (h, [], 0)
theorem runs_impl {n : Nat} (h : SYard) (l : List SYardOp) (h1 : w_SYard h ≤ 1048576) (hl : l.length ≤ 1048576) (hn : 1000000000 < n) : impl_RunYard n h l = some (runsY h l) := by
  unfold impl_RunYard runsY
  rw [own_impl h (yardSz _ (by omega)) hn, Option.bind_some]
  by_cases h200 : l.length ≤ 200
  · rw [if_pos h200, decide_eq_false (show ¬ (l.length : Int) > 200 by omega), cond_false]
    unfold impl_RunYard_k1
    refine loop_runS (S := SYard × List Int × Int) (X := Int × Int × Int × List (List Int) × List Int) (enc := fun i s => (s.2.2, i, s.1.High, s.1.Stacks, s.2.1)) (len := l.length) (I := fun k s => s = runY h (l.take k)) (Q := fun r => r = some (runY h l)) (fun k s J hk hi => ?_) (fun s J hi => ?_) (n := n) (by omega) (s0 := (h, [], 0)) rfl
    · refine ⟨runY h (l.take (k + 1)), rfl, ?_⟩
      obtain ⟨g1, g2, g3, g4⟩ := runY_ok h l h1 (by omega) k (by omega)
      subst hi
      obtain ⟨m1, m2⟩ := doY_many (y := (runY h (l.take k)).1) (l.getD k dSYardOp)
      unfold impl_RunYard_L7 impl_RunYard_k0
      have hd : impl_DoYard n (⟨(runY h (l.take k)).1.High, (runY h (l.take k)).1.Stacks⟩ : SYard) (l.getD k dSYardOp) = some (doY (runY h (l.take k)).1 (l.getD k dSYardOp)) := doY_impl _ _ (yardSz _ (by show w_SYard (runY h (l.take k)).1 ≤ _; omega)) hn
      simp only [Int.ofNat_lt, hk, decide_true, cond_true, ix_nat hk, bd_eq, Int.toNat_natCast, hd, Option.bind_some, w64_succ (show k < 9223372036854775807 by omega)]
      rw [chk_dec (by simp; omega), runY_succ h l hk, w64_id (by omega) (by omega)]
      rfl
    · unfold impl_RunYard_L7
      simp only [Int.lt_irrefl, decide_false, cond_false]
      have g := runY_ok h l h1 (by omega) l.length (Nat.le_refl _)
      rw [List.take_length] at g hi
      subst hi
      rw [ownI_impl n _ (by omega)]
      rfl
  · rw [if_neg h200, decide_eq_true (show (l.length : Int) > 200 by omega), cond_true]
theorem runsY_len (h : SYard) (l : List SYardOp) (h1 : w_SYard h ≤ 1048576) : w_SYard (runsY h l).1 ≤ 1048576 ∧ (runsY h l).2.1.length ≤ 200 := by
  unfold runsY
  by_cases h200 : l.length ≤ 200
  · rw [if_pos h200]
    have g := runY_ok h l h1 (by omega) l.length (Nat.le_refl _)
    rw [List.take_length] at g
    exact ⟨g.1, by omega⟩
  · rw [if_neg h200]; exact ⟨h1, Nat.zero_le _⟩
end Go.Sm
end

section
set_option linter.unusedSimpArgs false
set_option linter.deprecated false
set_option linter.unusedSectionVars false
set_option linter.unusedVariables false
set_option linter.unusedSimpArgs false
namespace Go.Sm
attribute [local irreducible] bd chk ix loopN
def hasB (l : List Int) (x : Int) : Bool := (List.range l.length).any fun k => decide (l.getD k 0 = x)
theorem contains_impl {n : Nat} (l : List Int) (x : Int) (hl : l.length ≤ 100000000) (hn : 1000000000 < n) : slices_Contains_int_int n l x = some (hasB l x) := by
  unfold slices_Contains_int_int slices_Index_int_int hasB
  rw [loop_idx (p := fun k => decide (l.getD k 0 = x)) (len := l.length) (by omega) (fun k J h _ => ?_) (fun J _ => ?_) (by omega)]
  · rw [Option.bind_some, idxOf_ge]
  · unfold slices_Index_int_int_L2
    simp only [Int.ofNat_lt, h, decide_true, cond_true, ix_nat h, Int.toNat_natCast, w64_succ (show k < 9223372036854775807 by omega)]
    rw [show decide (x = l.getD k 0) = decide (l.getD k 0 = x) from by simp only [decide_eq_decide]; exact ⟨Eq.symm, Eq.symm⟩]
  · unfold slices_Index_int_int_L2
    simp only [Int.lt_irrefl, decide_false, cond_false]
abbrev rad (l : List SRadio) (i : Nat) : SRadio := l.getD i dSRadio
abbrev hrs (l : List SRadio) (i k : Nat) : Int := (rad l i).Hears.getD k 0
def inB (l : List SRadio) (x : Int) : Bool := decide (0 ≤ x ∧ x ≤ w64 ((l.length : Int) - 1))
def hearB (l : List SRadio) (i k : Nat) : Bool := inB l (hrs l i k) && (!decide (hrs l i k = (i : Int)) && ((decide (k = 0) || !decide (hrs l i (k - 1) ≥ hrs l i k)) && hasB (rad l (hrs l i k).toNat).Hears (i : Int)))
def radioB (l : List SRadio) (i : Nat) : Bool := decide (1 ≤ (rad l i).Id ∧ (rad l i).Id ≤ 999999999) && ((decide (i = 0) || !decide ((rad l (i - 1)).Id ≥ (rad l i).Id)) && (decide (0 ≤ (rad l i).Slot ∧ (rad l i).Slot ≤ 19) && (List.range (rad l i).Hears.length).all (hearB l i)))
def radiosB (l : List SRadio) : Bool := decide (1 ≤ (l.length : Int) ∧ (l.length : Int) ≤ 24) && (List.range l.length).all (radioB l)
theorem in_lt {l : List SRadio} {x : Int} (hl : 1 ≤ (l.length : Int) ∧ (l.length : Int) ≤ 24) (h : inB l x = true) : 0 ≤ x ∧ x < (l.length : Int) := by
  have := of_decide_eq_true h
  rw [w64_id (by omega) (by omega)] at this
  omega
structure RSz (l : List SRadio) : Prop where
  len : l.length ≤ 1048576
  each : ∀ i, (rad l i).Hears.length ≤ 1048576
theorem rSz {l : List SRadio} (h : w_LSRadio l ≤ 1048576) : RSz l := by
  have h1 : w_LSRadio l = l.length + sumOf (fun y => w_SRadio y) l := rfl
  refine ⟨by omega, fun i => ?_⟩
  by_cases hi : i < l.length
  · have s := sumOf_mem (f := fun y => w_SRadio y) (d := dSRadio) hi
    have h2 : w_SRadio (l.getD i dSRadio) = (rad l i).Hears.length := rfl
    try simp only at s
    omega
  · have : rad l i = dSRadio := by simp [rad, List.getD, List.getElem?_eq_none (Nat.le_of_not_lt hi)]
    rw [this]
    exact Nat.zero_le _
theorem hears_impl {R : Type} {n : Nat} (kx : Option R) (kxr : Bool → Option R) (l : List SRadio) (t26 : List SRadio) (t27 t28 : Int) (i : Nat) (hl : 1 ≤ (l.length : Int) ∧ (l.length : Int) ≤ 24) (hz : RSz l) (hn : 1000000000 < n) :
    loopN (fun (x : Int) J' => impl_RadiosOk_L9 n kx (fun t => kxr t) J' l (i : Int) t26 t27 t28 (rad l i).Hears ((rad l i).Hears.length : Int) x (rad l i)) n (0 : Int) = bif (List.range (rad l i).Hears.length).all (hearB l i) then kx else kxr false := by
  have h1 := hz.each i
  rw [loop_all (p := hearB l i) (len := (rad l i).Hears.length) (no := kxr false) (yes := kx) (by omega) (fun k J h _ => ?_) (fun J _ => ?_) (by omega)]
  · unfold impl_RadiosOk_L9 impl_RadiosOk_k0 hearB
    have eo : decide (0 ≤ (rad l i).Hears.getD k 0 ∧ (rad l i).Hears.getD k 0 ≤ w64 ((l.length : Int) - 1)) = inB l (hrs l i k) := rfl
    simp only [Int.ofNat_lt, h, decide_true, cond_true, ix_nat h, Int.toNat_natCast, bd_eq, in_impl, Option.bind_some, eo]
    cases ho : inB l (hrs l i k) with
    | false => rfl
    | true =>
      obtain ⟨g0, g1⟩ := in_lt hl ho
      have g2 := hz.each (hrs l i k).toNat
      simp only [Bool.not_true, cond_false, Bool.true_and, ix_of g0 g1, contains_impl _ _ (show (rad l (hrs l i k).toNat).Hears.length ≤ 100000000 by omega) hn, Option.bind_some]
      cases k with
      | zero =>
        simp only [show ¬ ((0 : Nat) : Int) > 0 by omega, decide_false, cond_false, decide_true, Bool.true_or, Bool.true_and, w64_succ (show 0 < 9223372036854775807 by omega), bif_not, bif_and', bif_or', Bool.not_not]
      | succ k =>
        have e3 : w64 (((k + 1 : Nat) : Int) - 1) = (k : Int) := by rw [w64_id (by omega) (by omega)]; omega
        simp only [show ((k + 1 : Nat) : Int) > 0 by omega, decide_true, cond_true, e3, ix_nat (show k < (rad l i).Hears.length by omega), Int.toNat_natCast, decide_false, Nat.succ_ne_zero, Nat.add_sub_cancel, Bool.false_or, w64_succ (show k + 1 < 9223372036854775807 by omega), bif_not, bif_and', bif_or', Bool.not_not]
  · unfold impl_RadiosOk_L9
    simp only [Int.lt_irrefl, decide_false, cond_false]
theorem id_impl (n : Nat) (x : Int) : impl_idOk n x = some (decide (1 ≤ x ∧ x ≤ 999999999)) := by
  unfold impl_idOk
  rw [in_impl]; rfl
theorem slot_impl (n : Nat) (x : Int) : impl_slotOk n x = some (decide (0 ≤ x ∧ x ≤ 19)) := by
  unfold impl_slotOk
  rw [in_impl]; rfl
theorem radios_impl {n : Nat} (l : List SRadio) (hz : RSz l) (hn : 1000000000 < n) : impl_RadiosOk n l = some (radiosB l) := by
  have hlen := hz.len
  unfold impl_RadiosOk radiosB
  rw [in_impl, Option.bind_some]
  by_cases hl : 1 ≤ (l.length : Int) ∧ (l.length : Int) ≤ 24
  · rw [decide_eq_true hl]
    simp only [Bool.not_true, cond_false, Bool.true_and]
    rw [loop_all (p := radioB l) (len := l.length) (no := some false) (yes := some true) (by omega) (fun k J h _ => ?_) (fun J _ => ?_) (by omega)]
    · rw [bif_tf]
    · have hh := fun kx t26 t27 t28 => hears_impl (n := n) kx (fun t => some t) l t26 t27 t28 k hl hz hn
      unfold impl_RadiosOk_L4 impl_RadiosOk_k1 radioB
      cases k with
      | zero =>
        simp only [Int.ofNat_lt, h, decide_true, cond_true, ix_nat h, bd_eq, Int.toNat_natCast, id_impl, slot_impl, Option.bind_some, w64_succ (show 0 < 9223372036854775807 by omega), show ¬ ((0 : Nat) : Int) > 0 by omega, decide_false, cond_false, hh, Bool.true_or, Bool.true_and, bif_not, bif_and', bif_or', Bool.not_not, Bool.and_assoc]
      | succ k =>
        have e3 : w64 (((k + 1 : Nat) : Int) - 1) = (k : Int) := by rw [w64_id (by omega) (by omega)]; omega
        simp only [Int.ofNat_lt, h, decide_true, cond_true, ix_nat h, bd_eq, Int.toNat_natCast, id_impl, slot_impl, Option.bind_some, w64_succ (show k + 1 < 9223372036854775807 by omega), show ((k + 1 : Nat) : Int) > 0 by omega, e3, ix_nat (show k < l.length by omega), hh, decide_false, Nat.succ_ne_zero, Nat.add_sub_cancel, Bool.false_or, bif_not, bif_and', bif_or', Bool.not_not, Bool.and_assoc]
    · unfold impl_RadiosOk_L4
      simp only [Int.lt_irrefl, decide_false, cond_false]
  · rw [decide_eq_false hl]; rfl
/-- What a good list of radios gives. -/
theorem radios_good {l : List SRadio} (h : radiosB l = true) : (1 ≤ (l.length : Int) ∧ (l.length : Int) ≤ 24) ∧ (∀ i, i < l.length → 0 ≤ (rad l i).Slot ∧ (rad l i).Slot ≤ 19) ∧ ∀ i k, i < l.length → k < (rad l i).Hears.length → 0 ≤ hrs l i k ∧ hrs l i k < (l.length : Int) := by
  unfold radiosB at h
  rw [Bool.and_eq_true] at h
  have h1 := of_decide_eq_true h.1
  have h2 := List.all_eq_true.1 h.2
  refine ⟨h1, fun i hi => ?_, fun i k hi hk => ?_⟩
  · have h3 := h2 i (List.mem_range.2 hi)
    unfold radioB at h3
    rw [Bool.and_eq_true, Bool.and_eq_true, Bool.and_eq_true] at h3
    exact of_decide_eq_true h3.2.2.1
  · have h3 := h2 i (List.mem_range.2 hi)
    unfold radioB at h3
    rw [Bool.and_eq_true, Bool.and_eq_true, Bool.and_eq_true] at h3
    have h4 := List.all_eq_true.1 h3.2.2.2 k (List.mem_range.2 hk)
    unfold hearB at h4
    rw [Bool.and_eq_true] at h4
    exact in_lt h1 h4.1
def hitAt (l : List SRadio) (i k : Nat) : Bool := decide ((rad l (hrs l i k).toNat).Slot = (rad l i).Slot)
def hitB (l : List SRadio) (i : Nat) : Bool := (List.range (rad l i).Hears.length).any (hitAt l i)
def clashK (l : List SRadio) (k : Nat) : List Int := ((List.range k).filter (hitB l)).map fun (j : Nat) => (j : Int)
def clashB (l : List SRadio) : List Int := bif radiosB l then clashK l l.length else []
theorem clashK_succ (l : List SRadio) (k : Nat) : clashK l (k + 1) = bif hitB l k then clashK l k ++ [(k : Int)] else clashK l k := by
  unfold clashK
  rw [List.range_succ, List.filter_append, List.map_append]
  cases h : hitB l k with
  | true => simp [h]
  | false => simp [h]
theorem clashK_len (l : List SRadio) (k : Nat) : (clashK l k).length ≤ k := by
  unfold clashK
  rw [List.length_map]
  have := List.length_filter_le (hitB l) (List.range k)
  rw [List.length_range] at this
  exact this
theorem clash_head {l : List SRadio} (h : (clashB l).length ≠ 0) : radiosB l = true ∧ 0 < (clashB l).length ∧ ∃ i : Nat, i < l.length ∧ (clashB l).getD 0 0 = (i : Int) := by
  unfold clashB at h ⊢
  cases hr : radiosB l with
  | false => rw [hr] at h; exact absurd rfl h
  | true =>
    rw [hr] at h
    simp only [cond_true] at h ⊢
    have h2 : 0 < (clashK l l.length).length := by omega
    refine ⟨trivial, h2, ?_⟩
    have h3 := getD_mem (d := 0) h2
    unfold clashK at h3 ⊢
    obtain ⟨i, h4, h5⟩ := List.mem_map.1 h3
    exact ⟨i, List.mem_range.1 (List.mem_filter.1 h4).1, h5.symm⟩
theorem clash_len {l : List SRadio} : (clashB l).length ≤ 24 := by
  unfold clashB
  cases hr : radiosB l with
  | false => exact Nat.zero_le _
  | true =>
    have h1 := (radios_good hr).1
    have h2 := clashK_len l l.length
    show (clashK l l.length).length ≤ 24
    omega
theorem own_int {n : Nat} (l : List Int) (h : l.length ≤ 1048576) : impl_own_int_f34 n l = some l := by
  unfold impl_own_int_f34
  rw [chk_dec (by omega), chk_dec (by omega), chk_dec (by omega)]
theorem hit_impl {n : Nat} (l : List SRadio) (i : Nat) (hi : i < l.length) (hg : radiosB l = true) (hz : RSz l) (hn : 1000000000 < n) : slices_ContainsFunc_int_int__impl_Clashes_1 n (rad l i).Hears l (rad l i) = some (hitB l i) := by
  obtain ⟨g1, g2, g3⟩ := radios_good hg
  have h1 := hz.each i
  unfold slices_ContainsFunc_int_int__impl_Clashes_1 slices_IndexFunc_int_int__impl_Clashes_1
  rw [loop_idx (p := hitAt l i) (len := (rad l i).Hears.length) (by omega) (fun k J h _ => ?_) (fun J _ => ?_) (by omega)]
  · rw [Option.bind_some, idxOf_ge]; rfl
  · obtain ⟨q0, q1⟩ := g3 i k hi h
    unfold slices_IndexFunc_int_int__impl_Clashes_1_L2 impl_Clashes_1
    simp only [Int.ofNat_lt, h, decide_true, cond_true, ix_nat h, bd_eq, Int.toNat_natCast, ix_of q0 q1, Option.bind_some, w64_succ (show k < 9223372036854775807 by omega)]
    rfl
  · unfold slices_IndexFunc_int_int__impl_Clashes_1_L2
    simp only [Int.lt_irrefl, decide_false, cond_false]
theorem clash_impl {n : Nat} (l : List SRadio) (hz : RSz l) (hn : 1000000000 < n) : impl_Clashes n l = some (clashB l) := by
  have hlen := hz.len
  unfold impl_Clashes clashB
  rw [radios_impl l hz hn, Option.bind_some]
  cases hg : radiosB l with
  | false => rfl
  | true =>
    have g1 := (radios_good hg).1
    simp only [Bool.not_true, cond_false, cond_true]
    refine loop_runS (S := List Int) (X := Int × List Int) (enc := fun k s => (k, s)) (len := l.length) (I := fun k s => s = clashK l k) (Q := fun r => r = some (clashK l l.length)) (fun k s J h hi2 => ?_) (fun s J hi2 => ?_) (by omega) (s0 := []) rfl
    · refine ⟨clashK l (k + 1), rfl, ?_⟩
      have hh := hit_impl (n := n) l k h hg hz hn
      have hc := clashK_len l k
      show impl_Clashes_L5 n _ _ l (l.length : Int) (k : Int) l s = _
      unfold impl_Clashes_L5 impl_Clashes_k0
      simp only [Int.ofNat_lt, h, decide_true, cond_true, ix_nat h, bd_eq, Int.toNat_natCast, Option.bind_some, hh, w64_succ (show k < 9223372036854775807 by omega)]
      rw [clashK_succ]
      subst hi2
      cases hitB l k with
      | true => rw [cond_true, cond_true, chk_dec (by rw [List.length_append, List.length_singleton]; omega)]
      | false => rfl
    · have hc := clashK_len l l.length
      show impl_Clashes_L5 n _ _ l (l.length : Int) (l.length : Int) l s = _
      unfold impl_Clashes_L5
      simp only [Int.lt_irrefl, decide_false, cond_false]
      rw [hi2, own_int _ (by omega)]
      rfl
/-! ### Choose -/
def usedB (l : List SRadio) (i s : Nat) : Bool := (List.range (rad l i).Hears.length).any fun k => decide ((rad l (hrs l i k).toNat).Slot = (s : Int))
def freeK (l : List SRadio) (i k : Nat) : List Int := ((List.range k).filter fun s => !usedB l i s).map fun (j : Nat) => (j : Int)
theorem freeK_succ (l : List SRadio) (i k : Nat) : freeK l i (k + 1) = bif !usedB l i k then freeK l i k ++ [(k : Int)] else freeK l i k := by
  unfold freeK
  rw [List.range_succ, List.filter_append, List.map_append]
  cases h : usedB l i k with
  | true => simp [h]
  | false => simp [h]
theorem freeK_len (l : List SRadio) (i k : Nat) : (freeK l i k).length ≤ k := by
  unfold freeK
  rw [List.length_map]
  have := List.length_filter_le (fun s => !usedB l i s) (List.range k)
  rw [List.length_range] at this
  exact this
def pick (free : List Int) (slot coin : Int) : Int × Bool := bif decide (free.length = 0) then (slot, false) else (free.getD (Int.tmod coin (free.length : Int)).toNat 0, true)
def chooseB (l : List SRadio) (at1 coin : Int) : Int × Bool := bif radiosB l && (inB l at1 && !decide (coin < 0)) then pick (freeK l at1.toNat 20) (rad l at1.toNat).Slot coin else (-1, false)
theorem pick_ok {free : List Int} {slot : Int} {e : Option (Int × Bool)} {coin : Int} (hf : free.length ≤ 24) (hc : ¬ coin < 0) (he : e = some (slot, false)) :
    (bif (decide ((free.length : Int) = (0 : Int))) then e else (bif decide ((free.length : Int) = 0) then none else (bd (Int.tmod coin (free.length : Int)) fun (v37 : Int) => ix v37 free.length (chk (decide (v37.toNat < free.length)) (some ((free.getD v37.toNat (0 : Int)), true)))))) = some (pick free slot coin) := by
  unfold pick
  by_cases h : free.length = 0
  · rw [decide_eq_true (show (free.length : Int) = 0 by omega), decide_eq_true h, cond_true, cond_true]
    exact he
  · rw [decide_eq_false (show ¬ (free.length : Int) = 0 by omega), decide_eq_false h, cond_false, cond_false, cond_false, bd_eq]
    have h1 := Int.tmod_nonneg (a := coin) (free.length : Int) (by omega)
    have h2 := Int.tmod_lt_of_pos coin (show (0 : Int) < (free.length : Int) by omega)
    rw [ix_of h1 h2, chk_dec (by omega)]
theorem taken_set {t : List Bool} {s : Nat} {x : Int} (h0 : 0 ≤ x) (h1 : x.toNat < t.length) : (t.set x.toNat true).getD s false = (t.getD s false || decide (x = (s : Int))) := by
  by_cases e : x = (s : Int)
  · subst e
    rw [decide_eq_true rfl, Bool.or_true]
    simp only [Int.toNat_natCast] at h1 ⊢
    simp [List.getD, h1]
  · rw [decide_eq_false e, Bool.or_false]
    have : x.toNat ≠ s := by omega
    simp [List.getD, List.getElem?_set, this]
theorem getD_rep (m s : Nat) : (List.replicate m false).getD s false = false := by
  by_cases h : s < m
  · rw [getD_eq (by rw [List.length_replicate]; exact h), List.getElem_replicate]
  · rw [List.getD, List.getElem?_eq_none (by rw [List.length_replicate]; omega)]; rfl
theorem used_impl {n : Nat} (l : List SRadio) (i s : Nat) (hi : i < l.length) (hg : radiosB l = true) (hz : RSz l) (hn : 1000000000 < n) : slices_ContainsFunc_int_int__impl_Choose_1 n (rad l i).Hears l (s : Int) = some (usedB l i s) := by
  obtain ⟨g1, g2, g3⟩ := radios_good hg
  have h1 := hz.each i
  unfold slices_ContainsFunc_int_int__impl_Choose_1 slices_IndexFunc_int_int__impl_Choose_1
  rw [loop_idx (p := fun k => decide ((rad l (hrs l i k).toNat).Slot = (s : Int))) (len := (rad l i).Hears.length) (by omega) (fun k J h _ => ?_) (fun J _ => ?_) (by omega)]
  · rw [Option.bind_some, idxOf_ge]; rfl
  · obtain ⟨q0, q1⟩ := g3 i k hi h
    unfold slices_IndexFunc_int_int__impl_Choose_1_L2 impl_Choose_1
    simp only [Int.ofNat_lt, h, decide_true, cond_true, ix_nat h, bd_eq, Int.toNat_natCast, ix_of q0 q1, Option.bind_some, w64_succ (show k < 9223372036854775807 by omega)]
  · unfold slices_IndexFunc_int_int__impl_Choose_1_L2
    simp only [Int.lt_irrefl, decide_false, cond_false]
theorem choose_impl {n : Nat} (l : List SRadio) (at1 coin : Int) (hz : RSz l) (hn : 1000000000 < n) : impl_Choose n l at1 coin = some (chooseB l at1 coin) := by
  unfold impl_Choose chooseB
  rw [radios_impl l hz hn, Option.bind_some]
  cases hg : radiosB l with
  | false => rfl
  | true =>
    obtain ⟨g1, g2, g3⟩ := radios_good hg
    have eo : decide (0 ≤ at1 ∧ at1 ≤ w64 ((l.length : Int) - 1)) = inB l at1 := rfl
    simp only [Bool.not_true, cond_false, Bool.true_and, in_impl, bd_eq, Option.bind_some, eo]
    cases ho : inB l at1 with
    | false => rfl
    | true =>
      simp only [Bool.not_true, cond_false, Bool.true_and]
      by_cases hc : coin < 0
      · rw [decide_eq_true hc]; rfl
      · rw [decide_eq_false hc]
        simp only [cond_false, Bool.not_false, cond_true]
        obtain ⟨q0, q1⟩ := in_lt g1 ho
        obtain ⟨i, rfl⟩ : ∃ i : Nat, at1 = (i : Int) := ⟨at1.toNat, by omega⟩
        have hi : i < l.length := by omega
        have h1 := hz.each i
        unfold impl_Choose_k1
        simp only [Int.toNat_natCast]
        refine loop_runS (S := List Int) (X := Int × List Int) (enc := fun k s => (k, s)) (len := 20) (I := fun k s => s = freeK l i k)
            (Q := fun r => r = some (pick (freeK l i 20) (rad l i).Slot coin)) (fun k s J2 h hi5 => ?_) (fun s J2 hi5 => ?_) (by omega) (s0 := []) rfl
        · refine ⟨freeK l i (k + 1), rfl, ?_⟩
          have hf := freeK_len l i k
          have hu := used_impl (n := n) l i k hi hg hz hn
          show impl_Choose_L5 n _ _ (i : Int) coin (k : Int) l s = _
          unfold impl_Choose_L5 impl_Choose_k0
          simp only [decide_eq_true (show (k : Int) < 20 by omega), cond_true, ix_nat hi, Int.toNat_natCast, bd_eq, hu, Option.bind_some, w64_succ (show k < 9223372036854775807 by omega)]
          rw [freeK_succ]
          subst hi5
          cases usedB l i k with
          | false => rw [Bool.not_false, cond_true, cond_true, chk_dec (by rw [List.length_append, List.length_singleton]; omega)]
          | true => rfl
        · have hf := freeK_len l i 20
          show impl_Choose_L5 n _ _ (i : Int) coin (20 : Int) l s = _
          unfold impl_Choose_L5
          subst hi5
          simp only [Int.lt_irrefl, decide_false, cond_false]
          refine pick_ok (free := freeK l i 20) (by omega) hc ?_
          rw [ix_nat hi, bd_eq]
end Go.Sm
end

section
set_option linter.unusedSimpArgs false
set_option linter.deprecated false
set_option linter.unusedSectionVars false
set_option linter.unusedVariables false
set_option linter.unusedSimpArgs false
namespace Go.Sm
attribute [local irreducible] bd chk ix loopN
def setSlot (l : List SRadio) (i : Nat) (s : Int) : List SRadio := l.set i ⟨(rad l i).Id, s, (rad l i).Hears⟩
theorem sumOf_set {α : Type} {f : α → Nat} {d : α} : ∀ (l : List α) (i : Nat) (x : α), i < l.length → f x = f (l.getD i d) → sumOf f (l.set i x) = sumOf f l
  | [], _, _, h, _ => absurd h (Nat.not_lt_zero _)
  | a :: l, 0, x, _, e => by
    have e : f x = f a := e
    show f x + sumOf f l = f a + sumOf f l
    rw [e]
  | a :: l, i + 1, x, h, e => by
    show f a + sumOf f (l.set i x) = f a + sumOf f l
    rw [sumOf_set (d := d) l i x (Nat.lt_of_succ_lt_succ h) e]
theorem setSlot_w (l : List SRadio) {i : Nat} (s : Int) (hi : i < l.length) : w_LSRadio (setSlot l i s) = w_LSRadio l := by
  show (setSlot l i s).length + sumOf (fun y => w_SRadio y) (setSlot l i s) = l.length + sumOf (fun y => w_SRadio y) l
  unfold setSlot
  rw [List.length_set, sumOf_set (f := fun y => w_SRadio y) (d := dSRadio) l i ⟨(rad l i).Id, s, (rad l i).Hears⟩ hi rfl]
def settleR (coins : List Int) : Nat → Nat → List SRadio → List SRadio × Int × Bool
  | 0, k, out => (out, (k : Int), decide (((clashB out).length : Int) = 0))
  | m + 1, k, out => bif decide (((clashB out).length : Int) = 0) then (out, (k : Int), true) else
    bif !(chooseB out ((clashB out).getD 0 0) (coins.getD k 0)).2 then (out, (k : Int), false) else
    settleR coins m (k + 1) (setSlot out ((clashB out).getD 0 0).toNat (chooseB out ((clashB out).getD 0 0) (coins.getD k 0)).1)
theorem settleR_w (coins : List Int) : ∀ m k out, w_LSRadio (settleR coins m k out).1 = w_LSRadio out
  | 0, _, _ => rfl
  | m + 1, k, out => by
    unfold settleR
    by_cases h : ((clashB out).length : Int) = 0
    · rw [decide_eq_true h]; rfl
    · rw [decide_eq_false h]
      obtain ⟨h1, h2, i, h3, h4⟩ := clash_head (l := out) (by omega)
      simp only [cond_false]
      cases (chooseB out ((clashB out).getD 0 0) (coins.getD k 0)).2 with
      | false => rfl
      | true =>
        simp only [Bool.not_true, cond_false]
        rw [settleR_w coins m, h4, Int.toNat_natCast, setSlot_w out _ h3]
theorem step_impl {n : Nat} (coins : List Int) (hc : coins.length ≤ 1048576) (hn : 1000000000 < n) (J : Int → (List SRadio) × Nat → Option (List SRadio × Int × Bool)) (k : Nat) (out : List SRadio) (hle : k ≤ coins.length) (hw : w_LSRadio out ≤ 1048576) :
    impl_Settle_L10 n (fun t51 t52 t53 => chk (decide (t53.1.length ≤ t53.2)) (some (t53.1, t51, t52))) J coins (k : Int) (out, out.length) =
      bif decide (((clashB out).length : Int) = 0) then some (out, (k : Int), true) else
      bif decide (k = coins.length) then some (out, (k : Int), false) else
      bif !(chooseB out ((clashB out).getD 0 0) (coins.getD k 0)).2 then some (out, (k : Int), false) else
      J ((k + 1 : Nat) : Int) (setSlot out ((clashB out).getD 0 0).toNat (chooseB out ((clashB out).getD 0 0) (coins.getD k 0)).1, out.length) := by
  unfold impl_Settle_L10
  simp only [clash_impl out (rSz hw) hn, Option.bind_some, chk_dec (Nat.le_refl out.length)]
  by_cases h : ((clashB out).length : Int) = 0
  · rw [decide_eq_true h]; rfl
  · rw [decide_eq_false h]
    by_cases hk : k = coins.length
    · rw [decide_eq_true hk, decide_eq_true (show (k : Int) = (coins.length : Int) by omega)]; rfl
    · rw [decide_eq_false hk, decide_eq_false (show ¬ (k : Int) = (coins.length : Int) by omega)]
      have hlt : k < coins.length := by omega
      obtain ⟨h1, h2, i, h3, h4⟩ := clash_head (l := out) (by omega)
      unfold impl_Settle_k2
      simp only [cond_false, ix_of (Int.le_refl 0) (show (0 : Int) < ((clashB out).length : Int) by omega), chk_dec h2, ix_nat hlt, h4, Int.toNat_natCast, choose_impl out _ _ (rSz hw) hn, Option.bind_some]
      cases (chooseB out (i : Int) (coins.getD k 0)).2 with
      | false =>
        simp only [Bool.not_false, cond_true, chk_dec (Nat.le_refl out.length)]
      | true =>
        unfold impl_Settle_k1
        simp only [Bool.not_true, cond_false, ix_of (Int.le_refl 0) (show (0 : Int) < ((clashB out).length : Int) by omega), chk_dec h2, h4, ix_nat h3, Int.toNat_natCast, chk_dec h3, bd_eq, w64_succ (show k < 9223372036854775807 by omega)]
        rfl
theorem go_impl {n : Nat} (coins : List Int) (hc : coins.length ≤ 1048576) (hn : 1000000000 < n) : ∀ m k out f, k + m = coins.length → m < f → w_LSRadio out ≤ 1048576 → ∀ c, c = out.length →
    loopN (fun (x : Int × ((List SRadio) × Nat)) J' => impl_Settle_L10 n (fun t51 t52 t53 => chk (decide (t53.1.length ≤ t53.2)) (some (t53.1, t51, t52))) (fun used54 l55 => J' (used54, l55)) coins x.1 x.2) f ((k : Int), (out, c)) = some (settleR coins m k out)
  | m, k, out, 0, _, h, _ => absurd h (Nat.not_lt_zero _)
  | 0, k, out, f + 1, hk, _, hw => by
    rintro c rfl
    rw [loopN_succ]
    refine (step_impl coins hc hn _ k out (by omega) hw).trans ?_
    unfold settleR
    rw [decide_eq_true (show k = coins.length by omega)]
    cases decide (((clashB out).length : Int) = 0) <;> rfl
  | m + 1, k, out, f + 1, hk, hf, hw => by
    rintro c rfl
    rw [loopN_succ]
    refine (step_impl coins hc hn _ k out (by omega) hw).trans ?_
    unfold settleR
    rw [decide_eq_false (show ¬ k = coins.length by omega)]
    by_cases h : ((clashB out).length : Int) = 0
    · rw [decide_eq_true h]; rfl
    · rw [decide_eq_false h]
      obtain ⟨h1, h2, i, h3, h4⟩ := clash_head (l := out) (by omega)
      rw [h4, Int.toNat_natCast]
      have hi := go_impl coins hc hn m (k + 1) (setSlot out i (chooseB out (i : Int) (coins.getD k 0)).1) f (by omega) (by omega) (by rw [setSlot_w out _ h3]; exact hw) out.length (by simp [setSlot])
      cases (chooseB out (i : Int) (coins.getD k 0)).2 with
      | false => rfl
      | true => exact hi
def settleB (l : List SRadio) (coins : List Int) : List SRadio × Int × Bool :=
  bif radiosB l && (!decide ((coins.length : Int) > 200) && (List.range coins.length).all fun k => !decide (coins.getD k 0 < 0)) then settleR coins coins.length 0 l else ([], 0, false)
theorem settleB_w (l : List SRadio) (coins : List Int) (h : w_LSRadio l ≤ 1048576) : w_LSRadio (settleB l coins).1 ≤ 1048576 := by
  unfold settleB
  cases radiosB l && (!decide ((coins.length : Int) > 200) && (List.range coins.length).all fun k => !decide (coins.getD k 0 < 0)) with
  | true => rw [cond_true, settleR_w]; exact h
  | false => exact Nat.zero_le _
theorem all_impl {n : Nat} (l : List Int) (hl : l.length ≤ 1048576) (hn : 1000000000 < n) : slices_ContainsFunc_int_int__impl_Settle_1 n l = some (!(List.range l.length).all fun k => !decide (l.getD k 0 < 0)) := by
  unfold slices_ContainsFunc_int_int__impl_Settle_1 slices_IndexFunc_int_int__impl_Settle_1
  rw [loop_idx (p := fun k => decide (l.getD k 0 < 0)) (len := l.length) (by omega) (fun k J h _ => ?_) (fun J _ => ?_) (by omega)]
  · rw [Option.bind_some, idxOf_ge, List.not_all_eq_any_not]
    simp only [Bool.not_not]
  · unfold slices_IndexFunc_int_int__impl_Settle_1_L2 impl_Settle_1
    simp only [Int.ofNat_lt, h, decide_true, cond_true, ix_nat h, Int.toNat_natCast, Option.bind_some, w64_succ (show k < 9223372036854775807 by omega)]
  · unfold slices_IndexFunc_int_int__impl_Settle_1_L2
    simp only [Int.lt_irrefl, decide_false, cond_false]
theorem set_self (l : List SRadio) {i : Nat} (h : i < l.length) : l.set i ⟨(l.getD i dSRadio).Id, (l.getD i dSRadio).Slot, (l.getD i dSRadio).Hears⟩ = l := by
  rw [getD_eq h]
  exact List.set_getElem_self h
theorem settle_impl {n : Nat} (l : List SRadio) (coins : List Int) (hw : w_LSRadio l ≤ 1048576) (hc : coins.length ≤ 1048576) (hn : 1000000000 < n) : impl_Settle n l coins = some (settleB l coins) := by
  have hz := rSz hw
  have hlen := hz.len
  unfold impl_Settle settleB
  rw [radios_impl l hz hn, Option.bind_some, all_impl coins hc hn, Option.bind_some]
  cases radiosB l with
  | false => rfl
  | true =>
    cases decide ((coins.length : Int) > 200) with
    | true => rfl
    | false =>
      cases (List.range coins.length).all fun k => !decide (coins.getD k 0 < 0) with
      | false => rfl
      | true =>
        simp only [Bool.not_true, Bool.not_false, Bool.and_true, cond_true, cond_false]
        unfold impl_Settle_k3 impl_own_impl_Radio
        rw [chk_dec (by omega), chk_dec (by omega), chk_dec (by omega), Option.bind_some]
        refine loop_runS (S := Nat) (X := Int × (List SRadio × Nat)) (enc := fun k s => (k, (l, s))) (len := l.length) (I := fun k s => s = k) (Q := fun r => r = some (settleR coins coins.length 0 l)) (fun k s J h hi => ?_) (fun s J hi => ?_) (by omega) (s0 := 0) rfl
        · refine ⟨k + 1, rfl, ?_⟩
          subst hi
          have he : (l.getD s dSRadio).Hears.length ≤ 1048576 := hz.each s
          show impl_Settle_L5 n _ _ coins (l.length : Int) (s : Int) (l, s) = _
          unfold impl_Settle_L5 impl_Settle_k0
          simp only [Int.ofNat_lt, h, decide_true, cond_true, ix_nat h, Int.toNat_natCast, chk_dec h, Nat.lt_irrefl, decide_false, cond_false, own_int _ he, Option.bind_some, bd_eq, set_self l h, chk_true, w64_succ (show s < 9223372036854775807 by omega)]
        · subst hi
          show impl_Settle_L5 n _ _ coins (l.length : Int) (l.length : Int) (l, l.length) = _
          unfold impl_Settle_L5
          simp only [Int.lt_irrefl, decide_false, cond_false]
          exact go_impl coins hc hn coins.length 0 l n (by omega) (by omega) hw l.length rfl
end Go.Sm
end

section
set_option linter.unusedSimpArgs false
set_option linter.deprecated false
set_option linter.unusedSectionVars false
set_option linter.unusedVariables false
set_option linter.unusedSimpArgs false
namespace Go.Sm
attribute [local irreducible] bd chk ix loopN
/-! ### Draws -/
structure CurOk (c : Sl1Cur) : Prop where
  i : 0 ≤ c.i ∧ c.i ≤ (c.b.length : Int)
  len : c.b.length ≤ 1048576
theorem and255 (v : Int) : 0 ≤ w64 (((BitVec.ofInt 64 v &&& BitVec.ofInt 64 (255 : Int)).toNat : Nat) : Int) ∧ w64 (((BitVec.ofInt 64 v &&& BitVec.ofInt 64 (255 : Int)).toNat : Nat) : Int) ≤ 255 := by
  have h : (BitVec.ofInt 64 v &&& BitVec.ofInt 64 (255 : Int)).toNat ≤ 255 := by
    rw [BitVec.toNat_and]
    exact Nat.and_le_right
  rw [w64_id (by omega) (by omega)]
  omega
theorem byte_ok {n : Nat} {c : Sl1Cur} (h : CurOk c) : ∃ v c', spec_l1Byte n c = some (v, c') ∧ (0 ≤ v ∧ v ≤ 255) ∧ CurOk c' := by
  have h1 := h.i
  have h2 := h.len
  unfold spec_l1Byte
  simp only [bd_eq]
  by_cases hc : c.i < (c.b.length : Int)
  · rw [decide_eq_true hc, cond_true, ix_of h1.1 hc]
    refine ⟨_, _, rfl, and255 _, ⟨?_, h2⟩⟩
    show 0 ≤ w64 (c.i + 1) ∧ w64 (c.i + 1) ≤ (c.b.length : Int)
    rw [w64_id (by omega) (by omega)]
    omega
  · rw [decide_eq_false hc, cond_false]
    exact ⟨_, _, rfl, and255 _, ⟨h1, h2⟩⟩
theorem below_ok {n : Nat} {c : Sl1Cur} (h : CurOk c) {m : Int} (hm : 1 ≤ m ∧ m ≤ 256) : ∃ v c', spec_l1Below n c m = some (v, c') ∧ (0 ≤ v ∧ v < m) ∧ CurOk c' := by
  obtain ⟨v, c', h1, h2, h3⟩ := byte_ok (n := n) h
  unfold spec_l1Below
  rw [decide_eq_false (show ¬ m ≤ 0 by omega), cond_false, decide_eq_true (show m ≤ 256 by omega), cond_true, h1, Option.bind_some, decide_eq_false (show ¬ m = 0 by omega), cond_false]
  exact ⟨_, _, rfl, ⟨Int.tmod_nonneg _ h2.1, Int.tmod_lt_of_pos _ (by omega)⟩, h3⟩
theorem new_ok {n : Nat} (code : List Int) (hc : code.length ≤ 1048576) (hn : 1000000000 < n) : ∃ c, spec_l1New n code = some c ∧ CurOk c := by
  have hw : w64 ((59059 : Int) + (code.length : Int)) = 59059 + (code.length : Int) := w64_id (by omega) (by omega)
  unfold spec_l1New
  rw [bd_eq]
  have key : ∀ m k h fu, k + m = code.length → m < fu → ∃ c, loopN (fun (x : Int × Int) J' => spec_l1New_L3 n (fun h16 => some ((⟨code, (0 : Int), h16⟩ : Sl1Cur))) (fun h17 i18 => J' (h17, i18)) code x.1 x.2) fu (h, (k : Int)) = some c ∧ CurOk c := by
    intro m
    induction m with
    | zero =>
      intro k h fu hk hfu
      obtain ⟨f, rfl⟩ : ∃ f, fu = f + 1 := ⟨fu - 1, by omega⟩
      rw [loopN_succ]
      refine ⟨⟨code, 0, h⟩, ?_, ⟨by show (0 : Int) ≤ 0 ∧ (0 : Int) ≤ (code.length : Int); omega, hc⟩⟩
      show spec_l1New_L3 n _ _ code h (k : Int) = _
      unfold spec_l1New_L3
      rw [decide_eq_false (by omega), cond_false]
    | succ m ih =>
      intro k h fu hk hfu
      obtain ⟨f, rfl⟩ : ∃ f, fu = f + 1 := ⟨fu - 1, by omega⟩
      rw [loopN_succ]
      have hstep : ∀ J : Int → Int → Option Sl1Cur, ∃ h', spec_l1New_L3 n (fun h16 => some ((⟨code, (0 : Int), h16⟩ : Sl1Cur))) J code h (k : Int) = J h' ((k + 1 : Nat) : Int) ∨ spec_l1New_L3 n (fun h16 => some ((⟨code, (0 : Int), h16⟩ : Sl1Cur))) J code h (k : Int) = some ⟨code, 0, h⟩ := by
        intro J
        unfold spec_l1New_L3 spec_l1New_k0
        rw [decide_eq_true (show (k : Int) < (code.length : Int) by omega), cond_true]
        cases decide ((k : Int) < 4000) with
        | true =>
          rw [cond_true, ix_nat (by omega), bd_eq, bd_eq, w64_succ (show k < 9223372036854775807 by omega)]
          exact ⟨_, .inl rfl⟩
        | false => exact ⟨0, .inr rfl⟩
      obtain ⟨h', e | e⟩ := hstep (fun h17 i18 => loopN (fun (x : Int × Int) J' => spec_l1New_L3 n (fun h16 => some ((⟨code, (0 : Int), h16⟩ : Sl1Cur))) (fun h17 i18 => J' (h17, i18)) code x.1 x.2) f (h17, i18))
      · obtain ⟨c, g1, g2⟩ := ih (k + 1) h' f (by omega) (by omega)
        exact ⟨c, e.trans g1, g2⟩
      · exact ⟨⟨code, 0, h⟩, e, ⟨by show (0 : Int) ≤ 0 ∧ (0 : Int) ≤ (code.length : Int); omega, hc⟩⟩
  exact key code.length 0 _ n (by omega) (by omega)
theorem onceB_ok {n : Nat} {c : Sl1Cur} (h : CurOk c) {m : Int} (hm : 1 ≤ m ∧ m ≤ 256) : ∃ v c', spec_l1Once n c m = some (v, c') ∧ CurOk c' := by
  obtain ⟨v, c', h1, h2, h3⟩ := below_ok (n := n) h hm
  unfold spec_l1Once
  rw [h1, Option.bind_some]
  exact ⟨_, _, rfl, h3⟩
theorem pickIntB_ok {n : Nat} {c : Sl1Cur} (h : CurOk c) {l : List Int} (hl : 1 ≤ l.length ∧ l.length ≤ 256) : ∃ v c', spec_l1PickInt n c l = some (v, c') ∧ CurOk c' := by
  obtain ⟨v, c', h1, h2, h3⟩ := below_ok (n := n) h (m := (l.length : Int)) (by omega)
  unfold spec_l1PickInt
  rw [h1, Option.bind_some, ix_of h2.1 h2.2]
  exact ⟨_, _, rfl, h3⟩
theorem bstr_size (l : List Int) : (bstr l).size = l.length := by
  show (List.map _ l).toArray.size = _
  simp
theorem strb_length (s : ByteArray) : (strb s).length = s.size := by
  unfold strb
  rw [List.length_map]
  rfl
/-! ### The yard that is drawn -/
def GoodS (l : List Int) : Prop := l.length ≤ 4 ∧ ∀ x ∈ l, 0 ≤ x ∧ x ≤ 1000
def YL (m : Nat) (L : List (List Int)) : Prop := L.length = m ∧ ∀ l ∈ L, GoodS l
theorem YL.at {m : Nat} {L : List (List Int)} (h : YL m L) {s : Nat} (hs : s < m) : GoodS (L.getD s []) := h.2 _ (getD_mem (by rw [h.1]; exact hs))
theorem YL.put {m : Nat} {L : List (List Int)} (h : YL m L) (s : Nat) {l : List Int} (hl : GoodS l) : YL m (L.set s l) := ⟨by rw [List.length_set]; exact h.1, fun x hx => by
  rcases List.mem_or_eq_of_mem_set hx with h1 | h1
  · exact h.2 x h1
  · rw [h1]; exact hl⟩
theorem goodS_snoc {l : List Int} (h : GoodS l) (hl : l.length ≤ 3) {x : Int} (hx : 0 ≤ x ∧ x ≤ 1000) : GoodS (l ++ [x]) := ⟨by rw [List.length_append]; simp only [List.length_singleton]; omega, fun y hy => by
  rcases List.mem_append.1 hy with h1 | h1
  · exact h.2 y h1
  · rw [List.mem_singleton.1 h1]; exact hx⟩
theorem goodS_set {l : List Int} (h : GoodS l) (i : Nat) {x : Int} (hx : 0 ≤ x ∧ x ≤ 1000) : GoodS (l.set i x) := ⟨by rw [List.length_set]; exact h.1, fun y hy => by
  rcases List.mem_or_eq_of_mem_set hy with h1 | h1
  · exact h.2 y h1
  · rw [h1]; exact hx⟩
theorem goodS_at {l : List Int} (h : GoodS l) {i : Nat} (hi : i < l.length) : 0 ≤ l.getD i 0 ∧ l.getD i 0 ≤ 1000 := h.2 _ (getD_mem hi)
/-- One place is changed for another. -/
theorem swap_step {R : Type} {n : Nat} (kx : Sl1Cur → List (List Int) → Option R) (J : Int → Sl1Cur → List (List Int) → Option R) (m s t : Nat) (a b d : Int) (c : List (List Int)) {p : Sl1Cur} {L : List (List Int)} (hp : CurOk p) (hL : YL m L) (hs : s < m) (ht : t < (L.getD s []).length) :
    ∃ p' L', spec_l18Draw_L14 n kx J a (s : Int) (t : Int) p b c d L = J ((t + 1 : Nat) : Int) p' L' ∧ CurOk p' ∧ YL m L' ∧ (L'.getD s []).length = (L.getD s []).length := by
  have hg := hL.at hs
  have hsl : s < L.length := by rw [hL.1]; exact hs
  have hl4 := hg.1
  have ew : w64 ((t : Int) + 1) = ((t + 1 : Nat) : Int) := w64_succ (by omega)
  obtain ⟨k, p', k1, k2, k3⟩ := below_ok (n := n) hp (m := ((t + 1 : Nat) : Int)) (by omega)
  obtain ⟨k, rfl⟩ : ∃ j : Nat, k = (j : Int) := ⟨k.toNat, by omega⟩
  have hk : k < (L.getD s []).length := by omega
  unfold spec_l18Draw_L14 spec_l18Draw_k1
  rw [ew, k1]
  simp only [ix_nat hsl, Int.toNat_natCast, decide_eq_true hsl, chk_true, decide_eq_true (Int.ofNat_lt.2 ht), cond_true, Option.bind_some, ix_nat ht, decide_eq_true ht, ix_nat hk, decide_eq_true hk, bd_eq]
  have hs2 : s < (L.set s ((L.getD s []).set t ((L.getD s []).getD k 0))).length := by rw [List.length_set]; exact hsl
  have e2 : (L.set s ((L.getD s []).set t ((L.getD s []).getD k 0))).getD s [] = (L.getD s []).set t ((L.getD s []).getD k 0) := by
    rw [getD_eq hs2]; simp
  have hk2 : k < ((L.getD s []).set t ((L.getD s []).getD k 0)).length := by rw [List.length_set]; exact hk
  simp only [ix_nat hs2, decide_eq_true hs2, chk_true, e2, ix_nat hk2, decide_eq_true hk2]
  have hL1 := hL.put s (goodS_set hg t (goodS_at hg hk))
  refine ⟨p', _, rfl, k3, hL1.put s (goodS_set (goodS_set hg t (goodS_at hg hk)) k (goodS_at hg ht)), ?_⟩
  rw [getD_eq (by rw [List.length_set]; exact hs2)]
  simp
theorem swap_row {R : Type} {n : Nat} {Q : Option R → Prop} (kx : Sl1Cur → List (List Int) → Option R) (m s : Nat) (a b d : Int) (c : List (List Int)) {p : Sl1Cur} {L : List (List Int)} (hp : CurOk p) (hL : YL m L) (hs : s < m) (hn : 1000000000 < n) (hQ : ∀ p' L', CurOk p' → YL m L' → Q (kx p' L')) :
    Q (loopN (fun (x : Int × Sl1Cur × List (List Int)) J' => spec_l18Draw_L14 n kx (fun t60 p61 c62 => J' (t60, p61, c62)) a (s : Int) x.1 x.2.1 b c d x.2.2) n ((0 : Int), p, L)) := by
  have hl4 := (hL.at hs).1
  refine loop_runS (S := Sl1Cur × List (List Int)) (X := Int × Sl1Cur × List (List Int)) (enc := fun i x => (i, x.1, x.2)) (len := (L.getD s []).length) (I := fun k x => CurOk x.1 ∧ YL m x.2 ∧ (x.2.getD s []).length = (L.getD s []).length) (Q := Q) (fun k x J hk hi => ?_) (fun x J hi => ?_) (n := n) (by omega) (s0 := (p, L)) ⟨hp, hL, rfl⟩
  · obtain ⟨x1, x2⟩ := x
    obtain ⟨h1, h2, h3⟩ := hi
    dsimp only at h1 h2 h3 ⊢
    obtain ⟨p', L', e1, e2, e3, e4⟩ := swap_step (n := n) kx (fun t60 p61 c62 => J (t60, p61, c62)) m s k a b d c h1 h2 hs (by omega)
    exact ⟨(p', L'), ⟨e2, e3, e4.trans h3⟩, e1⟩
  · obtain ⟨x1, x2⟩ := x
    obtain ⟨h1, h2, h3⟩ := hi
    dsimp only at h1 h2 h3 ⊢
    have hsl : s < x2.length := by rw [h2.1]; exact hs
    unfold spec_l18Draw_L14
    rw [ix_nat hsl, Int.toNat_natCast, chk_dec hsl, chk_dec hsl, h3, decide_eq_false (Int.lt_irrefl _), cond_false]
    exact hQ x1 x2 h1 h2
theorem box_step {R : Type} {n : Nat} (kx : Sl1Cur → List (List Int) → Option R) (J : Int → Int → Sl1Cur → List (List Int) → Option R) {m i : Nat} {bx : Int} (boxes : Int) (t : Int) (c : List (List Int)) {H : Int} (hH : H ≤ 4) {p : Sl1Cur} {L : List (List Int)} (hp : CurOk p) (hL : YL m L) (hm : 1 ≤ m ∧ m ≤ 5) (hi : (i : Int) < boxes) (hi2 : i < 100) (hb : 0 ≤ bx ∧ bx ≤ 2 * (i : Int)) :
    ∃ bx' p' L', spec_l18Draw_L4 n kx J (m : Int) boxes bx (i : Int) p t c H L = J bx' ((i + 1 : Nat) : Int) p' L' ∧ CurOk p' ∧ YL m L' ∧ 0 ≤ bx' ∧ bx' ≤ 2 * ((i + 1 : Nat) : Int) := by
  obtain ⟨v, c1, a1, a2, a3⟩ := below_ok (n := n) hp (m := 2) (by omega)
  obtain ⟨s, c2, b1, b2, b3⟩ := below_ok (n := n) a3 (m := (m : Int)) (by omega)
  obtain ⟨s, rfl⟩ : ∃ j : Nat, s = (j : Int) := ⟨s.toNat, by omega⟩
  have hs : s < m := by omega
  have hsl : s < L.length := by rw [hL.1]; exact hs
  have hg := hL.at hs
  have ew : w64 ((i : Int) + 1) = ((i + 1 : Nat) : Int) := w64_succ (by omega)
  have e1 : w64 (bx + 1) = bx + 1 := w64_id (by omega) (by omega)
  have e2 : w64 (bx + 1 + v) = bx + 1 + v := w64_id (by omega) (by omega)
  unfold spec_l18Draw_L4 spec_l18Draw_k0
  rw [decide_eq_true hi, cond_true, a1, bd_eq, e1, Option.bind_some]
  dsimp only
  rw [b1, Option.bind_some, ew, e2]
  dsimp only
  rw [ix_nat hsl, Int.toNat_natCast, chk_dec hsl, chk_dec hsl]
  by_cases h : ((L.getD s []).length : Int) < H
  · rw [decide_eq_true h, cond_true, ix_nat hsl, chk_dec hsl, chk_dec hsl, chk_dec (by rw [List.length_append]; simp only [List.length_singleton]; omega), ix_nat hsl, chk_dec hsl, chk_dec rfl, bd_eq]
    exact ⟨_, _, _, rfl, b3, hL.put s (goodS_snoc hg (by omega) (by omega)), by omega, by omega⟩
  · rw [decide_eq_false h, cond_false]
    exact ⟨_, _, _, rfl, b3, hL, by omega, by omega⟩
theorem drawYard_good {n : Nat} {c0 : Sl1Cur} (hc : CurOk c0) {m b : Nat} (hm : 1 ≤ m ∧ m ≤ 5) (hb : b ≤ 15) (hn : 1000000000 < n) : ∃ y c', spec_l18Draw n c0 (m : Int) (b : Int) = some (y, c') ∧ YL m y.Stacks ∧ CurOk c' := by
  obtain ⟨v, c1, a1, a2, a3⟩ := below_ok (n := n) hc (m := 4) (by omega)
  have ew : w64 (1 + v) = 1 + v := w64_id (by omega) (by omega)
  unfold spec_l18Draw
  rw [a1, Option.bind_some, chk_dec (by omega), chk_dec (Int.le_refl _), chk_dec (by omega), Int.toNat_natCast, ew]
  dsimp only
  have h0 : YL m (List.replicate m []) := ⟨List.length_replicate, fun l hl => by rw [(List.mem_replicate.1 hl).2]; exact ⟨Nat.zero_le _, fun x hx => by cases hx⟩⟩
  refine loop_runS (S := Int × Sl1Cur × List (List Int)) (X := Int × Int × Sl1Cur × List (List Int)) (enc := fun i x => (x.1, i, x.2.1, x.2.2)) (len := b) (I := fun k x => (0 ≤ x.1 ∧ x.1 ≤ 2 * (k : Int)) ∧ CurOk x.2.1 ∧ YL m x.2.2) (Q := fun r => ∃ (y : SYard) (c' : Sl1Cur), r = some (y, c') ∧ YL m y.Stacks ∧ CurOk c') (fun k x J hk hi => ?_) (fun x J hi => ?_) (n := n) (by omega) (s0 := (0, c1, List.replicate m [])) ⟨⟨Int.le_refl _, by dsimp only; omega⟩, a3, h0⟩
  · obtain ⟨x1, x2, x3⟩ := x
    obtain ⟨h1, h2, h3⟩ := hi
    dsimp only at h1 h2 h3 ⊢
    obtain ⟨bx', p', L', e1, e2, e3, e4⟩ := box_step (n := n) (fun p27 c28 => loopN (fun (x : Int × Sl1Cur × List (List Int)) J' => spec_l18Draw_L11 n (fun c63 p64 => some ((⟨1 + v, c63⟩ : SYard), p64)) (fun s65 p66 c67 => J' (s65, p66, c67)) (m : Int) x.1 x.2.1 (0 : Int) [] (1 + v) x.2.2) n ((0 : Int), p27, c28)) (fun box68 i69 p70 c71 => J (box68, i69, p70, c71)) (bx := x1) (i := k) (b : Int) (0 : Int) [] (H := 1 + v) (by omega) h2 h3 hm (by omega) (by omega) h1
    exact ⟨(bx', p', L'), ⟨e4, e2, e3⟩, e1⟩
  · obtain ⟨x1, x2, x3⟩ := x
    obtain ⟨h1, h2, h3⟩ := hi
    dsimp only at h1 h2 h3 ⊢
    unfold spec_l18Draw_L4
    rw [decide_eq_false (Int.lt_irrefl _), cond_false]
    refine loop_runS (S := Sl1Cur × List (List Int)) (X := Int × Sl1Cur × List (List Int)) (enc := fun i x => (i, x.1, x.2)) (len := m) (I := fun k x => CurOk x.1 ∧ YL m x.2) (Q := fun r => ∃ (y : SYard) (c' : Sl1Cur), r = some (y, c') ∧ YL m y.Stacks ∧ CurOk c') (fun k x J hk hi => ?_) (fun x J hi => ?_) (n := n) (by omega) (s0 := (x2, x3)) ⟨h2, h3⟩
    · obtain ⟨z1, z2⟩ := x
      obtain ⟨g1, g2⟩ := hi
      dsimp only at g1 g2 ⊢
      unfold spec_l18Draw_L11
      rw [decide_eq_true (Int.ofNat_lt.2 hk), cond_true]
      refine swap_row (n := n) (Q := fun r => ∃ s' : Sl1Cur × List (List Int), (CurOk s'.1 ∧ YL m s'.2) ∧ r = J (((k + 1 : Nat) : Int), s'.1, s'.2)) _ m k _ _ _ _ g1 g2 hk hn fun p' L' hp' hL' => ⟨(p', L'), ⟨hp', hL'⟩, ?_⟩
      rw [w64_succ (show k < 9223372036854775807 by omega)]
    · obtain ⟨z1, z2⟩ := x
      obtain ⟨g1, g2⟩ := hi
      dsimp only at g1 g2 ⊢
      unfold spec_l18Draw_L11
      rw [decide_eq_false (Int.lt_irrefl _), cond_false]
      exact ⟨_, _, rfl, g2, g1⟩
theorem drawYOp_ok {n : Nat} {c : Sl1Cur} (h : CurOk c) : ∃ op c', spec_l18DrawOp n c = some (op, c') ∧ CurOk c' := by
  have key : ∀ {p : Sl1Cur} (hp : CurOk p) (a b d : Int), ∃ op c', spec_l18DrawOp_k0 n p a b d = some (op, c') ∧ CurOk c' := by
    intro p hp a b d
    obtain ⟨v, c1, a1, a2, a3⟩ := below_ok (n := n) hp (m := 40) (by omega)
    unfold spec_l18DrawOp_k0
    rw [a1, Option.bind_some]
    dsimp only
    cases decide (v = 0) with
    | true =>
      obtain ⟨u, c2, g1, g2⟩ := pickIntB_ok (n := n) a3 (l := [0, 4]) (by decide)
      rw [cond_true, g1]; exact ⟨_, _, rfl, g2⟩
    | false =>
    rw [cond_false]
    cases decide (v = 1) with
    | true => exact ⟨_, _, rfl, a3⟩
    | false =>
    rw [cond_false]
    cases decide (v = 2) with
    | true =>
      obtain ⟨u, c2, g1, g2⟩ := pickIntB_ok (n := n) a3 (l := [0, -1, 1000000, 1000001]) (by decide)
      rw [cond_true, g1]; exact ⟨_, _, rfl, g2⟩
    | false => exact ⟨_, _, rfl, a3⟩
  obtain ⟨v1, c1, a1, _, b1⟩ := below_ok (n := n) h (m := 3) (by omega)
  obtain ⟨v2, c2, a2, _, b2⟩ := below_ok (n := n) b1 (m := 26) (by omega)
  obtain ⟨v3, c3, a3, _, b3⟩ := below_ok (n := n) b2 (m := 5) (by omega)
  unfold spec_l18DrawOp
  rw [a1, Option.bind_some]; dsimp only
  rw [a2, Option.bind_some]; dsimp only
  rw [a3, Option.bind_some]; dsimp only
  cases decide (w64 (1 + v1) = 3) with
  | true =>
    obtain ⟨v4, c4, a4, _, b4⟩ := below_ok (n := n) b3 (m := 5) (by omega)
    rw [cond_true, a4, Option.bind_some]; exact key b4 _ _ _
  | false => exact key b3 _ _ _
theorem drawYard_ok {n : Nat} (code : List Int) (hc : code.length ≤ 1048576) (hn : 1000000000 < n) : ∃ y ops m, spec_DrawYard n code = some (y, ops) ∧ m ≤ 5 ∧ YL m y.Stacks ∧ ops.length ≤ 40 := by
  obtain ⟨c, h1, h2⟩ := new_ok (n := n) code hc hn
  obtain ⟨v1, c1, a1, r1, b1⟩ := below_ok (n := n) h2 (m := 5) (by omega)
  obtain ⟨v2, c2, a2, r2, b2⟩ := below_ok (n := n) b1 (m := 16) (by omega)
  obtain ⟨m, rfl⟩ : ∃ m : Nat, v1 = (m : Int) := ⟨v1.toNat, by omega⟩
  obtain ⟨b, rfl⟩ : ∃ b : Nat, v2 = (b : Int) := ⟨v2.toNat, by omega⟩
  obtain ⟨y, c3, d1, d2, d3⟩ := drawYard_good (n := n) b2 (m := m + 1) (b := b) (by omega) (by omega) hn
  obtain ⟨v, c4, a3, r3, b3⟩ := below_ok (n := n) d3 (m := 25) (by omega)
  have ew : w64 (1 + (m : Int)) = ((m + 1 : Nat) : Int) := by rw [w64_id (by omega) (by omega)]; omega
  unfold spec_DrawYard
  rw [h1, Option.bind_some, a1, Option.bind_some]; dsimp only
  rw [a2, Option.bind_some]; dsimp only
  rw [ew, d1, Option.bind_some]; dsimp only
  rw [a3, Option.bind_some]; dsimp only
  have key := loopN_ind (b := fun (x : Int × Sl1Cur × List SYardOp) J' => spec_DrawYard_L5 n (fun ops18 => some (y, ops18)) (fun i19 t20 ops21 => J' (i19, t20, ops21)) x.1 (0 : Int) [] x.2.1 y.High y.Stacks x.2.2) (fun x => x.1.toNat) (fun x => (0 ≤ x.1 ∧ x.1 + (x.2.2.length : Int) ≤ 40) ∧ CurOk x.2.1) (fun x r => ∃ ops, r = some (y, ops) ∧ ops.length ≤ 40) (by
    rintro ⟨i, p, l⟩ J ⟨hi, hp⟩ ih
    dsimp only at *
    unfold spec_DrawYard_L5
    by_cases h0 : i > 0
    · rw [decide_eq_true h0, cond_true]
      obtain ⟨op, c5, e1, e2⟩ := drawYOp_ok (n := n) hp
      rw [e1, Option.bind_some]; dsimp only
      have ew : w64 (i - 1) = i - 1 := w64_id (by omega) (by omega)
      rw [chk_dec (by rw [List.length_append]; simp only [List.length_singleton]; omega), ew]
      exact ih (i - 1, c5, l ++ [op]) ⟨by dsimp only; rw [List.length_append]; simp only [List.length_singleton]; omega, e2⟩ (by dsimp only; omega)
    · rw [decide_eq_false h0, cond_false]
      exact ⟨l, rfl, by omega⟩) n (v, c4, []) ⟨by dsimp only; simp only [List.length_nil]; omega, b3⟩ (by show v.toNat < n; omega)
  obtain ⟨ops, k1, k2⟩ := key
  exact ⟨y, ops, m + 1, k1, by omega, d2, k2⟩
end Go.Sm
end

section
set_option linter.unusedSimpArgs false
set_option linter.deprecated false
set_option linter.unusedSectionVars false
set_option linter.unusedVariables false
set_option linter.unusedSimpArgs false
namespace Go.Sm
/-! ### The congruence sequence goes through all residues -/
def gA : Nat := 6364136223846793005
def gC : Nat := 1442695040888963407
def gK (a c : Nat) : Nat → Nat → Nat
  | 0, s => s
  | k + 1, s => gK a c k (a * s + c)
theorem gK_add (a c : Nat) : ∀ j k s, gK a c (j + k) s = gK a c k (gK a c j s)
  | 0, k, s => by rw [Nat.zero_add]; rfl
  | j + 1, k, s => by
    rw [show j + 1 + k = (j + k) + 1 by omega]
    exact gK_add a c j k (a * s + c)
theorem gK_pow {a c q r : Nat} (ha : a = 1 + 4 * q) (hc : c = 1 + 2 * r) : ∀ m, ∃ q' r' : Nat, ∀ s, gK a c (2 ^ m) s = (1 + 4 * 2 ^ m * q') * s + 2 ^ m * (1 + 2 * r')
  | 0 => ⟨q, r, fun s => by
      show a * s + c = _
      rw [ha, hc]; simp⟩
  | m + 1 => by
    obtain ⟨q1, r1, h⟩ := gK_pow (a := a) (c := c) ha hc m
    generalize hM : 2 ^ m = M at h
    refine ⟨q1 + 2 * M * q1 * q1, r1 + M * q1 + 2 * M * q1 * r1, fun s => ?_⟩
    have e : 2 ^ (m + 1) = M + M := by rw [Nat.pow_succ, hM]; omega
    rw [e, gK_add, h, h]
    have : (1 + 4 * M * q1) * ((1 + 4 * M * q1) * s + M * (1 + 2 * r1)) + M * (1 + 2 * r1) = (1 + 4 * (M + M) * (q1 + 2 * M * q1 * q1)) * s + (M + M) * (1 + 2 * (r1 + M * q1 + 2 * M * q1 * r1)) := by
      grind
    exact this
theorem gK_all {a c q r : Nat} (ha : a = 1 + 4 * q) (hc : c = 1 + 2 * r) (s t : Nat) : ∀ m, ∃ k, k < 2 ^ m ∧ gK a c k s % 2 ^ m = t % 2 ^ m
  | 0 => ⟨0, by decide, by rw [Nat.pow_zero, Nat.mod_one, Nat.mod_one]⟩
  | m + 1 => by
    obtain ⟨k, hkl, hk⟩ := gK_all ha hc s t m
    have hpw : 2 ^ (m + 1) = 2 ^ m + 2 ^ m := by rw [Nat.pow_succ]; omega
    have e1 : ∀ x : Nat, x % 2 ^ (m + 1) = x % 2 ^ m + 2 ^ m * (x / 2 ^ m % 2) := fun x => Nat.mod_pow_succ
    by_cases hh : gK a c k s / 2 ^ m % 2 = t / 2 ^ m % 2
    · exact ⟨k, by omega, by rw [e1, e1, hk, hh]⟩
    · obtain ⟨q1, r1, h⟩ := gK_pow ha hc m
      refine ⟨k + 2 ^ m, by omega, ?_⟩
      rw [gK_add, h]
      generalize gK a c k s = u at hk hh
      have hp : 0 < 2 ^ m := Nat.two_pow_pos m
      clear hpw hkl
      generalize 2 ^ m = M at *
      have e2 : (1 + 4 * M * q1) * u + M * (1 + 2 * r1) = u + M * (1 + 2 * (r1 + 2 * q1 * u)) := by grind
      rw [e1, e1, e2, Nat.add_mul_mod_self_left, Nat.add_mul_div_left _ _ hp, hk]
      have : (u / M + (1 + 2 * (r1 + 2 * q1 * u))) % 2 = t / M % 2 := by omega
      rw [this]
end Go.Sm
end

section
set_option linter.unusedSimpArgs false
set_option linter.deprecated false
set_option linter.unusedSectionVars false
set_option linter.unusedVariables false
set_option linter.unusedSimpArgs false
namespace Go.Sm
/-! ### The sequence's state, told by its low bits -/
def lN (s : Nat) : Nat := (s * 6364136223846793005 + 1442695040888963407) % 9007199254740992
def lB (s : Nat) : Nat := ((s >>> 33) ^^^ (s >>> 45)) % 256
def res (h : Int) : Nat := (h % 9007199254740992).toNat
def itK (f : Nat → Nat) : Nat → Nat → Nat
  | 0, s => s
  | k + 1, s => itK f k (f s)
theorem itK_succ (f : Nat → Nat) (k s : Nat) : itK f (k + 1) s = itK f k (f s) := rfl
theorem itK_add (f : Nat → Nat) : ∀ j k s, itK f (j + k) s = itK f k (itK f j s)
  | 0, k, s => by rw [Nat.zero_add]; rfl
  | j + 1, k, s => by
    rw [show j + 1 + k = (j + k) + 1 by omega, itK_succ, itK_succ, itK_add f j k (f s)]
def lK : Nat → Nat → Nat := itK lN
theorem lK_add (j k s : Nat) : lK (j + k) s = lK k (lK j s) := itK_add lN j k s
theorem lK_succ (k s : Nat) : lK (k + 1) s = lK k (lN s) := itK_succ lN k s
theorem lK_zero (s : Nat) : lK 0 s = s := rfl
theorem lN_mod (s : Nat) : lN (s % 9007199254740992) = lN s := by unfold lN; omega
theorem lN_lt (s : Nat) : lN s < 9007199254740992 := by unfold lN; omega
theorem gK_succ (a c k s : Nat) : gK a c (k + 1) s = gK a c k (a * s + c) := rfl
theorem lN_eq (s : Nat) : lN s = (6364136223846793005 * s + 1442695040888963407) % 9007199254740992 := by unfold lN; rw [Nat.mul_comm]
theorem lK_gKa (a c : Nat) (h : ∀ s, lN s = (a * s + c) % 9007199254740992) : ∀ k s, lK k (s % 9007199254740992) = gK a c k s % 9007199254740992
  | 0, s => rfl
  | k + 1, s => by rw [lK_succ, gK_succ, lN_mod, h, lK_gKa a c h k (a * s + c)]
/-- Each state is met from each state. -/
theorem lK_all (s t : Nat) (hs : s < 9007199254740992) (ht : t < 9007199254740992) : ∃ k, k < 9007199254740992 ∧ lK k s = t := by
  obtain ⟨k, hk, h⟩ := gK_all (a := 6364136223846793005) (c := 1442695040888963407) (q := 1591034055961698251) (r := 721347520444481703) (by decide) (by decide) s t 53
  refine ⟨k, hk, ?_⟩
  have h1 := lK_gKa 6364136223846793005 1442695040888963407 lN_eq k s
  have e : (2 : Nat) ^ 53 = 9007199254740992 := rfl
  rw [e, Nat.mod_eq_of_lt ht] at h
  rw [Nat.mod_eq_of_lt hs, h] at h1
  exact h1
theorem res_w64 (x : Int) : res (w64 x) = res x := by
  unfold res
  have : w64 x % 9007199254740992 = x % 9007199254740992 := by
    show (let m := x % (2 ^ 64 : Int); if (true && decide ((2 : Int) ^ 63 ≤ m)) = true then m - 2 ^ 64 else m) % _ = _
    simp only [Bool.true_and, decide_eq_true_eq]
    split <;> omega
  rw [this]
theorem w64_mod (x : Int) : w64 x % 9007199254740992 = x % 9007199254740992 := by
  show (let m := x % (2 ^ 64 : Int); if (true && decide ((2 : Int) ^ 63 ≤ m)) = true then m - 2 ^ 64 else m) % _ = _
  simp only [Bool.true_and, decide_eq_true_eq]
  split <;> omega
theorem lin_mod (h A C M : Int) (hM : 0 < M) (hA : 0 ≤ A) (hC : 0 ≤ C) : ((h * A + C) % M).toNat = ((h % M).toNat * A.toNat + C.toNat) % M.toNat := by
  have h0 : 0 ≤ h % M := Int.emod_nonneg _ (by omega)
  have e1 : (h * A + C) % M = (h % M * A + C) % M := by
    simp [Int.add_emod, Int.mul_emod]
  rw [e1]
  have e2 : h % M * A + C = (((h % M).toNat * A.toNat + C.toNat : Nat) : Int) := by
    rw [Int.natCast_add, Int.natCast_mul, Int.toNat_of_nonneg h0, Int.toNat_of_nonneg hA, Int.toNat_of_nonneg hC]
  have e3 : M = ((M.toNat : Nat) : Int) := by rw [Int.toNat_of_nonneg (by omega)]
  rw [e2]
  generalize hm : M.toNat = m at *
  rw [e3, ← Int.natCast_emod, Int.toNat_natCast]
theorem res_next (h : Int) : res (w64 (w64 (h * 6364136223846793005) + 1442695040888963407)) = lN (res h) := by
  rw [res_w64]
  unfold res
  have e : (w64 (h * 6364136223846793005) + 1442695040888963407) % 9007199254740992 = (h * 6364136223846793005 + 1442695040888963407) % 9007199254740992 := by
    rw [Int.add_emod, w64_mod, ← Int.add_emod]
  rw [e, lin_mod h 6364136223846793005 1442695040888963407 9007199254740992 (by decide) (by decide) (by decide)]
  rfl
theorem bv_mod (v : Int) : (BitVec.ofInt 64 v).toNat % 256 = (v % 256).toNat := by
  rw [BitVec.toNat_ofInt]
  omega

set_option maxHeartbeats 1000000 in
theorem byte_val (v : Int) : w64 (((BitVec.ofInt 64 (w64 (((BitVec.ofInt 64 (Int.fdiv v (2 ^ (min (33 : Int).toNat 64))) ^^^ BitVec.ofInt 64 (Int.fdiv v (2 ^ (min (45 : Int).toNat 64)))).toNat : Nat) : Int)) &&& BitVec.ofInt 64 (255 : Int)).toNat : Nat) : Int) = ((lB (res v) : Nat) : Int) := by
  have e33 : Int.fdiv v (2 ^ (min (33 : Int).toNat 64)) = v / 8589934592 := by
    rw [Int.fdiv_eq_ediv_of_nonneg _ (by decide)]; rfl
  have e45 : Int.fdiv v (2 ^ (min (45 : Int).toNat 64)) = v / 35184372088832 := by
    rw [Int.fdiv_eq_ediv_of_nonneg _ (by decide)]; rfl
  rw [e33, e45]
  have key : (BitVec.ofInt 64 (w64 (((BitVec.ofInt 64 (v / 8589934592) ^^^ BitVec.ofInt 64 (v / 35184372088832)).toNat : Nat) : Int)) &&& BitVec.ofInt 64 (255 : Int)).toNat = lB (res v) := by
    rw [BitVec.toNat_and]
    have e255 : (BitVec.ofInt 64 (255 : Int)).toNat = 2 ^ 8 - 1 := by decide
    rw [e255, Nat.and_two_pow_sub_one_eq_mod]
    show (BitVec.ofInt 64 _).toNat % 256 = _
    rw [bv_mod]
    have hx : ∀ x : Int, w64 x % 256 = x % 256 := fun x => by
      show (let m := x % (2 ^ 64 : Int); if (true && decide ((2 : Int) ^ 63 ≤ m)) = true then m - 2 ^ 64 else m) % _ = _
      simp only [Bool.true_and, decide_eq_true_eq]
      split <;> omega
    rw [hx, BitVec.toNat_xor]
    have h2 : ((((BitVec.ofInt 64 (v / 8589934592)).toNat ^^^ (BitVec.ofInt 64 (v / 35184372088832)).toNat : Nat) : Int) % 256).toNat = ((BitVec.ofInt 64 (v / 8589934592)).toNat ^^^ (BitVec.ofInt 64 (v / 35184372088832)).toNat) % 2 ^ 8 := by omega
    rw [h2, Nat.xor_mod_two_pow]
    have a1 : (BitVec.ofInt 64 (v / 8589934592)).toNat % 2 ^ 8 = (res v >>> 33) % 2 ^ 8 := by
      show _ % 256 = _ % 256
      rw [bv_mod, Nat.shiftRight_eq_div_pow]
      unfold res
      omega
    have a2 : (BitVec.ofInt 64 (v / 35184372088832)).toNat % 2 ^ 8 = (res v >>> 45) % 2 ^ 8 := by
      show _ % 256 = _ % 256
      rw [bv_mod, Nat.shiftRight_eq_div_pow]
      unfold res
      omega
    rw [a1, a2, ← Nat.xor_mod_two_pow]
    rfl
  rw [key, w64_id (by omega) (by unfold lB; omega)]
end Go.Sm
end

section
set_option linter.unusedSimpArgs false
set_option linter.deprecated false
set_option linter.unusedSectionVars false
set_option linter.unusedVariables false
set_option linter.unusedSimpArgs false
namespace Go.Sm
attribute [local irreducible] bd chk ix loopN
/-! ### Redraws, by the sequence alone -/
def frcK {α : Type} (x : Nat) (f : Nat → α) : α := Nat.rec (motive := fun _ => α) (f 0) (fun k _ => f (k + 1)) x
theorem frcK_eq {α : Type} (x : Nat) (f : Nat → α) : frcK x f = f x := by cases x <;> rfl
def pairsK : Nat → Nat → Nat → Nat
  | 0, few, s => s
  | k + 1, few, s => frcK (lN s) fun t => bif Nat.beq (lB t % few) 0 then pairsK k few t else frcK (lN t) fun u => pairsK k few u
def jumpK : Nat → Nat → Nat
  | 0, s => s
  | k + 1, s => frcK (lN s) fun t => jumpK k t
def endsK (s : Nat) : Bool := frcK (lN s) fun t => frcK (lN t) fun u => !Nat.beq (lB u % 20) 0
def finK (s : Nat) : Nat := frcK (jumpK 52 s) fun t => frcK (2 + lB t % 3) fun few => pairsK 276 few t
def goodG (e : Nat → Bool) (f : Nat → Nat) : Nat → Nat → Bool
  | 0, s => false
  | k + 1, s => bif e s then true else frcK (f s) fun t => goodG e f k t
theorem goodG_succ (e : Nat → Bool) (f : Nat → Nat) (k s : Nat) : goodG e f (k + 1) s = bif e s then true else goodG e f k (f s) := by
  show (bif e s then true else frcK (f s) fun t => goodG e f k t) = _
  rw [frcK_eq]
def goodK : Nat → Nat → Bool := goodG endsK finK
theorem goodK_succ (k s : Nat) : goodK (k + 1) s = bif endsK s then true else goodK k (finK s) := goodG_succ endsK finK k s
theorem goodK_zero (s : Nat) : goodK 0 s = false := rfl
def winK : Nat → Nat → Bool
  | 0, s => true
  | k + 1, s => bif goodK 2 s then frcK (lN s) fun t => winK k t else false
theorem win_ok : winK 620 12 = true := by decide +kernel
theorem jumpK_eq : ∀ k s, jumpK k s = lK k s
  | 0, s => rfl
  | k + 1, s => by
    show frcK (lN s) _ = _
    rw [frcK_eq, jumpK_eq k, lK_succ]
attribute [local irreducible] lN lB
theorem pairsK_succ (k few s : Nat) : pairsK (k + 1) few s = if lB (lN s) % few = 0 then pairsK k few (lN s) else pairsK k few (lN (lN s)) := by
  show frcK (lN s) _ = _
  rw [frcK_eq, frcK_eq]
  by_cases h : lB (lN s) % few = 0
  · rw [if_pos h, h]; rfl
  · rw [if_neg h]
    have : Nat.beq (lB (lN s) % few) 0 = false := by
      cases hb : Nat.beq (lB (lN s) % few) 0 with
      | false => rfl
      | true => exact absurd (Nat.eq_of_beq_eq_true hb) h
    rw [this]; rfl
theorem pairsK_is (few : Nat) : ∀ k s, ∃ m, m ≤ 2 * k ∧ pairsK k few s = lK m s
  | 0, s => ⟨0, Nat.le_refl _, rfl⟩
  | k + 1, s => by
    rw [pairsK_succ]
    by_cases h : lB (lN s) % few = 0
    · rw [if_pos h]
      obtain ⟨m, h1, h2⟩ := pairsK_is few k (lN s)
      exact ⟨m + 1, by omega, by rw [lK_succ, h2]⟩
    · rw [if_neg h]
      obtain ⟨m, h1, h2⟩ := pairsK_is few k (lN (lN s))
      exact ⟨m + 2, by omega, by rw [show m + 2 = (m + 1) + 1 by omega, lK_succ, lK_succ, h2]⟩
theorem finK_eq (s : Nat) : finK s = pairsK 276 (2 + lB (lK 52 s) % 3) (lK 52 s) := by
  unfold finK
  rw [frcK_eq, frcK_eq, jumpK_eq]
theorem finK_is (s : Nat) : ∃ m, 1 ≤ m ∧ m ≤ 604 ∧ finK s = lK m s := by
  obtain ⟨m, h1, h2⟩ := pairsK_is (2 + lB (lK 52 s) % 3) 276 (lK 52 s)
  exact ⟨52 + m, by omega, by omega, by rw [finK_eq, h2, lK_add]⟩
theorem endsK_eq (s : Nat) : endsK s = !decide (lB (lN (lN s)) % 20 = 0) := by
  unfold endsK
  rw [frcK_eq, frcK_eq]
  congr 1
  by_cases h : lB (lN (lN s)) % 20 = 0
  · rw [decide_eq_true h, h]; rfl
  · rw [decide_eq_false h]
    cases hb : Nat.beq (lB (lN (lN s)) % 20) 0 with
    | false => rfl
    | true => exact absurd (Nat.eq_of_beq_eq_true hb) h
theorem winK_at : ∀ k s j, winK k s = true → j < k → goodK 2 (lK j s) = true
  | 0, s, j, h, hj => absurd hj (Nat.not_lt_zero _)
  | k + 1, s, j, h, hj => by
    have h : (bif goodK 2 s then frcK (lN s) fun t => winK k t else false) = true := h
    rw [frcK_eq] at h
    cases hg : goodK 2 s with
    | false => rw [hg] at h; cases h
    | true =>
      rw [hg] at h
      cases j with
      | zero => exact hg
      | succ j => rw [lK_succ]; exact winK_at k (lN s) j h (by omega)
/-- From each state so many rounds at most, and one ends. -/
inductive EndsIn : Nat → Nat → Prop
  | now (n : Nat) {s : Nat} : endsK s = true → EndsIn (n + 1) s
  | more {n s : Nat} : EndsIn n (finK s) → EndsIn (n + 1) s
theorem EndsIn.le {n m s : Nat} (h : EndsIn n s) : n ≤ m → EndsIn m s := by
  induction h generalizing m with
  | now n h => intro hm; obtain ⟨k, rfl⟩ : ∃ k, m = k + 1 := ⟨m - 1, by omega⟩; exact .now k h
  | more h ih => intro hm; obtain ⟨k, rfl⟩ : ∃ k, m = k + 1 := ⟨m - 1, by omega⟩; exact .more (ih (by omega))
theorem good_ends {s : Nat} (h : goodK 2 s = true) : EndsIn 2 s := by
  rw [goodK_succ] at h
  cases he : endsK s with
  | true => exact .now 1 he
  | false =>
    rw [he, cond_false, goodK_succ] at h
    cases h2 : endsK (finK s) with
    | true => exact .more (.now 0 h2)
    | false => rw [h2, cond_false, goodK_zero] at h; cases h
theorem ends_all (s : Nat) (hs : s < 9007199254740992) : EndsIn 9007199254750000 s := by
  obtain ⟨k, hk, e⟩ := lK_all s 12 hs (by decide)
  have key : ∀ d j, j + d = k + 619 → EndsIn (d + 2) (lK j s) := by
    intro d
    induction d using Nat.strongRecOn with
    | _ d ih =>
      intro j hj
      by_cases hjk : k ≤ j
      · have e2 : lK j s = lK (j - k) 12 := by
          rw [← e, ← lK_add]; congr 1; omega
        rw [e2]
        exact (good_ends (winK_at 620 12 (j - k) win_ok (by omega))).le (by omega)
      · obtain ⟨m, m1, m2, m3⟩ := finK_is (lK j s)
        have h := ih (d - m) (by omega) (j + m) (by omega)
        rw [lK_add, ← m3] at h
        exact (EndsIn.more h).le (by omega)
  have h := key (k + 619) 0 (by omega)
  exact h.le (by omega)
end Go.Sm
end

section
set_option linter.unusedSimpArgs false
set_option linter.deprecated false
set_option linter.unusedSectionVars false
set_option linter.unusedVariables false
set_option linter.unusedSimpArgs false
namespace Go.Sm
attribute [local irreducible] bd chk ix loopN
/-! ### How a draw moves the cursor -/
def AtEnd (c : Sl1Cur) : Prop := ¬ c.i < (c.b.length : Int)
structure Mv (c c' : Sl1Cur) : Prop where
  ok : CurOk c'
  b : c'.b = c.b
  le : c.i ≤ c'.i
theorem Mv.refl {c : Sl1Cur} (h : CurOk c) : Mv c c := ⟨h, rfl, Int.le_refl _⟩
theorem Mv.trans {a b c : Sl1Cur} (h : Mv a b) (g : Mv b c) : Mv a c := ⟨g.ok, g.b.trans h.b, Int.le_trans h.le g.le⟩
theorem Mv.atEnd {c c' : Sl1Cur} (h : Mv c c') (e : AtEnd c) : AtEnd c' := by
  unfold AtEnd at *
  rw [h.b]
  have := h.le
  omega
attribute [local irreducible] lN lB pairsK res
theorem byte_mv {n : Nat} {c : Sl1Cur} (h : CurOk c) : ∃ v c', spec_l1Byte n c = some (v, c') ∧ (0 ≤ v ∧ v ≤ 255) ∧ Mv c c' ∧ (c.i < (c.b.length : Int) → c.i < c'.i) ∧ (AtEnd c → v = ((lB (lN (res c.h)) : Nat) : Int) ∧ res c'.h = lN (res c.h)) := by
  have h1 := h.i
  have h2 := h.len
  unfold spec_l1Byte
  simp only [bd_eq]
  by_cases hc : c.i < (c.b.length : Int)
  · rw [decide_eq_true hc, cond_true, ix_of h1.1 hc]
    have ew : w64 (c.i + 1) = c.i + 1 := w64_id (by omega) (by omega)
    rw [ew]
    refine ⟨_, _, rfl, and255 _, ⟨⟨?_, h2⟩, rfl, ?_⟩, fun _ => ?_, fun e => absurd hc e⟩
    · show 0 ≤ c.i + 1 ∧ c.i + 1 ≤ (c.b.length : Int); omega
    · show c.i ≤ c.i + 1; omega
    · show c.i < c.i + 1; omega
  · rw [decide_eq_false hc, cond_false]
    refine ⟨_, _, rfl, and255 _, ⟨⟨h1, h2⟩, rfl, Int.le_refl _⟩, fun hh => absurd hh hc, fun _ => ⟨?_, res_next c.h⟩⟩
    rw [byte_val, res_next]
theorem below_mv {n : Nat} {c : Sl1Cur} (h : CurOk c) {m : Nat} (hm : 1 ≤ m ∧ m ≤ 256) : ∃ v c', spec_l1Below n c (m : Int) = some (v, c') ∧ (0 ≤ v ∧ v < (m : Int)) ∧ Mv c c' ∧ (c.i < (c.b.length : Int) → c.i < c'.i) ∧ (AtEnd c → v = ((lB (lN (res c.h)) % m : Nat) : Int) ∧ res c'.h = lN (res c.h)) := by
  obtain ⟨v, c', h1, h2, h3, h4, h5⟩ := byte_mv (n := n) h
  unfold spec_l1Below
  rw [decide_eq_false (show ¬ (m : Int) ≤ 0 by omega), cond_false, decide_eq_true (show (m : Int) ≤ 256 by omega), cond_true, h1, Option.bind_some, decide_eq_false (show ¬ (m : Int) = 0 by omega), cond_false]
  refine ⟨_, _, rfl, ⟨Int.tmod_nonneg _ h2.1, Int.tmod_lt_of_pos _ (by omega)⟩, h3, h4, fun e => ?_⟩
  obtain ⟨e1, e2⟩ := h5 e
  refine ⟨?_, e2⟩
  dsimp only
  rw [e1]
  exact (Int.ofNat_tmod _ _).symm
theorem once_mv {n : Nat} {c : Sl1Cur} (h : CurOk c) {m : Nat} (hm : 1 ≤ m ∧ m ≤ 256) : ∃ v c', spec_l1Once n c (m : Int) = some (v, c') ∧ Mv c c' ∧ (c.i < (c.b.length : Int) → c.i < c'.i) ∧ (AtEnd c → v = decide (lB (lN (res c.h)) % m = 0) ∧ res c'.h = lN (res c.h)) := by
  obtain ⟨v, c', h1, h2, h3, h4, h5⟩ := below_mv (n := n) h hm
  unfold spec_l1Once
  rw [h1, Option.bind_some]
  refine ⟨_, _, rfl, h3, h4, fun e => ?_⟩
  obtain ⟨e1, e2⟩ := h5 e
  refine ⟨?_, e2⟩
  dsimp only
  rw [e1, decide_eq_decide]
  omega
/-! ### Who hears whom -/
theorem filter_snoc (p : Nat → Bool) (x : Nat) : ∀ N, x < N → (∀ b, p b = true → b < x) → (List.range N).filter (fun b => p b || decide (b = x)) = (List.range N).filter p ++ [x]
  | 0, h, _ => absurd h (Nat.not_lt_zero _)
  | N + 1, h, hp => by
    have hpN : x ≤ N → p N = false := fun hx => by
      cases hh : p N with
      | false => rfl
      | true => have := hp N hh; omega
    rw [List.range_succ, List.filter_append, List.filter_append]
    by_cases e : x = N
    · subst e
      have h1 : (List.range x).filter (fun b => p b || decide (b = x)) = (List.range x).filter p := by
        apply List.filter_congr
        intro b hb
        have := List.mem_range.1 hb
        rw [decide_eq_false (by omega), Bool.or_false]
      have h2 := hpN (Nat.le_refl _)
      rw [h1]
      simp [h2]
    · rw [filter_snoc p x N (by omega) hp]
      have h2 := hpN (by omega)
      have : decide (N = x) = false := decide_eq_false (by omega)
      simp [h2, this]
structure RG (N : Nat) (E : Nat → Nat → Bool) (L : List SRadio) : Prop where
  len : L.length = N
  id : ∀ j, j < N → 1 ≤ (rad L j).Id ∧ (rad L j).Id ≤ 5000
  up : ∀ j, 0 < j → j < N → (rad L (j - 1)).Id < (rad L j).Id
  slot : ∀ j, j < N → 0 ≤ (rad L j).Slot ∧ (rad L j).Slot ≤ 7
  hears : ∀ j, j < N → (rad L j).Hears = ((List.range N).filter (E j)).map fun x : Nat => (x : Int)
structure EOk (E : Nat → Nat → Bool) (i k : Nat) : Prop where
  sym : ∀ a b, E a b = true → E b a = true
  irr : ∀ a, E a a = false
  before : ∀ a b, E a b = true → a < b → a < i ∨ (a = i ∧ b < k)
def addE (E : Nat → Nat → Bool) (i k a b : Nat) : Bool := E a b || ((decide (a = i) && decide (b = k)) || (decide (a = k) && decide (b = i)))
theorem addE_ok {E : Nat → Nat → Bool} {i k : Nat} (h : EOk E i k) (hik : i < k) : EOk (addE E i k) i (k + 1) := by
  refine ⟨fun a b hab => ?_, fun a => ?_, fun a b hab hl => ?_⟩
  · unfold addE at *
    simp only [Bool.or_eq_true, Bool.and_eq_true, decide_eq_true_eq] at *
    rcases hab with g | g | g
    · exact .inl (h.sym a b g)
    · exact .inr (.inr ⟨g.2, g.1⟩)
    · exact .inr (.inl ⟨g.2, g.1⟩)
  · unfold addE
    rw [h.irr a, Bool.false_or]
    cases ha : decide (a = i) <;> cases hb : decide (a = k) <;> simp_all
  · unfold addE at hab
    simp only [Bool.or_eq_true, Bool.and_eq_true, decide_eq_true_eq] at hab
    rcases hab with g | g | g
    · rcases h.before a b g hl with q | q
      · exact .inl q
      · exact .inr ⟨q.1, by omega⟩
    · exact .inr ⟨g.1, by omega⟩
    · omega
theorem EOk.skip {E : Nat → Nat → Bool} {i k : Nat} (h : EOk E i k) : EOk E i (k + 1) := ⟨h.sym, h.irr, fun a b g hl => by
  rcases h.before a b g hl with q | q
  · exact .inl q
  · exact .inr ⟨q.1, by omega⟩⟩
theorem EOk.row {E : Nat → Nat → Bool} {i k : Nat} (h : EOk E i k) : EOk E (i + 1) (i + 2) := ⟨h.sym, h.irr, fun a b g hl => by
  rcases h.before a b g hl with q | q
  · exact .inl (by omega)
  · exact .inl (by omega)⟩
theorem rad_set {L : List SRadio} {i j : Nat} {r : SRadio} (hi : i < L.length) : rad (L.set i r) j = if j = i then r else rad L j := by
  unfold rad
  by_cases h : j = i
  · subst h; rw [if_pos rfl, getD_eq (by rw [List.length_set]; exact hi)]; simp
  · rw [if_neg h, List.getD_eq_getElem?_getD, List.getD_eq_getElem?_getD, List.getElem?_set]
    rw [if_neg (fun e => h e.symm)]
theorem RG.add {N : Nat} {E : Nat → Nat → Bool} {L : List SRadio} (h : RG N E L) {i k : Nat} (hE : EOk E i k) (hik : i < k) (hk : k < N) :
    RG N (addE E i k) ((L.set i ⟨(rad L i).Id, (rad L i).Slot, (rad L i).Hears ++ [(k : Int)]⟩).set k ⟨(rad L k).Id, (rad L k).Slot, (rad L k).Hears ++ [(i : Int)]⟩) := by
  have hl := h.len
  have hr : ∀ j, rad ((L.set i ⟨(rad L i).Id, (rad L i).Slot, (rad L i).Hears ++ [(k : Int)]⟩).set k ⟨(rad L k).Id, (rad L k).Slot, (rad L k).Hears ++ [(i : Int)]⟩) j = if j = k then ⟨(rad L k).Id, (rad L k).Slot, (rad L k).Hears ++ [(i : Int)]⟩ else if j = i then ⟨(rad L i).Id, (rad L i).Slot, (rad L i).Hears ++ [(k : Int)]⟩ else rad L j := fun j => by
    rw [rad_set (by rw [List.length_set]; omega), rad_set (by omega)]
  have hid : ∀ j, (rad ((L.set i ⟨(rad L i).Id, (rad L i).Slot, (rad L i).Hears ++ [(k : Int)]⟩).set k ⟨(rad L k).Id, (rad L k).Slot, (rad L k).Hears ++ [(i : Int)]⟩) j).Id = (rad L j).Id := fun j => by
    rw [hr]; split
    · rename_i e; rw [e]
    · split
      · rename_i e; rw [e]
      · rfl
  have hsl : ∀ j, (rad ((L.set i ⟨(rad L i).Id, (rad L i).Slot, (rad L i).Hears ++ [(k : Int)]⟩).set k ⟨(rad L k).Id, (rad L k).Slot, (rad L k).Hears ++ [(i : Int)]⟩) j).Slot = (rad L j).Slot := fun j => by
    rw [hr]; split
    · rename_i e; rw [e]
    · split
      · rename_i e; rw [e]
      · rfl
  refine ⟨by rw [List.length_set, List.length_set]; exact hl, fun j hj => by rw [hid]; exact h.id j hj, fun j h0 hj => by rw [hid, hid]; exact h.up j h0 hj, fun j hj => by rw [hsl]; exact h.slot j hj, fun j hj => ?_⟩
  rw [hr]
  by_cases e1 : j = k
  · subst e1
    rw [if_pos rfl]
    show (rad L j).Hears ++ [(i : Int)] = _
    have e : addE E i j j = fun b => E j b || decide (b = i) := by
      funext b
      unfold addE
      rw [decide_eq_false (show ¬ j = i by omega), Bool.false_and, Bool.false_or, decide_eq_true (show j = j from rfl), Bool.true_and]
    rw [e, filter_snoc (E j) i N (by omega) (fun b hb => by
      have hs := hE.sym _ _ hb
      by_cases hbj : b < j
      · rcases hE.before b j hs hbj with q | q
        · exact q
        · omega
      · by_cases hjb : j < b
        · rcases hE.before j b hb hjb with q | q <;> omega
        · have : b = j := by omega
          rw [this, hE.irr] at hb; cases hb), List.map_append, h.hears j hj]
    rfl
  · rw [if_neg e1]
    by_cases e2 : j = i
    · subst e2
      rw [if_pos rfl]
      show (rad L j).Hears ++ [(k : Int)] = _
      have e : addE E j k j = fun b => E j b || decide (b = k) := by
        funext b
        unfold addE
        rw [decide_eq_false e1, Bool.false_and, Bool.or_false, decide_eq_true (show j = j from rfl), Bool.true_and]
      rw [e, filter_snoc (E j) k N hk (fun b hb => by
        by_cases hjb : j < b
        · rcases hE.before j b hb hjb with q | q <;> omega
        · omega), List.map_append, h.hears j hj]
      rfl
    · rw [if_neg e2, h.hears j hj]
      have e : addE E i k j = E j := by
        funext b
        unfold addE
        rw [decide_eq_false e1, decide_eq_false e2, Bool.false_and, Bool.false_and, Bool.or_self, Bool.or_false]
      rw [e]
theorem RG.short {N : Nat} {E : Nat → Nat → Bool} {L : List SRadio} (h : RG N E L) (j : Nat) (hj : j < N) : (rad L j).Hears.length ≤ N := by
  rw [h.hears j hj, List.length_map]
  exact Nat.le_trans (List.length_filter_le _ _) (by rw [List.length_range]; exact Nat.le_refl _)
theorem RG.good {N : Nat} {E : Nat → Nat → Bool} {L : List SRadio} (h : RG N E L) {i k : Nat} (hE : EOk E i k) (hN : 1 ≤ N ∧ N ≤ 24) : radiosB L = true := by
  have hl := h.len
  unfold radiosB
  rw [Bool.and_eq_true, decide_eq_true_eq]
  refine ⟨by omega, List.all_eq_true.2 fun j hj => ?_⟩
  have hj := List.mem_range.1 hj
  have hj : j < N := by omega
  have h1 := h.id j hj
  have h3 := h.slot j hj
  unfold radioB
  rw [decide_eq_true (show 1 ≤ (rad L j).Id ∧ (rad L j).Id ≤ 999999999 by omega), decide_eq_true (show 0 ≤ (rad L j).Slot ∧ (rad L j).Slot ≤ 19 by omega), Bool.true_and, Bool.true_and]
  rw [Bool.and_eq_true]
  constructor
  · by_cases h0 : j = 0
    · rw [decide_eq_true h0, Bool.true_or]
    · have := h.up j (by omega) hj
      rw [decide_eq_false (show ¬ (rad L (j - 1)).Id ≥ (rad L j).Id by omega), Bool.not_false, Bool.or_true]
  · refine List.all_eq_true.2 fun q hq => ?_
    have hq := List.mem_range.1 hq
    have hf := h.hears j hj
    generalize hF : (List.range N).filter (E j) = F at hf
    have hlen : (rad L j).Hears.length = F.length := by rw [hf, List.length_map]
    have hq2 : q < F.length := by omega
    have hat : ∀ u, u < F.length → hrs L j u = ((F.getD u 0 : Nat) : Int) := fun u hu => by
      unfold hrs
      rw [hf, getD_eq (by rw [List.length_map]; exact hu), List.getElem_map, getD_eq hu]
    have hmem : F.getD q 0 ∈ F := getD_mem hq2
    rw [← hF] at hmem
    obtain ⟨m1, m2⟩ := List.mem_filter.1 hmem
    rw [hF] at m1 m2
    have m1 := List.mem_range.1 m1
    unfold hearB
    rw [hat q hq2]
    have hin : inB L ((F.getD q 0 : Nat) : Int) = true := by
      unfold inB
      rw [w64_id (by omega) (by omega)]
      exact decide_eq_true (by omega)
    have hne : ¬ F.getD q 0 = j := fun e => by rw [e, hE.irr] at m2; cases m2
    rw [hin, Bool.true_and, decide_eq_false (show ¬ ((F.getD q 0 : Nat) : Int) = (j : Int) by omega), Bool.not_false, Bool.true_and, Bool.and_eq_true]
    constructor
    · by_cases h0 : q = 0
      · rw [decide_eq_true h0, Bool.true_or]
      · have hs : F.Pairwise (· < ·) := by rw [← hF]; exact (List.pairwise_lt_range).filter _
        have hlt : F.getD (q - 1) 0 < F.getD q 0 := by
          rw [getD_eq (show q - 1 < F.length by omega), getD_eq hq2]
          exact List.pairwise_iff_getElem.1 hs (q - 1) q _ _ (by omega)
        rw [hat (q - 1) (by omega), decide_eq_false (show ¬ ((F.getD (q - 1) 0 : Nat) : Int) ≥ ((F.getD q 0 : Nat) : Int) by omega), Bool.not_false, Bool.or_true]
    · rw [Int.toNat_natCast]
      have hin2 : (j : Int) ∈ (rad L (F.getD q 0)).Hears := by
        rw [h.hears _ m1]
        exact List.mem_map.2 ⟨j, List.mem_filter.2 ⟨List.mem_range.2 hj, hE.sym _ _ m2⟩, rfl⟩
      unfold hasB
      obtain ⟨u, hu, he⟩ := List.getElem_of_mem hin2
      exact any_range_of hu (by rw [getD_eq hu, he]; exact decide_eq_true rfl)
end Go.Sm
end

section
set_option linter.unusedSimpArgs false
set_option linter.deprecated false
set_option linter.unusedSectionVars false
set_option linter.unusedVariables false
set_option linter.unusedSimpArgs false
namespace Go.Sm
attribute [local irreducible] bd chk ix loopN
/-! ### The radios that are drawn -/
def edge (L : List SRadio) (i k : Nat) : List SRadio := (L.set i ⟨(rad L i).Id, (rad L i).Slot, (rad L i).Hears ++ [(k : Int)]⟩).set k ⟨(rad L k).Id, (rad L k).Slot, (rad L k).Hears ++ [(i : Int)]⟩
theorem edge_k1 {R : Type} {n : Nat} (kx : Sl1Cur → List SRadio → Option R) (J : Int → Sl1Cur → List SRadio → Option R) (N few : Int) {i k : Nat} (p : Sl1Cur) {L : List SRadio} (hik : i < k) (hk : k < L.length) (hl : L.length ≤ 24) (hh : ∀ j, j < L.length → (rad L j).Hears.length ≤ 24) :
    spec_l9DrawRadios_k1 n kx J N few (i : Int) (k : Int) p L = J ((k + 1 : Nat) : Int) p (edge L i k) := by
  have hi : i < L.length := by omega
  have h1 := hh i hi
  have h2 := hh k hk
  have hk2 : k < (L.set i ⟨(rad L i).Id, (rad L i).Slot, (rad L i).Hears ++ [(k : Int)]⟩).length := by rw [List.length_set]; exact hk
  have er : (L.set i ⟨(rad L i).Id, (rad L i).Slot, (rad L i).Hears ++ [(k : Int)]⟩).getD k dSRadio = rad L k := (rad_set hi).trans (if_neg (by omega))
  unfold spec_l9DrawRadios_k1
  rw [ix_nat hi, Int.toNat_natCast, chk_dec hi, chk_dec hi, chk_dec (by rw [List.length_append]; simp only [List.length_singleton]; show ((rad L i).Hears.length + 1) * 8 ≤ _; omega), ix_nat hi, chk_dec hi, bd_eq, chk_dec rfl, bd_eq, ix_nat hk2, Int.toNat_natCast, chk_dec hk2, chk_dec hk2]
  rw [er, chk_dec (by rw [List.length_append]; simp only [List.length_singleton]; omega), ix_nat hk2, chk_dec hk2, bd_eq, chk_dec rfl, bd_eq, w64_succ (show k < 9223372036854775807 by omega)]
  rfl
theorem edge_k2 {R : Type} {n : Nat} (kx : Sl1Cur → List SRadio → Option R) (J : Int → Sl1Cur → List SRadio → Option R) (N few : Int) (i k : Int) (b : Bool) (p : Sl1Cur) (L : List SRadio) : spec_l9DrawRadios_k2 n kx J N few i k b p L = bif b then spec_l9DrawRadios_k1 n kx J N few i k p L else J (w64 (k + 1)) p L := rfl
theorem pair_step {R : Type} {n : Nat} (kx : Sl1Cur → List SRadio → Option R) (J : Int → Sl1Cur → List SRadio → Option R) {N f i k : Nat} {E : Nat → Nat → Bool} {p : Sl1Cur} {L : List SRadio} (hN : N ≤ 24) (hf : 1 ≤ f ∧ f ≤ 4) (hp : CurOk p) (hL : RG N E L) (hE : EOk E i k) (hik : i < k) (hk : k < N) :
    ∃ p' L' E', spec_l9DrawRadios_L17 n kx J (N : Int) (f : Int) (i : Int) (k : Int) p L = J ((k + 1 : Nat) : Int) p' L' ∧ Mv p p' ∧ RG N E' L' ∧ EOk E' i (k + 1) ∧ (AtEnd p → N = 24 → ∀ m, pairsK (m + 1) f (res p.h) = pairsK m f (res p'.h)) := by
  have hl := hL.len
  have hh : ∀ j, j < L.length → (rad L j).Hears.length ≤ 24 := fun j hj => Nat.le_trans (hL.short j (by omega)) hN
  have ew : w64 ((k : Int) + 1) = ((k + 1 : Nat) : Int) := w64_succ (by omega)
  obtain ⟨v, p1, a1, a2, a3, a4⟩ := once_mv (n := n) hp (m := f) (by omega)
  unfold spec_l9DrawRadios_L17 spec_l9DrawRadios_k3
  rw [decide_eq_true (Int.ofNat_lt.2 hk), cond_true, a1, Option.bind_some]
  dsimp only
  have hadd := hL.add hE hik hk
  cases v with
  | true =>
    rw [cond_true, edge_k1 kx J _ _ p1 hik (by omega) (by omega) hh]
    refine ⟨p1, _, _, rfl, a2, hadd, addE_ok hE hik, fun e e24 m => ?_⟩
    obtain ⟨q1, q2⟩ := a4 e
    rw [pairsK_succ, if_pos (of_decide_eq_true q1.symm), q2]
  | false =>
    rw [cond_false]
    by_cases h24 : N = 24
    · rw [decide_eq_true (show (N : Int) = 24 by omega), cond_true]
      obtain ⟨w, p2, b1, b2, b3, b4⟩ := once_mv (n := n) a2.ok (m := 9) (by omega)
      have b1 : spec_l1Once n p1 9 = some (w, p2) := b1
      rw [b1, Option.bind_some, edge_k2]
      dsimp only
      have hpk : AtEnd p → N = 24 → ∀ m, pairsK (m + 1) f (res p.h) = pairsK m f (res p2.h) := fun e e24 m => by
        obtain ⟨q1, q2⟩ := a4 e
        obtain ⟨q3, q4⟩ := b4 (a2.atEnd e)
        rw [pairsK_succ, if_neg (of_decide_eq_false q1.symm), q4, q2]
      cases w with
      | true =>
        rw [Bool.not_true, cond_false, ew]
        exact ⟨p2, L, E, rfl, a2.trans b2, hL, hE.skip, hpk⟩
      | false =>
        rw [Bool.not_false, cond_true, edge_k1 kx J _ _ p2 hik (by omega) (by omega) hh]
        exact ⟨p2, _, _, rfl, a2.trans b2, hadd, addE_ok hE hik, hpk⟩
    · rw [decide_eq_false (show ¬ (N : Int) = 24 by omega), cond_false, ew]
      exact ⟨p1, L, E, rfl, a2, hL, hE.skip, fun e e24 => absurd e24 h24⟩
def triN : Nat → Nat
  | 0 => 0
  | d + 1 => triN d + d
/-- A row's pairs: from k on. -/
theorem row_ok {R : Type} {n : Nat} {Q : Option R → Prop} (kx : Sl1Cur → List SRadio → Option R) {N f i : Nat} (hN : N ≤ 24) (hf : 1 ≤ f ∧ f ≤ 4) (hi : i < N) (c0 : Sl1Cur) (A : Prop) (hA : A → AtEnd c0) (G : Nat)
    (hQ : ∀ p L E, Mv c0 p → RG N E L → EOk E (i + 1) (i + 2) → (A → N = 24 → pairsK (triN (N - (i + 1))) f (res p.h) = G) → Q (kx p L)) :
    ∀ d k fu p L E, k + d = N → i < k → d < fu → Mv c0 p → RG N E L → EOk E i k → (A → N = 24 → pairsK (d + triN (N - (i + 1))) f (res p.h) = G) →
      Q (loopN (fun (x : Int × Sl1Cur × List SRadio) J' => spec_l9DrawRadios_L17 n kx (fun k82 p83 out84 => J' (k82, p83, out84)) (N : Int) (f : Int) (i : Int) x.1 x.2.1 x.2.2) fu ((k : Int), p, L))
  | 0, k, fu, p, L, E, hk, hik, hfu, hm, hL, hE, hG => by
    obtain ⟨m, rfl⟩ : ∃ m, fu = m + 1 := ⟨fu - 1, by omega⟩
    have hk : k = N := by omega
    rw [loopN_succ]
    unfold spec_l9DrawRadios_L17
    dsimp only
    rw [decide_eq_false (show ¬ (k : Int) < (N : Int) by omega), cond_false]
    exact hQ p L E hm hL hE.row fun e e24 => by rw [← hG e e24, Nat.zero_add]
  | d + 1, k, fu, p, L, E, hk, hik, hfu, hm, hL, hE, hG => by
    obtain ⟨m, rfl⟩ : ∃ m, fu = m + 1 := ⟨fu - 1, by omega⟩
    rw [loopN_succ]
    obtain ⟨p', L', E', e1, e2, e3, e4, e5⟩ := pair_step (n := n) kx (fun k82 p83 out84 => loopN (fun (x : Int × Sl1Cur × List SRadio) J' => spec_l9DrawRadios_L17 n kx (fun k82 p83 out84 => J' (k82, p83, out84)) (N : Int) (f : Int) (i : Int) x.1 x.2.1 x.2.2) m (k82, p83, out84)) hN hf hm.ok hL hE hik (by omega)
    dsimp only
    rw [e1]
    exact row_ok kx hN hf hi c0 A hA G hQ d (k + 1) m p' L' E' (by omega) (by omega) (by omega) (hm.trans e2) e3 e4 fun e e24 => by
      rw [← hG e e24, show d + 1 + triN (N - (i + 1)) = (d + triN (N - (i + 1))) + 1 by omega]
      exact (e5 (hm.atEnd (hA e)) e24 _).symm
/-- All pairs: from row i on. -/
theorem rows_ok {R : Type} {n : Nat} {Q : Option R → Prop} (kx : List SRadio → Sl1Cur → Option R) {N f : Nat} (hN : 1 ≤ N ∧ N ≤ 24) (hf : 1 ≤ f ∧ f ≤ 4) (hn : 1000000000 < n) (c0 : Sl1Cur) (A : Prop) (hA : A → AtEnd c0) (G : Nat)
    (hQ : ∀ p L, Mv c0 p → L.length = N → radiosB L = true → (∀ j, j < N → (rad L j).Hears.length ≤ N) → (A → N = 24 → res p.h = G) → Q (kx L p)) :
    ∀ d i fu p L E, i + d = N → d < fu → Mv c0 p → RG N E L → EOk E i (i + 1) → (A → N = 24 → pairsK (triN (N - i)) f (res p.h) = G) →
      Q (loopN (fun (x : Int × Sl1Cur × List SRadio) J' => spec_l9DrawRadios_L14 n kx (fun i104 p105 out106 => J' (i104, p105, out106)) (N : Int) (f : Int) x.1 x.2.1 x.2.2) fu ((i : Int), p, L))
  | 0, i, fu, p, L, E, hi, hfu, hm, hL, hE, hG => by
    obtain ⟨m, rfl⟩ : ∃ m, fu = m + 1 := ⟨fu - 1, by omega⟩
    rw [loopN_succ]
    unfold spec_l9DrawRadios_L14
    dsimp only
    rw [decide_eq_false (show ¬ (i : Int) < (N : Int) by omega), cond_false]
    refine hQ p L hm hL.len (hL.good hE hN) (fun j hj => hL.short j hj) fun e e24 => ?_
    rw [← hG e e24, show N - i = 0 by omega]
    unfold triN pairsK
    rfl
  | d + 1, i, fu, p, L, E, hi, hfu, hm, hL, hE, hG => by
    obtain ⟨m, rfl⟩ : ∃ m, fu = m + 1 := ⟨fu - 1, by omega⟩
    rw [loopN_succ]
    unfold spec_l9DrawRadios_L14
    dsimp only
    have ew : w64 ((i : Int) + 1) = ((i + 1 : Nat) : Int) := w64_succ (by omega)
    rw [decide_eq_true (show (i : Int) < (N : Int) by omega), cond_true, ew]
    refine row_ok (n := n) (Q := Q) _ hN.2 hf (i := i) (by omega) c0 A hA G (fun p' L' E' g1 g2 g3 g4 => ?_) d (i + 1) n p L E (by omega) (by omega) (by omega) hm hL hE fun e e24 => ?_
    · exact rows_ok kx hN hf hn c0 A hA G hQ d (i + 1) m p' L' E' (by omega) (by omega) g1 g2 g3 g4
    · have h := hG e e24
      rw [show N - i = d + 1 by omega] at h
      have : triN (d + 1) = triN d + d := rfl
      rw [this] at h
      rw [show N - (i + 1) = d by omega, Nat.add_comm]
      exact h
end Go.Sm
end

section
set_option linter.unusedSimpArgs false
set_option linter.deprecated false
set_option linter.unusedSectionVars false
set_option linter.unusedVariables false
set_option linter.unusedSimpArgs false
namespace Go.Sm
attribute [local irreducible] bd chk ix loopN
structure R1 (k : Nat) (id : Int) (L : List SRadio) : Prop where
  len : L.length = k
  top : 0 ≤ id ∧ id ≤ 51 * (k : Int)
  ids : ∀ j, j < k → 1 ≤ (rad L j).Id ∧ (rad L j).Id ≤ id
  up : ∀ j, 0 < j → j < k → (rad L (j - 1)).Id < (rad L j).Id
  slot : ∀ j, j < k → 0 ≤ (rad L j).Slot ∧ (rad L j).Slot ≤ 7
  none : ∀ j, j < k → (rad L j).Hears = []
theorem rad_snoc (L : List SRadio) (r : SRadio) (j : Nat) : rad (L ++ [r]) j = if j < L.length then rad L j else if j = L.length then r else dSRadio := by
  unfold rad
  rw [List.getD_eq_getElem?_getD]
  by_cases h : j < L.length
  · rw [if_pos h, List.getElem?_append_left h, List.getD_eq_getElem?_getD]
  · rw [if_neg h, List.getElem?_append_right (by omega)]
    by_cases e : j = L.length
    · rw [if_pos e, e, Nat.sub_self]; rfl
    · rw [if_neg e]
      obtain ⟨m, hm⟩ : ∃ m, j - L.length = m + 1 := ⟨j - L.length - 1, by omega⟩
      rw [hm]; rfl
theorem R1.add {k : Nat} {id : Int} {L : List SRadio} (h : R1 k id L) {a s : Int} (ha : 0 ≤ a ∧ a < 50) (hs : 0 ≤ s ∧ s ≤ 7) : R1 (k + 1) (id + 1 + a) (L ++ [⟨id + 1 + a, s, []⟩]) := by
  have hl := h.len
  have ht := h.top
  have hr : ∀ j, j < k + 1 → rad (L ++ [⟨id + 1 + a, s, []⟩]) j = if j < k then rad L j else ⟨id + 1 + a, s, []⟩ := fun j hj => by
    rw [rad_snoc, hl]
    by_cases h1 : j < k
    · rw [if_pos h1, if_pos h1]
    · rw [if_neg h1, if_neg h1, if_pos (by omega)]
  refine ⟨by rw [List.length_append, hl]; rfl, by omega, fun j hj => ?_, fun j h0 hj => ?_, fun j hj => ?_, fun j hj => ?_⟩
  · rw [hr j hj]; split
    · rename_i h1; have := h.ids j h1; omega
    · dsimp only; omega
  · rw [hr j hj, hr (j - 1) (by omega), if_pos (show j - 1 < k by omega)]
    split
    · rename_i h1; exact h.up j h0 h1
    · have := h.ids (j - 1) (by omega); dsimp only; omega
  · rw [hr j hj]; split
    · rename_i h1; exact h.slot j h1
    · exact hs
  · rw [hr j hj]; split
    · rename_i h1; exact h.none j h1
    · rfl
theorem R1.rg {N : Nat} {id : Int} {L : List SRadio} (h : R1 N id L) (hN : N ≤ 24) : RG N (fun _ _ => false) L ∧ EOk (fun _ _ => false) 0 1 := by
  have ht := h.top
  refine ⟨⟨h.len, fun j hj => ?_, h.up, h.slot, fun j hj => ?_⟩, ⟨fun a b g => (by cases g), fun a => rfl, fun a b g => (by cases g)⟩⟩
  · have := h.ids j hj; omega
  · rw [h.none j hj, List.filter_eq_nil_iff.2 (fun x hx => by simp)]; rfl
theorem lK_next (j s : Nat) : lN (lK j s) = lK (j + 1) s := by rw [lK_add, lK_succ, lK_zero]
theorem tri24 : triN 24 = 276 := rfl
/-- From the number of radios on. -/
theorem core_ok {n : Nat} {N : Nat} (hN : 1 ≤ N ∧ N ≤ 24) {p : Sl1Cur} (hc : CurOk p) (A : Prop) (hA : A → AtEnd p) (s0 : Nat) (hp : A → res p.h = lK 2 s0) (hn : 1000000000 < n) :
    ∃ l c', spec_l9DrawRadios_k5 n (N : Int) p = some (l, c') ∧ Mv p c' ∧ l.length = N ∧ radiosB l = true ∧ (∀ j, j < N → (rad l j).Hears.length ≤ N) ∧ (A → N = 24 → res c'.h = finK (s0)) := by
  obtain ⟨v, p1, a1, a2, a3, _, a4⟩ := below_mv (n := n) hc (m := 8) (by omega)
  have a1 : spec_l1Below n p 8 = some (v, p1) := a1
  have e1 : w64 (1 + v) = 1 + v := w64_id (by omega) (by omega)
  obtain ⟨S, hS⟩ : ∃ S : Nat, 1 + v = (S : Int) := ⟨(1 + v).toNat, by omega⟩
  have hS8 : 1 ≤ S ∧ S ≤ 8 := by omega
  unfold spec_l9DrawRadios_k5
  rw [a1, Option.bind_some, bd_eq]
  dsimp only
  rw [e1, hS]
  have hm1 := a3
  have hp1 : A → res p1.h = lK 3 (s0) := fun e => by
    obtain ⟨_, q⟩ := a4 (hA e)
    rw [q, hp e, lK_next]
  refine loop_runS (S := Int × Sl1Cur × List SRadio) (X := Int × Int × Sl1Cur × List SRadio) (enc := fun i x => (x.1, i, x.2.1, x.2.2)) (len := N) (I := fun k x => R1 k x.1 x.2.2 ∧ Mv p x.2.1 ∧ (A → res x.2.1.h = lK (3 + 2 * k) (s0))) (Q := fun r => ∃ (l : List SRadio) (c' : Sl1Cur), r = some (l, c') ∧ Mv p c' ∧ l.length = N ∧ radiosB l = true ∧ (∀ j, j < N → (rad l j).Hears.length ≤ N) ∧ (A → N = 24 → res c'.h = finK (s0))) (fun k x J hk hi => ?_) (fun x J hi => ?_) (n := n) (by omega) (s0 := (0, p1, [])) ⟨⟨rfl, by dsimp only; omega, fun j hj => absurd hj (Nat.not_lt_zero _), fun j _ hj => absurd hj (Nat.not_lt_zero _), fun j hj => absurd hj (Nat.not_lt_zero _), fun j hj => absurd hj (Nat.not_lt_zero _)⟩, hm1, hp1⟩
  · obtain ⟨x1, x2, x3⟩ := x
    obtain ⟨h1, h2, h3⟩ := hi
    dsimp only at h1 h2 h3 ⊢
    obtain ⟨w, p2, b1, b2, b3, _, b4⟩ := below_mv (n := n) h2.ok (m := 50) (by omega)
    have b1 : spec_l1Below n x2 50 = some (w, p2) := b1
    obtain ⟨u, p3, c1, c2, c3, _, c4⟩ := below_mv (n := n) b3.ok (m := S) (by omega)
    have ht := h1.top
    have hlen := h1.len
    have e2 : w64 (w64 (x1 + 1) + w) = x1 + 1 + w := by rw [w64_id (x := x1 + 1) (by omega) (by omega), w64_id (by omega) (by omega)]
    refine ⟨(x1 + 1 + w, p3, x3 ++ [⟨x1 + 1 + w, u, []⟩]), ⟨h1.add ⟨b2.1, by omega⟩ ⟨c2.1, by omega⟩, (h2.trans b3).trans c3, fun e => ?_⟩, ?_⟩
    · obtain ⟨_, q1⟩ := b4 (h2.atEnd (hA e))
      obtain ⟨_, q2⟩ := c4 ((h2.trans b3).atEnd (hA e))
      show res p3.h = _
      rw [q2, q1, h3 e, lK_next, lK_next]
      rfl
    · unfold spec_l9DrawRadios_L8 spec_l9DrawRadios_k0
      rw [decide_eq_true (show (k : Int) < (N : Int) by omega), cond_true, b1, Option.bind_some]
      dsimp only
      rw [e2, bd_eq, c1, Option.bind_some, bd_eq]
      dsimp only
      rw [chk_dec (by rw [List.length_append]; simp only [List.length_singleton]; omega), w64_succ (show k < 9223372036854775807 by omega)]
  · obtain ⟨x1, x2, x3⟩ := x
    obtain ⟨h1, h2, h3⟩ := hi
    dsimp only at h1 h2 h3 ⊢
    obtain ⟨w, p2, b1, b2, b3, _, b4⟩ := below_mv (n := n) h2.ok (m := 3) (by omega)
    have b1 : spec_l1Below n x2 3 = some (w, p2) := b1
    have e2 : w64 (2 + w) = 2 + w := w64_id (by omega) (by omega)
    obtain ⟨f, hf⟩ : ∃ f : Nat, 2 + w = (f : Int) := ⟨(2 + w).toNat, by omega⟩
    unfold spec_l9DrawRadios_L8
    rw [decide_eq_false (Int.lt_irrefl _), cond_false]
    dsimp only
    rw [b1, Option.bind_some]
    dsimp only
    rw [e2, bd_eq, hf]
    obtain ⟨g1, g2⟩ := h1.rg hN.2
    refine rows_ok (n := n) (Q := fun r => ∃ (l : List SRadio) (c' : Sl1Cur), r = some (l, c') ∧ Mv p c' ∧ l.length = N ∧ radiosB l = true ∧ (∀ j, j < N → (rad l j).Hears.length ≤ N) ∧ (A → N = 24 → res c'.h = finK s0)) _ hN (f := f) (by omega) hn p A hA (finK s0) (fun p' L' q1 q2 q3 q4 q5 => ⟨L', p', rfl, q1, q2, q3, q4, q5⟩) N 0 n p2 x3 (fun _ _ => false) (by omega) (by omega) (h2.trans b3) g1 g2 fun e e24 => ?_
    obtain ⟨q1, q2⟩ := b4 (h2.atEnd (hA e))
    have h3 := h3 e
    subst e24
    rw [q2, h3, lK_next, finK_eq, show 24 - 0 = 24 from rfl, tri24]
    rw [h3, lK_next] at q1
    have : f = 2 + lB (lK 52 (s0)) % 3 := by
      have q1 : w = ((lB (lK 52 (s0)) % 3 : Nat) : Int) := q1
      omega
    rw [this]
theorem k4_eq (n : Nat) (p : Sl1Cur) : spec_l9DrawRadios_k4 n p = spec_l9DrawRadios_k5 n 24 p := by
  unfold spec_l9DrawRadios_k4 spec_l9DrawRadios_k5
  simp only [bd_eq]
theorem drawR_ok {n : Nat} {c0 : Sl1Cur} (h : CurOk c0) (hn : 1000000000 < n) : ∃ l c', spec_l9DrawRadios n c0 = some (l, c') ∧ Mv c0 c' ∧ (c0.i < (c0.b.length : Int) → c0.i < c'.i) ∧ l.length ≤ 24 ∧ radiosB l = true ∧ (∀ j, j < l.length → (rad l j).Hears.length ≤ 24) ∧ (AtEnd c0 → l.length = 24 → endsK (res c0.h) = false ∧ res c'.h = finK (res c0.h)) := by
  obtain ⟨v, p1, a1, a2, a3, a5, a4⟩ := below_mv (n := n) h (m := 9) (by omega)
  have a1 : spec_l1Below n c0 9 = some (v, p1) := a1
  obtain ⟨w, p2, b1, b2, _, b4⟩ := once_mv (n := n) a3.ok (m := 20) (by omega)
  have b1 : spec_l1Once n p1 20 = some (w, p2) := b1
  have hm := a3.trans b2
  have hp : AtEnd c0 → res p2.h = lK 2 (res c0.h) := fun e => by
    obtain ⟨_, q1⟩ := a4 e
    obtain ⟨_, q2⟩ := b4 (a3.atEnd e)
    rw [q2, q1, show (2 : Nat) = 1 + 1 from rfl, lK_succ, lK_succ, lK_zero]
  have hadv : ∀ {c' : Sl1Cur}, Mv p2 c' → c0.i < (c0.b.length : Int) → c0.i < c'.i := fun hc hl => by
    have h1 := a5 hl
    have h2 := b2.le
    have h3 := hc.le
    omega
  unfold spec_l9DrawRadios
  rw [a1, Option.bind_some]; dsimp only
  rw [b1, Option.bind_some]; dsimp only
  cases w with
  | true =>
    rw [cond_true, k4_eq]
    obtain ⟨l, c', d1, d2, d3, d4, d5, d6⟩ := core_ok (n := n) (N := 24) (by omega) b2.ok (AtEnd c0) (fun e => hm.atEnd e) (res c0.h) hp hn
    have d1 : spec_l9DrawRadios_k5 n 24 p2 = some (l, c') := d1
    refine ⟨l, c', d1, hm.trans d2, hadv d2, by omega, d4, fun j hj => d5 j (by omega), fun e _ => ⟨?_, d6 e rfl⟩⟩
    obtain ⟨q1, q2⟩ := a4 e
    obtain ⟨q3, q4⟩ := b4 (a3.atEnd e)
    rw [endsK_eq, ← q2, ← q3]
    rfl
  | false =>
    rw [cond_false]
    have e1 : w64 (1 + v) = 1 + v := w64_id (by omega) (by omega)
    obtain ⟨N, hN⟩ : ∃ N : Nat, 1 + v = (N : Int) := ⟨(1 + v).toNat, by omega⟩
    rw [e1, hN]
    obtain ⟨l, c', d1, d2, d3, d4, d5, d6⟩ := core_ok (n := n) (N := N) (by omega) b2.ok (AtEnd c0) (fun e => hm.atEnd e) (res c0.h) hp hn
    exact ⟨l, c', d1, hm.trans d2, hadv d2, by omega, d4, fun j hj => Nat.le_trans (d5 j (by omega)) (by omega), fun e e24 => absurd e24 (by omega)⟩
end Go.Sm
end

section
set_option linter.unusedSimpArgs false
set_option linter.deprecated false
set_option linter.unusedSectionVars false
set_option linter.unusedVariables false
set_option linter.unusedSimpArgs false
namespace Go.Sm
attribute [local irreducible] bd chk ix loopN
/-! ### Drawn till the list is short -/
structure GL (l : List SRadio) : Prop where
  len : l.length ≤ 24
  ok : radiosB l = true
  short : ∀ j, j < l.length → (rad l j).Hears.length ≤ 24
theorem quiet_end {R : Type} {n : Nat} (kx : Sl1Cur → List SRadio → Option R) (hn : 1000000000 < n) {M s : Nat} (h : EndsIn M s) : ∀ (c : Sl1Cur) (l : List SRadio) (fu : Nat), CurOk c → AtEnd c → res c.h = s → l.length = 24 → M + 1 ≤ fu →
    ∃ c' l', loopN (fun (x : Sl1Cur × List SRadio) J' => spec_DrawQuiet_L3 n kx (fun t11 list12 => J' (t11, list12)) x.1 x.2) fu (c, l) = kx c' l' ∧ CurOk c' ∧ GL l' := by
  induction h with
  | now m he =>
    intro c l fu hc e hs hl hfu
    obtain ⟨f, rfl⟩ : ∃ f, fu = f + 1 + 1 := ⟨fu - 2, by omega⟩
    obtain ⟨l1, c1, d1, d2, _, d4, d5, d6, d7⟩ := drawR_ok (n := n) hc hn
    have h24 : ¬ l1.length = 24 := fun h24 => by
      obtain ⟨q, _⟩ := d7 e h24
      rw [hs, he] at q; cases q
    refine ⟨c1, l1, ?_, d2.ok, ⟨d4, d5, d6⟩⟩
    rw [loopN_succ]
    unfold spec_DrawQuiet_L3
    dsimp only
    rw [decide_eq_true (show (l.length : Int) = 24 by omega), cond_true, d1, Option.bind_some]
    dsimp only
    rw [loopN_succ]
    dsimp only
    rw [decide_eq_false (show ¬ (l1.length : Int) = 24 by omega), cond_false]
  | more hg ih =>
    intro c l fu hc e hs hl hfu
    obtain ⟨f, rfl⟩ : ∃ f, fu = f + 1 + 1 := ⟨fu - 2, by omega⟩
    obtain ⟨l1, c1, d1, d2, _, d4, d5, d6, d7⟩ := drawR_ok (n := n) hc hn
    by_cases h24 : l1.length = 24
    · obtain ⟨_, q⟩ := d7 e h24
      obtain ⟨c', l', k1, k2, k3⟩ := ih c1 l1 (f + 1) d2.ok (d2.atEnd e) (by rw [q, hs]) h24 (by omega)
      refine ⟨c', l', ?_, k2, k3⟩
      rw [loopN_succ]
      unfold spec_DrawQuiet_L3
      dsimp only
      rw [decide_eq_true (show (l.length : Int) = 24 by omega), cond_true, d1, Option.bind_some]
      dsimp only
      exact k1
    · refine ⟨c1, l1, ?_, d2.ok, ⟨d4, d5, d6⟩⟩
      rw [loopN_succ]
      unfold spec_DrawQuiet_L3
      dsimp only
      rw [decide_eq_true (show (l.length : Int) = 24 by omega), cond_true, d1, Option.bind_some]
      dsimp only
      rw [loopN_succ]
      dsimp only
      rw [decide_eq_false (show ¬ (l1.length : Int) = 24 by omega), cond_false]
theorem res_lt (h : Int) : res h < 9007199254740992 := by unfold res; omega
theorem quiet_any {R : Type} {n : Nat} (kx : Sl1Cur → List SRadio → Option R) (hn : 1000000000 < n) : ∀ (d : Nat) (c : Sl1Cur) (l : List SRadio) (fu : Nat), CurOk c → GL l → (c.b.length : Int) - c.i ≤ (d : Int) → d + 9007199254750002 ≤ fu →
    ∃ c' l', loopN (fun (x : Sl1Cur × List SRadio) J' => spec_DrawQuiet_L3 n kx (fun t11 list12 => J' (t11, list12)) x.1 x.2) fu (c, l) = kx c' l' ∧ CurOk c' ∧ GL l' := by
  intro d
  induction d with
  | zero =>
    intro c l fu hc hl hd hfu
    by_cases h24 : l.length = 24
    · exact quiet_end kx hn (ends_all (res c.h) (res_lt c.h)) c l fu hc (by unfold AtEnd; omega) rfl h24 (by omega)
    · obtain ⟨f, rfl⟩ : ∃ f, fu = f + 1 := ⟨fu - 1, by omega⟩
      refine ⟨c, l, ?_, hc, hl⟩
      rw [loopN_succ]
      unfold spec_DrawQuiet_L3
      dsimp only
      rw [decide_eq_false (show ¬ (l.length : Int) = 24 by omega), cond_false]
  | succ d ih =>
    intro c l fu hc hl hd hfu
    obtain ⟨f, rfl⟩ : ∃ f, fu = f + 1 := ⟨fu - 1, by omega⟩
    by_cases h24 : l.length = 24
    · by_cases e : AtEnd c
      · exact quiet_end kx hn (ends_all (res c.h) (res_lt c.h)) c l (f + 1) hc e rfl h24 (by omega)
      · unfold AtEnd at e
        obtain ⟨l1, c1, d1, d2, d3, d4, d5, d6, _⟩ := drawR_ok (n := n) hc hn
        have h3 := d3 (by omega)
        have hb := d2.b
        obtain ⟨c', l', k1, k2, k3⟩ := ih c1 l1 f d2.ok ⟨d4, d5, d6⟩ (by rw [hb]; omega) (by omega)
        refine ⟨c', l', ?_, k2, k3⟩
        rw [loopN_succ]
        unfold spec_DrawQuiet_L3
        dsimp only
        rw [decide_eq_true (show (l.length : Int) = 24 by omega), cond_true, d1, Option.bind_some]
        dsimp only
        exact k1
    · refine ⟨c, l, ?_, hc, hl⟩
      rw [loopN_succ]
      unfold spec_DrawQuiet_L3
      dsimp only
      rw [decide_eq_false (show ¬ (l.length : Int) = 24 by omega), cond_false]
theorem below_big {n : Nat} {c : Sl1Cur} (h : CurOk c) : ∃ v c', spec_l1Below n c 1000 = some (v, c') ∧ 0 ≤ v ∧ CurOk c' := by
  obtain ⟨v1, c1, a1, r1, b1⟩ := byte_ok (n := n) h
  obtain ⟨v2, c2, a2, r2, b2⟩ := byte_ok (n := n) b1
  obtain ⟨v3, c3, a3, r3, b3⟩ := byte_ok (n := n) b2
  obtain ⟨v4, c4, a4, r4, b4⟩ := byte_ok (n := n) b3
  unfold spec_l1Below
  rw [decide_eq_false (show ¬ (1000 : Int) ≤ 0 by decide), cond_false, decide_eq_false (show ¬ (1000 : Int) ≤ 256 by decide), cond_false]
  unfold spec_l1Below_k0
  rw [a1, Option.bind_some]; dsimp only
  rw [a2, Option.bind_some]; dsimp only
  rw [a3, Option.bind_some]; dsimp only
  rw [a4, Option.bind_some]; dsimp only
  simp only [bd_eq]
  rw [decide_eq_false (show ¬ (1000 : Int) = 0 by decide), cond_false]
  have e1 : w64 (v1 * 16777216) = v1 * 16777216 := w64_id (by omega) (by omega)
  have e2 : w64 (v2 * 65536) = v2 * 65536 := w64_id (by omega) (by omega)
  have e3 : w64 (v3 * 256) = v3 * 256 := w64_id (by omega) (by omega)
  rw [e1, e2, e3, w64_id (x := v1 * 16777216 + v2 * 65536) (by omega) (by omega), w64_id (x := v1 * 16777216 + v2 * 65536 + v3 * 256) (by omega) (by omega), w64_id (by omega) (by omega)]
  exact ⟨_, _, rfl, Int.tmod_nonneg _ (by omega), b4⟩
theorem coins_ok {n : Nat} {c : Sl1Cur} (h : CurOk c) {N : Nat} (hN : N ≤ 24) (hn : 1000000000 < n) : ∃ l c', spec_l9DrawCoins n c (N : Int) = some (l, c') ∧ l.length = N ∧ ∀ x ∈ l, 0 ≤ x := by
  unfold spec_l9DrawCoins
  refine loop_runS (S := Sl1Cur × List Int) (X := Int × Sl1Cur × List Int) (enc := fun i x => (i, x.1, x.2)) (len := N) (I := fun k x => CurOk x.1 ∧ x.2.length = k ∧ ∀ y ∈ x.2, 0 ≤ y) (Q := fun r => ∃ (l : List Int) (c' : Sl1Cur), r = some (l, c') ∧ l.length = N ∧ ∀ x ∈ l, 0 ≤ x) (fun k x J hk hi => ?_) (fun x J hi => ?_) (n := n) (by omega) (s0 := (c, [])) ⟨h, rfl, fun y hy => by cases hy⟩
  · obtain ⟨x1, x2⟩ := x
    obtain ⟨h1, h2, h3⟩ := hi
    dsimp only at h1 h2 h3 ⊢
    obtain ⟨v, c1, a1, a2, a3⟩ := below_big (n := n) h1
    refine ⟨(c1, x2 ++ [v]), ⟨a3, by rw [List.length_append, h2]; rfl, fun y hy => ?_⟩, ?_⟩
    · rcases List.mem_append.1 hy with g | g
      · exact h3 y g
      · rw [List.mem_singleton.1 g]; exact a2
    · unfold spec_l9DrawCoins_L3
      rw [decide_eq_true (show (k : Int) < (N : Int) by omega), cond_true, a1, Option.bind_some]
      dsimp only
      rw [chk_dec (by rw [List.length_append]; simp only [List.length_singleton]; omega), w64_succ (show k < 9223372036854775807 by omega)]
  · obtain ⟨x1, x2⟩ := x
    obtain ⟨h1, h2, h3⟩ := hi
    dsimp only at h1 h2 h3 ⊢
    unfold spec_l9DrawCoins_L3
    rw [decide_eq_false (Int.lt_irrefl _), cond_false]
    exact ⟨_, _, rfl, h2, h3⟩
theorem quiet_ok {n : Nat} (code : List Int) (hc : code.length ≤ 1048576) (hn : 9007199260000000 ≤ n) : ∃ l coins, spec_DrawQuiet n code = some (l, coins) ∧ GL l ∧ coins.length ≤ 24 ∧ ∀ x ∈ coins, 0 ≤ x := by
  have hn' : 1000000000 < n := by omega
  obtain ⟨c, h1, h2⟩ := new_ok (n := n) code hc hn'
  obtain ⟨l1, c1, d1, d2, _, d4, d5, d6, _⟩ := drawR_ok (n := n) h2 hn'
  have hb := d2.ok.len
  have hi := d2.ok.i
  obtain ⟨c2, l2, k1, k2, k3⟩ := quiet_any (n := n) (fun t8 list9 => (spec_l9DrawCoins n t8 (list9.length : Int)).bind fun r10 => some (list9, r10.1)) hn' 1048576 c1 l1 n d2.ok ⟨d4, d5, d6⟩ (by omega) (by omega)
  obtain ⟨cs, c3, g1, g2, g3⟩ := coins_ok (n := n) k2 (N := l2.length) k3.len hn'
  unfold spec_DrawQuiet
  rw [h1, Option.bind_some, d1, Option.bind_some]
  dsimp only
  rw [k1, g1, Option.bind_some]
  exact ⟨l2, cs, rfl, k3, by have := k3.len; omega, g3⟩
end Go.Sm
end

section
set_option linter.unusedSimpArgs false
set_option linter.deprecated false
set_option linter.unusedSectionVars false
set_option linter.unusedVariables false
set_option linter.unusedSimpArgs false
namespace Go.Sm
attribute [local irreducible] bd chk ix loopN
/-! ### The law -/
def gSum (a x : Int) : Int := w64 (w64 (a * 31) + x)
def rowS (a : Int) (l : List Int) : Int := l.foldl gSum a
def sumY (L : List (List Int)) : Int := L.foldl rowS 0
def slotS (l : List SRadio) : Int := l.foldl (fun a r => gSum a r.Slot) 0
theorem fold_take {α β : Type} (f : β → α → β) (b : β) (d : α) {l : List α} {k : Nat} (h : k < l.length) : (l.take (k + 1)).foldl f b = f ((l.take k).foldl f b) (l.getD k d) := by
  rw [take_succ_getD (d := d) h, List.foldl_append]; rfl
theorem l9_ok {R : Type} {n : Nat} (kx : Int → Option R) (code : List Int) (s : Nat) (y : Int) (L : List (List Int)) (ops : List SYardOp) (a : Int) (hs : s < L.length) (hl : (L.getD s []).length ≤ 1000) (hn : 1000000000 < n) :
    loopN (fun (x : Int × Int) J' => laws_FnKept_L9 n kx (fun sum26 t27 => J' (sum26, t27)) code x.1 (s : Int) x.2 y L ops) n (a, (0 : Int)) = kx (rowS a (L.getD s [])) := by
  refine loop_runS (S := Int) (X := Int × Int) (enc := fun i x => (x, i)) (len := (L.getD s []).length) (I := fun k x => x = ((L.getD s []).take k).foldl gSum a) (Q := fun r => r = kx (rowS a (L.getD s []))) (fun k x J hk hi => ⟨_, rfl, ?_⟩) (fun x J hi => ?_) (n := n) (by omega) (s0 := a) rfl
  · subst hi
    unfold laws_FnKept_L9 laws_FnKept_k0
    dsimp only
    rw [fold_take gSum a 0 hk, ix_nat hs, Int.toNat_natCast, chk_dec hs, chk_dec hs, decide_eq_true (Int.ofNat_lt.2 hk), cond_true, bd_eq, ix_nat hs, chk_dec hs, chk_dec hs, ix_nat hk, chk_dec hs, Int.toNat_natCast, chk_dec hk, bd_eq, w64_succ (show k < 9223372036854775807 by omega)]
    rfl
  · rw [List.take_length] at hi
    subst hi
    unfold laws_FnKept_L9
    dsimp only
    rw [ix_nat hs, Int.toNat_natCast, chk_dec hs, chk_dec hs, decide_eq_false (Int.lt_irrefl _), cond_false]
    rfl
theorem l6_ok {R : Type} {n : Nat} (kx : Int → Option R) (code : List Int) (y : Int) (L : List (List Int)) (ops : List SYardOp) (hL : L.length ≤ 1000) (hl : ∀ s, s < L.length → (L.getD s []).length ≤ 1000) (hn : 1000000000 < n) :
    loopN (fun (x : Int × Int) J' => laws_FnKept_L6 n kx (fun sum139 s140 => J' (sum139, s140)) code x.1 x.2 y L ops) n ((0 : Int), (0 : Int)) = kx (sumY L) := by
  refine loop_runS (S := Int) (X := Int × Int) (enc := fun i x => (x, i)) (len := L.length) (I := fun k x => x = (L.take k).foldl rowS 0) (Q := fun r => r = kx (sumY L)) (fun k x J hk hi => ⟨_, rfl, ?_⟩) (fun x J hi => ?_) (n := n) (by omega) (s0 := 0) rfl
  · subst hi
    unfold laws_FnKept_L6
    dsimp only
    rw [fold_take rowS 0 [] hk, decide_eq_true (Int.ofNat_lt.2 hk), cond_true, l9_ok _ code k y L ops _ hk (hl k hk) hn, w64_succ (show k < 9223372036854775807 by omega)]
  · rw [List.take_length] at hi
    subst hi
    unfold laws_FnKept_L6
    dsimp only
    rw [decide_eq_false (Int.lt_irrefl _), cond_false]
    rfl
theorem l32_ok {R : Type} {n : Nat} (kx : Int → Option R) (a0 a1 a2 : Int) (s : Nat) (y : Int) (L : List (List Int)) (ops : List SYardOp) (cs : List Int) (l1 l2 : List SRadio) (a : Int) (hs : s < L.length) (hl : (L.getD s []).length ≤ 1000) (hn : 1000000000 < n) :
    loopN (fun (x : Int × Int) J' => laws_FnKept_L32 n kx (fun again111 t112 => J' (again111, t112)) a0 a1 x.1 a2 (s : Int) x.2 y L ops cs l1 l2) n (a, (0 : Int)) = kx (rowS a (L.getD s [])) := by
  refine loop_runS (S := Int) (X := Int × Int) (enc := fun i x => (x, i)) (len := (L.getD s []).length) (I := fun k x => x = ((L.getD s []).take k).foldl gSum a) (Q := fun r => r = kx (rowS a (L.getD s []))) (fun k x J hk hi => ⟨_, rfl, ?_⟩) (fun x J hi => ?_) (n := n) (by omega) (s0 := a) rfl
  · subst hi
    unfold laws_FnKept_L32 laws_FnKept_k3
    dsimp only
    rw [fold_take gSum a 0 hk, ix_nat hs, Int.toNat_natCast, chk_dec hs, chk_dec hs, decide_eq_true (Int.ofNat_lt.2 hk), cond_true, bd_eq, ix_nat hs, chk_dec hs, chk_dec hs, ix_nat hk, chk_dec hs, Int.toNat_natCast, chk_dec hk, bd_eq, w64_succ (show k < 9223372036854775807 by omega)]
    rfl
  · rw [List.take_length] at hi
    subst hi
    unfold laws_FnKept_L32
    dsimp only
    rw [ix_nat hs, Int.toNat_natCast, chk_dec hs, chk_dec hs, decide_eq_false (Int.lt_irrefl _), cond_false]
    rfl
theorem l29_ok {R : Type} {n : Nat} (kx : Int → Option R) (a0 a1 a2 : Int) (y : Int) (L : List (List Int)) (ops : List SYardOp) (cs : List Int) (l1 l2 : List SRadio) (hL : L.length ≤ 1000) (hl : ∀ s, s < L.length → (L.getD s []).length ≤ 1000) (hn : 1000000000 < n) :
    loopN (fun (x : Int × Int) J' => laws_FnKept_L29 n kx (fun again133 s134 => J' (again133, s134)) a0 a1 x.1 a2 x.2 y L ops cs l1 l2) n ((0 : Int), (0 : Int)) = kx (sumY L) := by
  refine loop_runS (S := Int) (X := Int × Int) (enc := fun i x => (x, i)) (len := L.length) (I := fun k x => x = (L.take k).foldl rowS 0) (Q := fun r => r = kx (sumY L)) (fun k x J hk hi => ⟨_, rfl, ?_⟩) (fun x J hi => ?_) (n := n) (by omega) (s0 := 0) rfl
  · subst hi
    unfold laws_FnKept_L29
    dsimp only
    rw [fold_take rowS 0 [] hk, decide_eq_true (Int.ofNat_lt.2 hk), cond_true, l32_ok _ a0 a1 a2 k y L ops cs l1 l2 _ hk (hl k hk) hn, w64_succ (show k < 9223372036854775807 by omega)]
  · rw [List.take_length] at hi
    subst hi
    unfold laws_FnKept_L29
    dsimp only
    rw [decide_eq_false (Int.lt_irrefl _), cond_false]
    rfl
theorem l16_ok {R : Type} {n : Nat} (kx : Int → Option R) (a0 y : Int) (L : List (List Int)) (ops : List SYardOp) (cs : List Int) (l : List SRadio) (co : List Int) (hl : l.length ≤ 1000) (hn : 1000000000 < n) :
    loopN (fun (x : Int × Int) J' => laws_FnKept_L16 n kx (fun slots137 i138 => J' (slots137, i138)) a0 x.1 x.2 y L ops cs l co) n ((0 : Int), (0 : Int)) = kx (slotS l) := by
  refine loop_runS (S := Int) (X := Int × Int) (enc := fun i x => (x, i)) (len := l.length) (I := fun k x => x = (l.take k).foldl (fun a r => gSum a r.Slot) 0) (Q := fun r => r = kx (slotS l)) (fun k x J hk hi => ⟨_, rfl, ?_⟩) (fun x J hi => ?_) (n := n) (by omega) (s0 := 0) rfl
  · subst hi
    unfold laws_FnKept_L16
    dsimp only
    rw [fold_take (fun a (r : SRadio) => gSum a r.Slot) 0 dSRadio hk, decide_eq_true (Int.ofNat_lt.2 hk), cond_true, bd_eq, ix_nat hk, Int.toNat_natCast, chk_dec hk, bd_eq, w64_succ (show k < 9223372036854775807 by omega)]
    rfl
  · rw [List.take_length] at hi
    subst hi
    unfold laws_FnKept_L16
    dsimp only
    rw [decide_eq_false (Int.lt_irrefl _), cond_false]
    rfl
theorem l36_ok {R : Type} {n : Nat} (kx : Int → Option R) (a0 a1 a2 : Int) (ops : List SYardOp) (cs : List Int) (l l2 : List SRadio) (hl : l.length ≤ 1000) (hn : 1000000000 < n) :
    loopN (fun (x : Int × Int) J' => laws_FnKept_L36 n kx (fun back131 i132 => J' (back131, i132)) a0 a1 a2 x.1 x.2 ops cs l l2) n ((0 : Int), (0 : Int)) = kx (slotS l) := by
  refine loop_runS (S := Int) (X := Int × Int) (enc := fun i x => (x, i)) (len := l.length) (I := fun k x => x = (l.take k).foldl (fun a r => gSum a r.Slot) 0) (Q := fun r => r = kx (slotS l)) (fun k x J hk hi => ⟨_, rfl, ?_⟩) (fun x J hi => ?_) (n := n) (by omega) (s0 := 0) rfl
  · subst hi
    unfold laws_FnKept_L36
    dsimp only
    rw [fold_take (fun a (r : SRadio) => gSum a r.Slot) 0 dSRadio hk, decide_eq_true (Int.ofNat_lt.2 hk), cond_true, bd_eq, ix_nat hk, Int.toNat_natCast, chk_dec hk, bd_eq, w64_succ (show k < 9223372036854775807 by omega)]
    rfl
  · rw [List.take_length] at hi
    subst hi
    unfold laws_FnKept_L36
    dsimp only
    rw [decide_eq_false (Int.lt_irrefl _), cond_false]
    rfl
theorem set_same2 {α : Type} {l : List α} {i : Nat} {d : α} (h : i < l.length) : l.set i (l.getD i d) = l := by
  rw [getD_eq h]; exact List.set_getElem_self h
theorem l24_ok {R : Type} {n : Nat} (kx : List (List Int) → Option R) (a0 a1 : Int) (s : Nat) (y : Int) (L : List (List Int)) (ops : List SYardOp) (cs : List Int) (l1 l2 : List SRadio) (hs : s < L.length) (hl : (L.getD s []).length ≤ 1000) (hr : ∀ x ∈ L.getD s [], 0 ≤ x ∧ x ≤ 1000) (hn : 1000000000 < n) :
    loopN (fun (x : Int × List (List Int)) J' => laws_FnKept_L24 n kx (fun t75 c76 => J' (t75, c76)) a0 a1 (s : Int) x.1 y x.2 ops cs l1 l2) n ((((L.getD s []).length : Int) - 1), L) = kx L := by
  refine loopN_ind (fun x => (x.1 + 1).toNat) (fun x => (-1 ≤ x.1 ∧ x.1 < ((L.getD s []).length : Int)) ∧ x.2 = L) (fun x r => r = kx L) ?_ n _ ⟨by dsimp only; omega, rfl⟩ (by dsimp only; omega)
  rintro ⟨t, c⟩ J ⟨ht, hc⟩ ih
  dsimp only at ht hc ih ⊢
  subst hc
  unfold laws_FnKept_L24
  by_cases h0 : t ≥ 0
  · rw [decide_eq_true h0, cond_true]
    unfold laws_FnKept_k1
    obtain ⟨k, rfl⟩ : ∃ k : Nat, t = (k : Int) := ⟨t.toNat, by omega⟩
    have hk : k < (c.getD s []).length := by omega
    have hx := hr _ (getD_mem (d := 0) hk)
    have e0 : w64 ((c.getD s []).getD k 0 + 0) = (c.getD s []).getD k 0 := by rw [w64_id (by omega) (by omega)]; omega
    have e1 : w64 ((k : Int) - 1) = (k : Int) - 1 := w64_id (by omega) (by omega)
    rw [ix_nat hs, Int.toNat_natCast, chk_dec hs, ix_nat hs, chk_dec hs, chk_dec hs, ix_nat hk, chk_dec hs, Int.toNat_natCast, chk_dec hk, e0, bd_eq, chk_dec hs, ix_nat hk, chk_dec hs, chk_dec hk, bd_eq, e1, set_same2 hk, set_same2 hs]
    exact ih ((k : Int) - 1, c) ⟨by dsimp only; omega, rfl⟩ (by dsimp only; omega)
  · rw [decide_eq_false h0, cond_false]
theorem l21_ok {R : Type} {n : Nat} (kx : List (List Int) → Option R) (a0 a1 : Int) (y : Int) (L : List (List Int)) (ops : List SYardOp) (cs : List Int) (l1 l2 : List SRadio) (hL : L.length ≤ 1000) (hl : ∀ s, s < L.length → (L.getD s []).length ≤ 1000 ∧ ∀ x ∈ L.getD s [], 0 ≤ x ∧ x ≤ 1000) (hn : 1000000000 < n) :
    loopN (fun (x : Int × List (List Int)) J' => laws_FnKept_L21 n kx (fun s135 c136 => J' (s135, c136)) a0 a1 x.1 y x.2 ops cs l1 l2) n ((0 : Int), L) = kx L := by
  refine loop_runS (S := List (List Int)) (X := Int × List (List Int)) (enc := fun i x => (i, x)) (len := L.length) (I := fun k x => x = L) (Q := fun r => r = kx L) (fun k x J hk hi => ⟨L, rfl, ?_⟩) (fun x J hi => ?_) (n := n) (by omega) (s0 := L) rfl
  · subst hi
    obtain ⟨h1, h2⟩ := hl k hk
    unfold laws_FnKept_L21 laws_FnKept_k2
    dsimp only
    rw [decide_eq_true (Int.ofNat_lt.2 hk), cond_true, ix_nat hk, Int.toNat_natCast, chk_dec hk, chk_dec hk, bd_eq, w64_id (x := ((x.getD k []).length : Int) - 1) (by omega) (by omega), l24_ok _ a0 a1 k y x ops cs l1 l2 hk h1 h2 hn, w64_succ (show k < 9223372036854775807 by omega)]
  · subst hi
    unfold laws_FnKept_L21
    dsimp only
    rw [decide_eq_false (Int.lt_irrefl _), cond_false]
theorem settleR_len (coins : List Int) : ∀ m k out, (settleR coins m k out).1.length = out.length
  | 0, k, out => rfl
  | m + 1, k, out => by
    unfold settleR
    cases decide (((clashB out).length : Int) = 0) with
    | true => rfl
    | false =>
      rw [cond_false]
      cases (chooseB out ((clashB out).getD 0 0) (coins.getD k 0)).2 with
      | false => rfl
      | true =>
        rw [Bool.not_true, cond_false, settleR_len coins m (k + 1)]
        unfold setSlot
        rw [List.length_set]
theorem sumOf_bdK {α : Type} {f : α → Nat} {B : Nat} : ∀ l : List α, (∀ x ∈ l, f x ≤ B) → sumOf f l ≤ B * l.length
  | [], _ => Nat.zero_le _
  | a :: l, h => by
    have e : sumOf f (a :: l) = f a + sumOf f l := rfl
    have h1 := h a List.mem_cons_self
    have h2 := sumOf_bdK l fun x hx => h x (List.mem_cons_of_mem _ hx)
    rw [e, List.length_cons, Nat.mul_succ]
    omega
theorem gl_w {l : List SRadio} (h : GL l) : w_LSRadio l ≤ 1048576 := by
  have h1 := h.len
  have h2 := sumOf_bdK (f := fun y : SRadio => w_SRadio y) (B := 24) l fun x hx => by
    obtain ⟨j, hj, he⟩ := List.getElem_of_mem hx
    have := h.short j hj
    unfold rad at this
    rw [getD_eq hj, he] at this
    exact this
  show l.length + sumOf (fun y => w_SRadio y) l ≤ _
  have h2 : sumOf (fun y => w_SRadio y) l ≤ 24 * l.length := h2
  omega
theorem settle_len {l : List SRadio} (h : GL l) {coins : List Int} (hc : coins.length ≤ 24) (hp : ∀ x ∈ coins, 0 ≤ x) : (settleB l coins).1.length = l.length := by
  unfold settleB
  rw [h.ok, decide_eq_false (show ¬ (coins.length : Int) > 200 by omega), List.all_eq_true.2 fun k hk => by
    have := hp _ (getD_mem (d := 0) (List.mem_range.1 hk))
    rw [decide_eq_false (by omega)]; rfl]
  exact settleR_len coins _ _ _
theorem yl_w {m : Nat} {y : SYard} (h : YL m y.Stacks) (hm : m ≤ 5) : w_SYard y ≤ 1048576 := by
  have h1 := h.1
  have h2 := sumOf_bdK (f := fun y : List Int => w_LInt y) (B := 4) y.Stacks fun x hx => (h.2 x hx).1
  show y.Stacks.length + sumOf (fun y => w_LInt y) y.Stacks ≤ _
  have h2 : sumOf (fun y => w_LInt y) y.Stacks ≤ 4 * y.Stacks.length := h2
  omega
theorem laws_FnKept_true (code0 : List Int) (h0 : (code0.length ≤ 9223372036854775807 ∧ ∀ y ∈ code0, rng 0 255 y)) : ∃ n, laws_FnKept n code0 = some true := by
  refine ⟨9007199260000000, ?_⟩
  generalize hN : (9007199260000000 : Nat) = n
  have hn2 : 9007199260000000 ≤ n := by omega
  have hn : 1000000000 < n := by omega
  clear hN
  unfold laws_FnKept laws_big
  rw [Option.bind_some]
  by_cases hb : (code0.length : Int) > 1048576
  · rw [decide_eq_true hb]; rfl
  rw [decide_eq_false hb, cond_false]
  obtain ⟨y, ops, m, d1, d2, d3, d4⟩ := drawYard_ok (n := n) code0 (by omega) hn
  obtain ⟨l, coins, g1, g2, g3, g4⟩ := quiet_ok (n := n) code0 (by omega) hn2
  have hL := d3.1
  have hg : ∀ s, s < y.Stacks.length → (y.Stacks.getD s []).length ≤ 1000 ∧ ∀ x ∈ y.Stacks.getD s [], 0 ≤ x ∧ x ≤ 1000 := fun s hs => by
    have := d3.at (s := s) (by omega)
    exact ⟨Nat.le_trans this.1 (by omega), this.2⟩
  have hyw := yl_w d3 d2
  have hl := g2.len
  have hrun : (runsY y ops).2.1.length = ops.length := by
    unfold runsY
    rw [if_pos (by omega)]
    have g := runY_ok y ops hyw (by omega) ops.length (Nat.le_refl _)
    rw [List.take_length] at g
    exact g.2.1
  unfold laws_FnKept_k4
  rw [d1, Option.bind_some]
  dsimp only
  rw [l6_ok _ code0 y.High y.Stacks ops (by omega) (fun s hs => (hg s hs).1) hn]
  rw [runs_impl y ops hyw (by omega) hn, Option.bind_some, g1, Option.bind_some]
  dsimp only
  rw [l16_ok _ _ y.High y.Stacks ops _ l coins (by omega) hn]
  rw [settle_impl l coins (gl_w g2) (by omega) hn, Option.bind_some]
  rw [l21_ok _ _ _ y.High y.Stacks ops _ l _ (by omega) hg hn]
  rw [l29_ok _ _ _ _ y.High y.Stacks ops _ l _ (by omega) (fun s hs => (hg s hs).1) hn]
  rw [l36_ok _ _ _ _ ops _ l _ (by omega) hn]
  rw [decide_eq_true rfl, cond_true, decide_eq_true rfl, cond_true, hrun, decide_eq_true rfl, cond_true, settle_len g2 g3 g4, decide_eq_true rfl]
end Go.Sm
end
