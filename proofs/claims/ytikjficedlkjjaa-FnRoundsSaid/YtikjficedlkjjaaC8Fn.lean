import Derived.Test.YtikjficedlkjjaaEngA
/- The functions as plain functions over data, and that the law answers true for all arguments. Rounds: in each round of drawn carts no two are at one place, none change places, each that moves has one hop less to go; in the end all rest, and who is stuck is told. -/
section
set_option linter.unusedSimpArgs false
set_option linter.deprecated false
set_option linter.unusedSectionVars false
set_option linter.unusedVariables false
namespace Go.Sm
structure SFloor where
  Wide : Int
  High : Int
  Ways : List Int
structure SCart where
  At : Int
  Goal : Int
structure Sl1Cur where
  b : List Int
  i : Int
  h : Int
structure SArr2_Int where
  x0 : Int
  x1 : Int
def dSFloor : SFloor := ⟨(0 : Int), (0 : Int), []⟩
def dSCart : SCart := ⟨(0 : Int), (0 : Int)⟩
def dSl1Cur : Sl1Cur := ⟨[], (0 : Int), (0 : Int)⟩
def dSArr2_Int : SArr2_Int := ⟨(0 : Int), (0 : Int)⟩
def laws_big (n : Nat) (code0 : List Int) : Option Bool :=
  some ((decide ((code0.length : Int) > (1048576 : Int))))
def spec_l1New_k0 {R : Type} (n : Nat) (kx0 : Int → Option R) (J : Int → Int → Option R) (code2 : List Int) (h8 : Int) (i9 : Int) : Option R :=
  ix i9 code2.length ((bd (w64 ((w64 (h8 * (131 : Int))) + (w64 (code2.getD i9.toNat (0 : Int))))) fun (v10 : Int) => (bd (w64 (((BitVec.ofInt 64 (w64 (v10 + (7 : Int))) &&& BitVec.ofInt 64 (1073741823 : Int)).toNat : Nat) : Int)) fun (v11 : Int) => J v11 (w64 (i9 + (1 : Int))))))
def spec_l1New_L3 {R : Type} (n : Nat) (kx0 : Int → Option R) (J : Int → Int → Option R) (code2 : List Int) (h3 : Int) (i4 : Int) : Option R :=
  (bif (decide (i4 < (code2.length : Int))) then (bif (decide (i4 < (4000 : Int))) then spec_l1New_k0 n kx0 J code2 h3 i4 else kx0 h3) else kx0 h3)
def spec_l1New (n : Nat) (code0 : List Int) : Option Sl1Cur :=
  (bd (w64 ((59059 : Int) + (code0.length : Int))) fun (v1 : Int) => loopN (fun (x : Int × Int) J' => spec_l1New_L3 n (fun h16 => some ((⟨code0, (0 : Int), h16⟩ : Sl1Cur))) (fun h17 i18 => J' (h17, i18)) code0 x.1 x.2) n (v1, (0 : Int)))
def spec_l1Byte (n : Nat) (c0 : Sl1Cur) : Option (Int × Sl1Cur) :=
  (bd (w64 (c0.h * (6364136223846793005 : Int))) fun (v1 : Int) => (bd (w64 (v1 + (1442695040888963407 : Int))) fun (v2 : Int) => (bd (Int.fdiv v2 (2 ^ (min (33 : Int).toNat 64))) fun (v3 : Int) => (bd (Int.fdiv v2 (2 ^ (min (45 : Int).toNat 64))) fun (v4 : Int) => (bd (w64 (((BitVec.ofInt 64 v3 ^^^ BitVec.ofInt 64 v4).toNat : Nat) : Int)) fun (v5 : Int) => (bd (w64 (((BitVec.ofInt 64 v5 &&& BitVec.ofInt 64 (255 : Int)).toNat : Nat) : Int)) fun (v6 : Int) => (bif (decide (c0.i < (c0.b.length : Int))) then ix c0.i c0.b.length ((bd (w64 (v6 + (w64 (c0.b.getD c0.i.toNat (0 : Int))))) fun (v7 : Int) => (bd (w64 (((BitVec.ofInt 64 v7 &&& BitVec.ofInt 64 (255 : Int)).toNat : Nat) : Int)) fun (v8 : Int) => some (v8, (⟨c0.b, (w64 (c0.i + (1 : Int))), v2⟩ : Sl1Cur))))) else some (v6, (⟨c0.b, c0.i, v2⟩ : Sl1Cur)))))))))
def spec_l1Below_k0 (n : Nat)  (n1 : Int) (p3 : Sl1Cur) : Option (Int × Sl1Cur) :=
  (spec_l1Byte n p3).bind fun r4 => (spec_l1Byte n r4.2).bind fun r5 => (spec_l1Byte n r5.2).bind fun r6 => (spec_l1Byte n r6.2).bind fun r7 => (bd (w64 (r4.1 * (16777216 : Int))) fun (v8 : Int) => (bd (w64 (r5.1 * (65536 : Int))) fun (v9 : Int) => (bd (w64 (r6.1 * (256 : Int))) fun (v10 : Int) => (bd (w64 ((w64 (v8 + v9)) + v10)) fun (v11 : Int) => (bif decide (n1 = 0) then none else (bd (Int.tmod (w64 (v11 + r7.1)) n1) fun (v12 : Int) => some (v12, r7.2)))))))
def spec_l1Below (n : Nat) (c0 : Sl1Cur) (n1 : Int) : Option (Int × Sl1Cur) :=
  (bif (decide (n1 ≤ (0 : Int))) then some ((0 : Int), c0) else (bif (decide (n1 ≤ (256 : Int))) then (spec_l1Byte n c0).bind fun r13 => (bif decide (n1 = 0) then none else some ((Int.tmod r13.1 n1), r13.2)) else spec_l1Below_k0 n  n1 c0))
def spec_l1In (n : Nat) (x0 : Int) (a1 : Int) (b2 : Int) : Option Bool :=
  (bif (decide (x0 ≥ a1)) then some ((decide (x0 ≤ b2))) else some (false))
def spec_OneWay_k0 {R : Type} (n : Nat) (kx2 : List Int → Option R) (J : Int → List Int → Option R) (wide15 : Int) (high16 : Int) (y17 : Int) (x49 : Int) (t50 : Bool) (t19 : Int) (t20 : Int) (c21 : List Int) (f22 : Int) (f23 : Int) (c51 : List Int) : Option R :=
  (bif t50 then chk (decide ((c51 ++ [(4 : Int)]).length * 8 ≤ 140737488355328)) (J (w64 (x49 + (1 : Int))) (c51 ++ [(4 : Int)])) else (bif (decide (x49 = (0 : Int))) then chk (decide ((c51 ++ [(8 : Int)]).length * 8 ≤ 140737488355328)) (J (w64 (x49 + (1 : Int))) (c51 ++ [(8 : Int)])) else chk (decide ((c51 ++ [(15 : Int)]).length * 8 ≤ 140737488355328)) (J (w64 (x49 + (1 : Int))) (c51 ++ [(15 : Int)]))))
def spec_OneWay_k1 {R : Type} (n : Nat) (kx2 : List Int → Option R) (J : Int → List Int → Option R) (wide15 : Int) (high16 : Int) (y17 : Int) (x70 : Int) (t19 : Int) (t20 : Int) (c21 : List Int) (f22 : Int) (f23 : Int) (c71 : List Int) : Option R :=
  (bif (decide (x70 = (0 : Int))) then chk (decide ((c71 ++ [(8 : Int)]).length * 8 ≤ 140737488355328)) (J (w64 (x70 + (1 : Int))) (c71 ++ [(8 : Int)])) else chk (decide ((c71 ++ [(15 : Int)]).length * 8 ≤ 140737488355328)) (J (w64 (x70 + (1 : Int))) (c71 ++ [(15 : Int)])))
def spec_OneWay_k2 {R : Type} (n : Nat) (kx2 : List Int → Option R) (J : Int → List Int → Option R) (wide15 : Int) (high16 : Int) (y17 : Int) (x39 : Int) (t40 : Bool) (t19 : Int) (t20 : Int) (c21 : List Int) (f22 : Int) (f23 : Int) (c41 : List Int) : Option R :=
  (bif t40 then chk (decide ((c41 ++ [(2 : Int)]).length * 8 ≤ 140737488355328)) (J (w64 (x39 + (1 : Int))) (c41 ++ [(2 : Int)])) else (bd (w64 (high16 - (1 : Int))) fun (v48 : Int) => (bif (decide (y17 = v48)) then spec_OneWay_k0 n kx2 J wide15 high16 y17 x39 (decide (x39 > (0 : Int))) t19 t20 c21 f22 f23 c41 else spec_OneWay_k1 n kx2 J wide15 high16 y17 x39 t19 t20 c21 f22 f23 c41)))
def spec_OneWay_k3 {R : Type} (n : Nat) (kx2 : List Int → Option R) (J : Int → List Int → Option R) (wide15 : Int) (high16 : Int) (y17 : Int) (x28 : Int) (t29 : Bool) (t19 : Int) (t20 : Int) (c21 : List Int) (f22 : Int) (f23 : Int) (c30 : List Int) : Option R :=
  (bif t29 then chk (decide ((c30 ++ [(1 : Int)]).length * 8 ≤ 140737488355328)) (J (w64 (x28 + (1 : Int))) (c30 ++ [(1 : Int)])) else (bd (w64 (wide15 - (1 : Int))) fun (v37 : Int) => (bif (decide (x28 = v37)) then (bd (w64 (high16 - (1 : Int))) fun (v38 : Int) => spec_OneWay_k2 n kx2 J wide15 high16 y17 x28 (decide (y17 < v38)) t19 t20 c21 f22 f23 c30) else (bd (w64 (high16 - (1 : Int))) fun (v88 : Int) => (bif (decide (y17 = v88)) then spec_OneWay_k0 n kx2 J wide15 high16 y17 x28 (decide (x28 > (0 : Int))) t19 t20 c21 f22 f23 c30 else spec_OneWay_k1 n kx2 J wide15 high16 y17 x28 t19 t20 c21 f22 f23 c30)))))
def spec_OneWay_k4 {R : Type} (n : Nat) (kx2 : List Int → Option R) (J : Int → List Int → Option R) (wide15 : Int) (high16 : Int) (y17 : Int) (x94 : Int) (t19 : Int) (t20 : Int) (c21 : List Int) (f22 : Int) (f23 : Int) (c95 : List Int) : Option R :=
  (bd (w64 (wide15 - (1 : Int))) fun (v96 : Int) => (bif (decide (x94 = v96)) then (bd (w64 (high16 - (1 : Int))) fun (v97 : Int) => spec_OneWay_k2 n kx2 J wide15 high16 y17 x94 (decide (y17 < v97)) t19 t20 c21 f22 f23 c95) else (bd (w64 (high16 - (1 : Int))) fun (v103 : Int) => (bif (decide (y17 = v103)) then spec_OneWay_k0 n kx2 J wide15 high16 y17 x94 (decide (x94 > (0 : Int))) t19 t20 c21 f22 f23 c95 else spec_OneWay_k1 n kx2 J wide15 high16 y17 x94 t19 t20 c21 f22 f23 c95))))
def spec_OneWay_L8 {R : Type} (n : Nat) (kx2 : List Int → Option R) (J : Int → List Int → Option R) (wide15 : Int) (high16 : Int) (y17 : Int) (x18 : Int) (t19 : Int) (t20 : Int) (c21 : List Int) (f22 : Int) (f23 : Int) (c24 : List Int) : Option R :=
  (bif (decide (x18 < wide15)) then (bif (decide (y17 = (0 : Int))) then (bd (w64 (wide15 - (1 : Int))) fun (v109 : Int) => spec_OneWay_k3 n kx2 J wide15 high16 y17 x18 (decide (x18 < v109)) t19 t20 c21 f22 f23 c24) else spec_OneWay_k4 n kx2 J wide15 high16 y17 x18 t19 t20 c21 f22 f23 c24) else kx2 c24)
def spec_OneWay_L5 {R : Type} (n : Nat) (kx0 : List Int → Option R) (J : Int → List Int → Option R) (wide4 : Int) (high5 : Int) (y6 : Int) (t7 : Int) (t8 : Int) (c9 : List Int) (f10 : Int) (f11 : Int) (c12 : List Int) : Option R :=
  (bif (decide (y6 < high5)) then loopN (fun (x : Int × List Int) J' => spec_OneWay_L8 n (fun c118 => J (w64 (y6 + (1 : Int))) c118) (fun x119 c120 => J' (x119, c120)) wide4 high5 y6 x.1 t7 t8 c9 f10 f11 x.2) n ((0 : Int), c12) else kx0 c12)
def spec_OneWay_k5 (n : Nat)  (wide0 : Int) (high1 : Int) (t3 : Bool) : Option (SFloor × Bool) :=
  (bif t3 then some ((⟨(0 : Int), (0 : Int), []⟩ : SFloor), false) else loopN (fun (x : Int × List Int) J' => spec_OneWay_L5 n (fun c124 => some ((⟨wide0, high1, c124⟩ : SFloor), true)) (fun y125 c126 => J' (y125, c126)) wide0 high1 x.1 (0 : Int) (0 : Int) [] wide0 high1 x.2) n ((0 : Int), []))
def spec_OneWay (n : Nat) (wide0 : Int) (high1 : Int) : Option (SFloor × Bool) :=
  (spec_l1In n wide0 (2 : Int) (10 : Int)).bind fun r1 => (bif (!r1) then some ((⟨(0 : Int), (0 : Int), []⟩ : SFloor), false) else (spec_l1In n high1 (2 : Int) (10 : Int)).bind fun r2 => spec_OneWay_k5 n  wide0 high1 (!r2))
def spec_l1Once (n : Nat) (c0 : Sl1Cur) (n1 : Int) : Option (Bool × Sl1Cur) :=
  (spec_l1Below n c0 n1).bind fun r1 => some ((decide (r1.1 = (0 : Int))), r1.2)
def spec_l19Draw_L7 {R : Type} (n : Nat) (kx0 : List Int → Sl1Cur → Option R) (J : Int → Sl1Cur → List Int → Option R) (i7 : Int) (p8 : Sl1Cur) (t9 : Int) (t10 : Int) (c11 : List Int) (laws_big : Int) (f13 : Int) (c14 : List Int) : Option R :=
  (bif (decide (i7 < (w64 (laws_big * f13)))) then (spec_l1Below n p8 (16 : Int)).bind fun r19 => chk (decide ((c14 ++ [r19.1]).length * 8 ≤ 140737488355328)) (J (w64 (i7 + (1 : Int))) r19.2 (c14 ++ [r19.1])) else kx0 c14 p8)
def spec_l19Draw (n : Nat) (c0 : Sl1Cur) : Option (SFloor × Sl1Cur) :=
  (spec_l1Below n c0 (4 : Int)).bind fun r1 => (spec_l1Below n r1.2 (4 : Int)).bind fun r2 => (spec_OneWay n (w64 ((2 : Int) + r1.1)) (w64 ((2 : Int) + r2.1))).bind fun r3 => (spec_l1Once n r2.2 (2 : Int)).bind fun r4 => (bif r4.1 then (spec_l1Below n r4.2 (5 : Int)).bind fun r5 => (spec_l1Below n r5.2 (5 : Int)).bind fun r6 => loopN (fun (x : Int × Sl1Cur × List Int) J' => spec_l19Draw_L7 n (fun c20 p21 => some ((⟨(w64 ((1 : Int) + r5.1)), (w64 ((1 : Int) + r6.1)), c20⟩ : SFloor), p21)) (fun i26 p27 c28 => J' (i26, p27, c28)) x.1 x.2.1 (0 : Int) (0 : Int) [] (w64 ((1 : Int) + r5.1)) (w64 ((1 : Int) + r6.1)) x.2.2) n ((0 : Int), r6.2, []) else some (r3.1, r4.2))
def spec_l19DrawCarts_L8 {R : Type} (n : Nat) (kx2 : Bool → Option R) (J : Bool → Int → Option R) (i13 : Int) (free14 : Bool) (k15 : Int) (p16 : Sl1Cur) (f17 : SFloor) (out18 : List SCart) (x19 : SCart) : Option R :=
  (bif (decide (k15 < (out18.length : Int))) then (bif free14 then ix k15 out18.length (chk (decide (k15.toNat < out18.length)) (J (!(decide ((out18.getD k15.toNat dSCart).At = x19.At))) (w64 (k15 + (1 : Int))))) else J false (w64 (k15 + (1 : Int)))) else kx2 free14)
def spec_l19DrawCarts_k0 {R : Type} (n : Nat) (kx0 : List SCart → Sl1Cur → Option R) (J : Int → Sl1Cur → List SCart → Option R) (i6 : Int) (p7 : Sl1Cur) (f4 : SFloor) (out8 : List SCart) : Option R :=
  (spec_l1Below n p7 (f4.Ways.length : Int)).bind fun r9 => (bd (w64 ((f4.Ways.length : Int) + (1 : Int))) fun (v10 : Int) => (spec_l1Below n r9.2 v10).bind fun r11 => (bd (w64 (r11.1 - (1 : Int))) fun (v12 : Int) => loopN (fun (x : Bool × Int) J' => spec_l19DrawCarts_L8 n (fun free28 => (bif free28 then (bd (out8 ++ [(⟨r9.1, v12⟩ : SCart)]) fun (l29 : List SCart) => chk (decide (l29.length * 16 ≤ 140737488355328)) (J (w64 (i6 - (1 : Int))) r11.2 l29)) else J (w64 (i6 - (1 : Int))) r11.2 out8)) (fun free36 k37 => J' (free36, k37)) i6 x.1 x.2 r11.2 f4 out8 (⟨r9.1, v12⟩ : SCart)) n (true, (0 : Int))))
def spec_l19DrawCarts_L3 {R : Type} (n : Nat) (kx0 : List SCart → Sl1Cur → Option R) (J : Int → Sl1Cur → List SCart → Option R) (i2 : Int) (p3 : Sl1Cur) (f4 : SFloor) (out5 : List SCart) : Option R :=
  (bif (decide (i2 > (0 : Int))) then spec_l19DrawCarts_k0 n kx0 J i2 p3 f4 out5 else kx0 out5 p3)
def spec_l19DrawCarts (n : Nat) (c0 : Sl1Cur) (f1 : SFloor) : Option (List SCart × Sl1Cur) :=
  (spec_l1Below n c0 (8 : Int)).bind fun r1 => loopN (fun (x : Int × Sl1Cur × List SCart) J' => spec_l19DrawCarts_L3 n (fun out38 p39 => some (out38, p39)) (fun i40 p41 out42 => J' (i40, p41, out42)) x.1 x.2.1 f1 x.2.2) n (r1.1, r1.2, [])
def spec_DrawFloor (n : Nat) (code0 : List Int) : Option (SFloor × List SCart) :=
  (spec_l1New n code0).bind fun r1 => (spec_l19Draw n r1).bind fun r2 => (spec_l19DrawCarts n r2.2 r2.1).bind fun r3 => some (r2.1, r3.1)
def impl_in (n : Nat) (n0 : Int) (least1 : Int) (most2 : Int) : Option Bool :=
  (bif (decide (n0 ≥ least1)) then some ((decide (n0 ≤ most2))) else some (false))
def impl_all_1 (n : Nat) (n0 : Int) (a1 : Int) (a2 : Int) : Option Bool :=
  (impl_in n n0 a1 a2).bind fun r1 => some ((!r1))
def slices_IndexFunc_int_int__impl_all_1_L2 {R : Type} (n : Nat) (kx0 : Option R) (kxr : Int → Option R) (J : Int → Option R) (s1 : List Int) (f2 : Int) (f3 : Int) (t4 : Int) (t5 : Int) : Option R :=
  (bif (decide (t5 < t4)) then ix t5 s1.length ((impl_all_1 n (s1.getD t5.toNat (0 : Int)) f2 f3).bind fun r9 => (bif r9 then kxr t5 else J (w64 (t5 + (1 : Int))))) else kx0)
def slices_IndexFunc_int_int__impl_all_1 (n : Nat) (s0 : List Int) (f1c0 : Int) (f1c1 : Int) : Option Int :=
  loopN (fun (x : Int) J' => slices_IndexFunc_int_int__impl_all_1_L2 n (some ((-1 : Int))) (fun t11 => some (t11)) J' s0 f1c0 f1c1 (s0.length : Int) x) n ((0 : Int))
def slices_ContainsFunc_int_int__impl_all_1 (n : Nat) (s0 : List Int) (f1c0 : Int) (f1c1 : Int) : Option Bool :=
  (slices_IndexFunc_int_int__impl_all_1 n s0 f1c0 f1c1).bind fun r1 => some ((decide (r1 ≥ (0 : Int))))
def impl_all (n : Nat) (l0 : List Int) (least1 : Int) (most2 : Int) : Option Bool :=
  (slices_ContainsFunc_int_int__impl_all_1 n l0 least1 most2).bind fun r1 => some ((!r1))
def impl_FloorOk (n : Nat) (f0 : SFloor) : Option Bool :=
  (impl_in n f0.Wide (1 : Int) (10 : Int)).bind fun r1 => (bif r1 then (impl_in n f0.High (1 : Int) (10 : Int)).bind fun r2 => (bif r2 then (bd (w64 (f0.Wide * f0.High)) fun (v3 : Int) => (bif (decide ((f0.Ways.length : Int) = v3)) then (impl_all n f0.Ways (0 : Int) (15 : Int)).bind fun r4 => some (r4) else some (false))) else some (false)) else some (false))
def impl_Floor_place (n : Nat) (f0 : SFloor) (p1 : Int) : Option Bool :=
  (bd (w64 (f0.Wide * f0.High)) fun (v1 : Int) => (impl_in n p1 (0 : Int) (w64 (v1 - (1 : Int)))).bind fun r2 => some (r2))
def impl_CartsOk_1 (n : Nat) (x0 : SCart) (a1 : SCart) : Option Bool :=
  some ((decide (x0.At = a1.At)))
def slices_IndexFunc_impl_Cart_impl_Cart__impl_CartsOk_1_L2 {R : Type} (n : Nat) (kx0 : Option R) (kxr : Int → Option R) (J : Int → Option R) (s1 : List SCart) (f2 : SCart) (t3 : Int) (t4 : Int) : Option R :=
  (bif (decide (t4 < t3)) then ix t4 s1.length ((bd (s1.getD t4.toNat dSCart) fun (e9 : SCart) => (impl_CartsOk_1 n e9 f2).bind fun r10 => (bif r10 then kxr t4 else J (w64 (t4 + (1 : Int)))))) else kx0)
def slices_IndexFunc_impl_Cart_impl_Cart__impl_CartsOk_1 (n : Nat) (s0 : List SCart) (f1c0 : SCart) : Option Int :=
  loopN (fun (x : Int) J' => slices_IndexFunc_impl_Cart_impl_Cart__impl_CartsOk_1_L2 n (some ((-1 : Int))) (fun t12 => some (t12)) J' s0 f1c0 (s0.length : Int) x) n ((0 : Int))
def slices_ContainsFunc_impl_Cart_impl_Cart__impl_CartsOk_1 (n : Nat) (s0 : List SCart) (f1c0 : SCart) : Option Bool :=
  (slices_IndexFunc_impl_Cart_impl_Cart__impl_CartsOk_1 n s0 f1c0).bind fun r1 => some ((decide (r1 ≥ (0 : Int))))
def impl_CartsOk_k0 {R : Type} (n : Nat) (kx0 : Option R) (kxr : Bool → Option R) (J : Int → Option R) (carts3 : List SCart) (t4 : List SCart) (t5 : Int) (t8 : Int) (f7 : SFloor) : Option R :=
  ix t8 t4.length ((bd (t4.getD t8.toNat dSCart) fun (e9 : SCart) => (impl_Floor_place n f7 e9.At).bind fun r10 => (bif (!r10) then kxr false else (bif (!(decide (e9.Goal = (-1 : Int)))) then (impl_Floor_place n f7 e9.Goal).bind fun r12 => (bif (!r12) then kxr false else chk (decide ((0 : Int) ≤ t8)) (chk (decide (t8 ≤ (carts3.length : Int))) ((slices_ContainsFunc_impl_Cart_impl_Cart__impl_CartsOk_1 n (carts3.take t8.toNat) e9).bind fun r14 => (bif r14 then kxr false else J (w64 (t8 + (1 : Int))))))) else chk (decide ((0 : Int) ≤ t8)) (chk (decide (t8 ≤ (carts3.length : Int))) ((slices_ContainsFunc_impl_Cart_impl_Cart__impl_CartsOk_1 n (carts3.take t8.toNat) e9).bind fun r19 => (bif r19 then kxr false else J (w64 (t8 + (1 : Int))))))))))
def impl_CartsOk_L4 {R : Type} (n : Nat) (kx0 : Option R) (kxr : Bool → Option R) (J : Int → Option R) (carts3 : List SCart) (t4 : List SCart) (t5 : Int) (t6 : Int) (f7 : SFloor) : Option R :=
  (bif (decide (t6 < t5)) then impl_CartsOk_k0 n kx0 kxr J carts3 t4 t5 t6 f7 else kx0)
def impl_CartsOk (n : Nat) (f0 : SFloor) (carts1 : List SCart) : Option Bool :=
  (impl_FloorOk n f0).bind fun r1 => (bif (!r1) then some (false) else (bif (decide ((carts1.length : Int) > (12 : Int))) then some (false) else loopN (fun (x : Int) J' => impl_CartsOk_L4 n (some (true)) (fun t27 => some (t27)) J' carts1 carts1 (carts1.length : Int) x f0) n ((0 : Int))))
def impl_Floor_leads_k0 {R : Type} (n : Nat) (kx0 : List Int → Option R) (J : Int → List Int → Option R) (p2 : Int) (x3 : Int) (y4 : Int) (t5 : Int) (t10 : Int) (f7 : SFloor) (out11 : List Int) (t9 : List SArr2_Int) : Option R :=
  ix t10 t9.length (chk (decide (t10.toNat < t9.length)) ((bd (t9.getD t10.toNat dSArr2_Int) fun (e12 : SArr2_Int) => ix p2 f7.Ways.length (chk (decide (0 ≤ t10)) ((bd (Int.fdiv (f7.Ways.getD p2.toNat (0 : Int)) (2 ^ (min t10.toNat 64))) fun (v13 : Int) => (bd (w64 (((BitVec.ofInt 64 v13 &&& BitVec.ofInt 64 (1 : Int)).toNat : Nat) : Int)) fun (v14 : Int) => (bif (decide (v14 = (1 : Int))) then (bd (w64 (f7.Wide - (1 : Int))) fun (v15 : Int) => (impl_in n (w64 (x3 + e12.x0)) (0 : Int) v15).bind fun r16 => (bif r16 then (bd (w64 (f7.High - (1 : Int))) fun (v17 : Int) => (impl_in n (w64 (y4 + e12.x1)) (0 : Int) v17).bind fun r18 => (bif r18 then (bd (w64 ((w64 (y4 + e12.x1)) * f7.Wide)) fun (v29 : Int) => (bd (w64 (v29 + (w64 (x3 + e12.x0)))) fun (v30 : Int) => chk (decide ((out11 ++ [v30]).length * 8 ≤ 140737488355328)) (J (w64 (t10 + (1 : Int))) (out11 ++ [v30])))) else J (w64 (t10 + (1 : Int))) out11)) else J (w64 (t10 + (1 : Int))) out11)) else J (w64 (t10 + (1 : Int))) out11))))))))
def impl_Floor_leads_L4 {R : Type} (n : Nat) (kx0 : List Int → Option R) (J : Int → List Int → Option R) (p2 : Int) (x3 : Int) (y4 : Int) (t5 : Int) (t6 : Int) (f7 : SFloor) (out8 : List Int) (t9 : List SArr2_Int) : Option R :=
  (bif (decide (t6 < t5)) then impl_Floor_leads_k0 n kx0 J p2 x3 y4 t5 t6 f7 out8 t9 else kx0 out8)
def impl_Floor_leads (n : Nat) (f0 : SFloor) (p1 : Int) : Option (List Int) :=
  (bif decide (f0.Wide = 0) then none else (bif decide (f0.Wide = 0) then none else (bd (w64 (Int.tdiv p1 f0.Wide)) fun (v1 : Int) => loopN (fun (x : Int × List Int) J' => impl_Floor_leads_L4 n (fun out49 => some (out49)) (fun t50 out51 => J' (t50, out51)) p1 (Int.tmod p1 f0.Wide) v1 (4 : Int) x.1 f0 x.2 [(⟨(1 : Int), (0 : Int)⟩ : SArr2_Int), (⟨(0 : Int), (1 : Int)⟩ : SArr2_Int), (⟨(-1 : Int), (0 : Int)⟩ : SArr2_Int), (⟨(0 : Int), (-1 : Int)⟩ : SArr2_Int)]) n ((0 : Int), []))))
def impl_Hops_1 (n : Nat) (q0 : Int) (a1 : List Int) (a2 : Int) : Option Bool :=
  ix q0 a1.length (some ((decide ((a1.getD q0.toNat (0 : Int)) = a2))))
def slices_IndexFunc_int_int__impl_Hops_1_L2 {R : Type} (n : Nat) (kx0 : Option R) (kxr : Int → Option R) (J : Int → Option R) (s1 : List Int) (f2 : List Int) (f3 : Int) (t4 : Int) (t5 : Int) : Option R :=
  (bif (decide (t5 < t4)) then ix t5 s1.length ((impl_Hops_1 n (s1.getD t5.toNat (0 : Int)) f2 f3).bind fun r9 => (bif r9 then kxr t5 else J (w64 (t5 + (1 : Int))))) else kx0)
def slices_IndexFunc_int_int__impl_Hops_1 (n : Nat) (s0 : List Int) (f1c0 : List Int) (f1c1 : Int) : Option Int :=
  loopN (fun (x : Int) J' => slices_IndexFunc_int_int__impl_Hops_1_L2 n (some ((-1 : Int))) (fun t11 => some (t11)) J' s0 f1c0 f1c1 (s0.length : Int) x) n ((0 : Int))
def slices_ContainsFunc_int_int__impl_Hops_1 (n : Nat) (s0 : List Int) (f1c0 : List Int) (f1c1 : Int) : Option Bool :=
  (slices_IndexFunc_int_int__impl_Hops_1 n s0 f1c0 f1c1).bind fun r1 => some ((decide (r1 ≥ (0 : Int))))
def impl_Hops_L5 {R : Type} (n : Nat) (kx0 : List Int → Option R) (J : Int → List Int → Option R) (goal4 : Int) (t5 : Int) (t6 : Int) (f7 : SFloor) (t8 : List Int) : Option R :=
  (bif (decide (t6 < t5)) then ix t6 t8.length (chk (decide (t6.toNat < t8.length)) (J (w64 (t6 + (1 : Int))) (t8.set t6.toNat (-1 : Int)))) else kx0 t8)
def impl_Hops_k0 {R : Type} (n : Nat) (kx4 : Bool → List Int → Option R) (J : Bool → Int → List Int → Option R) (again26 : Bool) (t21 : Int) (t27 : Int) (f23 : SFloor) (c28 : List Int) (n25 : Int) : Option R :=
  ix t27 c28.length (chk (decide (t27.toNat < c28.length)) ((bif (decide ((c28.getD t27.toNat (0 : Int)) < (0 : Int))) then (impl_Floor_leads n f23 t27).bind fun r29 => (slices_ContainsFunc_int_int__impl_Hops_1 n r29 c28 n25).bind fun r30 => (bif r30 then ix t27 c28.length (chk (decide (t27.toNat < c28.length)) ((bd (c28.set t27.toNat (w64 (n25 + (1 : Int)))) fun (l42 : List Int) => J true (w64 (t27 + (1 : Int))) l42))) else J again26 (w64 (t27 + (1 : Int))) c28) else J again26 (w64 (t27 + (1 : Int))) c28)))
def impl_Hops_L15 {R : Type} (n : Nat) (kx4 : Bool → List Int → Option R) (J : Bool → Int → List Int → Option R) (again20 : Bool) (t21 : Int) (t22 : Int) (f23 : SFloor) (c24 : List Int) (n25 : Int) : Option R :=
  (bif (decide (t22 < t21)) then impl_Hops_k0 n kx4 J again20 t21 t22 f23 c24 n25 else kx4 again20 c24)
def impl_Hops_L11 {R : Type} (n : Nat) (kx2 : List Int → Option R) (J : Bool → List Int → Int → Option R) (again14 : Bool) (f15 : SFloor) (c16 : List Int) (n17 : Int) : Option R :=
  (bif again14 then loopN (fun (x : Bool × Int × List Int) J' => impl_Hops_L15 n (fun again63 c64 => J again63 c64 (w64 (n17 + (1 : Int)))) (fun again65 t66 c67 => J' (again65, t66, c67)) x.1 (c16.length : Int) x.2.1 f15 x.2.2 n17) n (false, (0 : Int), c16) else kx2 c16)
def impl_Hops_k1 (n : Nat)  (goal1 : Int) (f0 : SFloor) : Option (List Int × Bool) :=
  chk (decide ((0 : Int) ≤ (f0.Ways.length : Int))) (chk (decide ((f0.Ways.length : Int) ≤ (f0.Ways.length : Int))) (chk (decide ((f0.Ways.length : Int) ≤ 9223372036854775807 ∧ (f0.Ways.length : Int) * (8 : Int) ≤ 281474976710656)) (loopN (fun (x : Int × List Int) J' => impl_Hops_L5 n (fun c12 => ix goal1 c12.length (chk (decide (goal1.toNat < c12.length)) ((bd (c12.set goal1.toNat (0 : Int)) fun (l13 : List Int) => loopN (fun (x : Bool × List Int × Int) J' => impl_Hops_L11 n (fun c68 => some (c68, true)) (fun again69 c70 n71 => J' (again69, c70, n71)) x.1 f0 x.2.1 x.2.2) n (true, l13, (0 : Int)))))) (fun t72 t73 => J' (t72, t73)) goal1 ((List.replicate (f0.Ways.length : Int).toNat (0 : Int)).length : Int) x.1 f0 x.2) n ((0 : Int), (List.replicate (f0.Ways.length : Int).toNat (0 : Int))))))
def impl_Hops (n : Nat) (f0 : SFloor) (goal1 : Int) : Option (List Int × Bool) :=
  (impl_FloorOk n f0).bind fun r1 => (bif (!r1) then some ([], false) else (impl_Floor_place n f0 goal1).bind fun r2 => (bif (!r2) then some ([], false) else impl_Hops_k1 n  goal1 f0))
def impl_Floor_want_k0 {R : Type} (n : Nat) (kx0 : Option R) (kxr : Int → Option R) (J : Int → Option R) (t10 : Int) (t15 : Int) (c12 : SCart) (h13 : List Int) (t14 : List Int) : Option R :=
  ix t15 t14.length (chk (decide (t15.toNat < t14.length)) (ix (t14.getD t15.toNat (0 : Int)) h13.length (chk (decide ((t14.getD t15.toNat (0 : Int)).toNat < h13.length)) ((bif (decide ((h13.getD ((t14.getD t15.toNat (0 : Int)).toNat) (0 : Int)) ≥ (0 : Int))) then ix (t14.getD t15.toNat (0 : Int)) h13.length (chk (decide ((t14.getD t15.toNat (0 : Int)).toNat < h13.length)) (ix c12.At h13.length (chk (decide (c12.At.toNat < h13.length)) ((bif (decide ((h13.getD ((t14.getD t15.toNat (0 : Int)).toNat) (0 : Int)) < (h13.getD c12.At.toNat (0 : Int)))) then kxr (t14.getD t15.toNat (0 : Int)) else J (w64 (t15 + (1 : Int)))))))) else J (w64 (t15 + (1 : Int))))))))
def impl_Floor_want_L5 {R : Type} (n : Nat) (kx0 : Option R) (kxr : Int → Option R) (J : Int → Option R) (t10 : Int) (t11 : Int) (c12 : SCart) (h13 : List Int) (t14 : List Int) : Option R :=
  (bif (decide (t11 < t10)) then impl_Floor_want_k0 n kx0 kxr J t10 t11 c12 h13 t14 else kx0)
def impl_Floor_want (n : Nat) (f0 : SFloor) (c1 : SCart) : Option Int :=
  (impl_Hops n f0 c1.Goal).bind fun r1 => (bif (!r1.2) then some ((-1 : Int)) else ix c1.At r1.1.length (chk (decide (c1.At.toNat < r1.1.length)) ((bif (decide ((r1.1.getD c1.At.toNat (0 : Int)) ≤ (0 : Int))) then some ((-1 : Int)) else (impl_Floor_leads n f0 c1.At).bind fun r32 => loopN (fun (x : Int) J' => impl_Floor_want_L5 n (some ((-1 : Int))) (fun t33 => some (t33)) J' (r32.length : Int) x c1 r1.1 r32) n ((0 : Int))))))
def impl_Round_1_k0 {R : Type} (n : Nat) (kx0 : Option R) (kxr : Bool → Option R) (J : Int → Option R) (i2 : Int) (t3 : List Int) (t4 : List SCart) (w5 : Int) (t6 : List SCart) (t7 : Int) (t9 : Int) : Option R :=
  ix t9 t6.length ((bd (t6.getD t9.toNat dSCart) fun (e10 : SCart) => (bif (decide (t9 < i2)) then ix t9 t3.length ((bif (decide ((t3.getD t9.toNat (0 : Int)) = w5)) then kxr true else (bif (!(decide (t9 = i2))) then (bif (decide (e10.At = w5)) then ix t9 t3.length ((bif (decide ((t3.getD t9.toNat (0 : Int)) < (0 : Int))) then kxr true else ix t9 t3.length (ix i2 t4.length ((bd (t4.getD i2.toNat dSCart) fun (e13 : SCart) => (bif (decide ((t3.getD t9.toNat (0 : Int)) = e13.At)) then kxr true else J (w64 (t9 + (1 : Int))))))))) else J (w64 (t9 + (1 : Int)))) else J (w64 (t9 + (1 : Int)))))) else (bif (!(decide (t9 = i2))) then (bif (decide (e10.At = w5)) then ix t9 t3.length ((bif (decide ((t3.getD t9.toNat (0 : Int)) < (0 : Int))) then kxr true else ix t9 t3.length (ix i2 t4.length ((bd (t4.getD i2.toNat dSCart) fun (e24 : SCart) => (bif (decide ((t3.getD t9.toNat (0 : Int)) = e24.At)) then kxr true else J (w64 (t9 + (1 : Int))))))))) else J (w64 (t9 + (1 : Int)))) else J (w64 (t9 + (1 : Int)))))))
def impl_Round_1_L5 {R : Type} (n : Nat) (kx0 : Option R) (kxr : Bool → Option R) (J : Int → Option R) (i2 : Int) (t3 : List Int) (t4 : List SCart) (w5 : Int) (t6 : List SCart) (t7 : Int) (t8 : Int) : Option R :=
  (bif (decide (t8 < t7)) then impl_Round_1_k0 n kx0 kxr J i2 t3 t4 w5 t6 t7 t8 else kx0)
def impl_Round_1 (n : Nat) (i0 : Int) (a1 : List Int) (a2 : List SCart) : Option Bool :=
  ix i0 a1.length ((bif (decide ((a1.getD i0.toNat (0 : Int)) < (0 : Int))) then some (false) else loopN (fun (x : Int) J' => impl_Round_1_L5 n (some (false)) (fun t34 => some (t34)) J' i0 a1 a2 (a1.getD i0.toNat (0 : Int)) a2 (a2.length : Int) x) n ((0 : Int))))
def impl_own_impl_Cart (n : Nat) (l0 : List SCart) : Option (List SCart) :=
  chk (decide ((0 : Int) ≤ (l0.length : Int))) (chk (decide ((l0.length : Int) ≤ 9223372036854775807 ∧ (l0.length : Int) * (16 : Int) ≤ 281474976710656)) (chk (decide (l0.length * 16 ≤ 140737488355328)) (some (l0))))
def impl_own_int (n : Nat) (l0 : List Int) : Option (List Int) :=
  chk (decide ((0 : Int) ≤ (l0.length : Int))) (chk (decide ((l0.length : Int) ≤ 9223372036854775807 ∧ (l0.length : Int) * (8 : Int) ≤ 281474976710656)) (chk (decide (l0.length * 8 ≤ 140737488355328)) (some (l0))))
def impl_Round_L5 {R : Type} (n : Nat) (kx0 : List Int → Option R) (J : Int → List Int → Option R) (t2 : List SCart) (t3 : Int) (t4 : Int) (f5 : SFloor) (carts6 : List SCart) (c7 : List Int) : Option R :=
  (bif (decide (t4 < t3)) then ix t4 t2.length ((bd (t2.getD t4.toNat dSCart) fun (e12 : SCart) => (impl_Floor_want n f5 e12).bind fun r13 => ix t4 c7.length (chk (decide (t4.toNat < c7.length)) (J (w64 (t4 + (1 : Int))) (c7.set t4.toNat r13))))) else kx0 c7)
def impl_Round_L11 {R : Type} (n : Nat) (kx4 : Int → Option R) (J : Int → Option R) (i17 : Int) (carts18 : List SCart) (c19 : List Int) : Option R :=
  (bif (decide (i17 < (carts18.length : Int))) then (impl_Round_1 n i17 c19 carts18).bind fun r20 => (bif (!r20) then J (w64 (i17 + (1 : Int))) else kx4 i17) else kx4 i17)
def impl_Round_L10 {R : Type} (n : Nat) (kx2 : List Int → Option R) (J : List Int → Option R) (carts15 : List SCart) (c16 : List Int) : Option R :=
  loopN (fun (x : Int) J' => impl_Round_L11 n (fun i26 => (bif (decide (i26 = (carts15.length : Int))) then kx2 c16 else ix i26 c16.length (chk (decide (i26.toNat < c16.length)) ((bd (c16.set i26.toNat (-1 : Int)) fun (l30 : List Int) => J l30))))) J' x carts15 c16) n ((0 : Int))
def impl_Round_k0 {R : Type} (n : Nat) (kx6 : List SCart → List Int → Option R) (J : Int → List SCart → List Int → Option R) (t34 : Int) (t39 : Int) (l40 : List SCart) (moved41 : List Int) (t38 : List Int) : Option R :=
  ix t39 t38.length (chk (decide (t39.toNat < t38.length)) ((bif (decide ((t38.getD t39.toNat (0 : Int)) ≥ (0 : Int))) then ix t39 l40.length (chk (decide (t39.toNat < l40.length)) ((bd (l40.getD t39.toNat dSCart) fun (e42 : SCart) => (bd (l40.set t39.toNat (⟨(t38.getD t39.toNat (0 : Int)), e42.Goal⟩ : SCart)) fun (l43 : List SCart) => chk (decide ((moved41 ++ [t39]).length * 8 ≤ 140737488355328)) (J (w64 (t39 + (1 : Int))) l43 (moved41 ++ [t39])))))) else J (w64 (t39 + (1 : Int))) l40 moved41)))
def impl_Round_L18 {R : Type} (n : Nat) (kx6 : List SCart → List Int → Option R) (J : Int → List SCart → List Int → Option R) (t34 : Int) (t35 : Int) (l36 : List SCart) (moved37 : List Int) (t38 : List Int) : Option R :=
  (bif (decide (t35 < t34)) then impl_Round_k0 n kx6 J t34 t35 l36 moved37 t38 else kx6 l36 moved37)
def impl_Round_k1 (n : Nat)  (f0 : SFloor) (carts1 : List SCart) : Option (List SCart × List Int × Bool) :=
  chk (decide ((0 : Int) ≤ (carts1.length : Int))) (chk (decide ((carts1.length : Int) ≤ (carts1.length : Int))) (chk (decide ((carts1.length : Int) ≤ 9223372036854775807 ∧ (carts1.length : Int) * (8 : Int) ≤ 281474976710656)) (loopN (fun (x : Int × List Int) J' => impl_Round_L5 n (fun c14 => loopN (fun (x : List Int) J' => impl_Round_L10 n (fun c32 => (impl_own_impl_Cart n carts1).bind fun r33 => loopN (fun (x : Int × List SCart × List Int) J' => impl_Round_L18 n (fun l50 moved51 => (impl_own_int n moved51).bind fun r52 => some (l50, r52, true)) (fun t53 l54 moved55 => J' (t53, l54, moved55)) (c32.length : Int) x.1 x.2.1 x.2.2 c32) n ((0 : Int), r33, [])) J' carts1 x) n (c14)) (fun t57 c58 => J' (t57, c58)) carts1 (carts1.length : Int) x.1 f0 carts1 x.2) n ((0 : Int), (List.replicate (carts1.length : Int).toNat (0 : Int))))))
def impl_Round (n : Nat) (f0 : SFloor) (carts1 : List SCart) : Option (List SCart × List Int × Bool) :=
  (impl_CartsOk n f0 carts1).bind fun r1 => (bif (!r1) then some ([], [], false) else impl_Round_k1 n  f0 carts1)
def slices_Index_int_int_L2 {R : Type} (n : Nat) (kx0 : Option R) (kxr : Int → Option R) (J : Int → Option R) (s1 : List Int) (v2 : Int) (t3 : Int) (t4 : Int) : Option R :=
  (bif (decide (t4 < t3)) then ix t4 s1.length ((bif (decide (v2 = (s1.getD t4.toNat (0 : Int)))) then kxr t4 else J (w64 (t4 + (1 : Int))))) else kx0)
def slices_Index_int_int (n : Nat) (s0 : List Int) (v1 : Int) : Option Int :=
  loopN (fun (x : Int) J' => slices_Index_int_int_L2 n (some ((-1 : Int))) (fun t8 => some (t8)) J' s0 v1 (s0.length : Int) x) n ((0 : Int))
def slices_Contains_int_int (n : Nat) (s0 : List Int) (v1 : Int) : Option Bool :=
  (slices_Index_int_int n s0 v1).bind fun r1 => some ((decide (r1 ≥ (0 : Int))))
def impl_Stuck_k0 {R : Type} (n : Nat) (kx0 : List Int → Option R) (J : Int → List Int → Option R) (t3 : List SCart) (t4 : Int) (t9 : Int) (f6 : SFloor) (moved7 : List Int) (out10 : List Int) : Option R :=
  ix t9 t3.length ((bd (t3.getD t9.toNat dSCart) fun (e11 : SCart) => (impl_Hops n f6 e11.Goal).bind fun r12 => (bif r12.2 then ix e11.At r12.1.length (chk (decide (e11.At.toNat < r12.1.length)) ((bif (decide ((r12.1.getD e11.At.toNat (0 : Int)) > (0 : Int))) then (slices_Contains_int_int n moved7 t9).bind fun r13 => (bif (!r13) then chk (decide ((out10 ++ [t9]).length * 8 ≤ 140737488355328)) (J (w64 (t9 + (1 : Int))) (out10 ++ [t9])) else J (w64 (t9 + (1 : Int))) out10) else J (w64 (t9 + (1 : Int))) out10))) else J (w64 (t9 + (1 : Int))) out10)))
def impl_Stuck_L6 {R : Type} (n : Nat) (kx0 : List Int → Option R) (J : Int → List Int → Option R) (t3 : List SCart) (t4 : Int) (t5 : Int) (f6 : SFloor) (moved7 : List Int) (out8 : List Int) : Option R :=
  (bif (decide (t5 < t4)) then impl_Stuck_k0 n kx0 J t3 t4 t5 f6 moved7 out8 else kx0 out8)
def impl_Stuck (n : Nat) (f0 : SFloor) (carts1 : List SCart) : Option (List Int × Bool) :=
  (impl_Round n f0 carts1).bind fun r1 => (bif (!r1.2.2) then some ([], false) else loopN (fun (x : Int × List Int) J' => impl_Stuck_L6 n (fun out42 => (impl_own_int n out42).bind fun r43 => some (r43, true)) (fun t44 out45 => J' (t44, out45)) carts1 (carts1.length : Int) x.1 f0 r1.2.1 x.2) n ((0 : Int), []))
def laws_within_L2 {R : Type} (n : Nat) (kx0 : Option R) (kxr : Bool → Option R) (J : Int → Option R) (list1 : List Int) (x2 : Int) (i3 : Int) : Option R :=
  (bif (decide (i3 < (list1.length : Int))) then ix i3 list1.length ((bif (decide ((list1.getD i3.toNat (0 : Int)) = x2)) then kxr true else J (w64 (i3 + (1 : Int))))) else kx0)
def laws_within (n : Nat) (list0 : List Int) (x1 : Int) : Option Bool :=
  loopN (fun (x : Int) J' => laws_within_L2 n (some (false)) (fun t7 => some (t7)) J' list0 x1 x) n ((0 : Int))
def spec_l3All_L2 {R : Type} (n : Nat) (kx0 : Option R) (kxr : Bool → Option R) (J : Int → Option R) (list1 : List Int) (a2 : Int) (b3 : Int) (i4 : Int) : Option R :=
  (bif (decide (i4 < (list1.length : Int))) then ix i4 list1.length ((spec_l1In n (list1.getD i4.toNat (0 : Int)) a2 b3).bind fun r8 => (bif (!r8) then kxr false else J (w64 (i4 + (1 : Int))))) else kx0)
def spec_l3All (n : Nat) (list0 : List Int) (a1 : Int) (b2 : Int) : Option Bool :=
  loopN (fun (x : Int) J' => spec_l3All_L2 n (some (true)) (fun t10 => some (t10)) J' list0 a1 b2 x) n ((0 : Int))
def spec_FloorOk (n : Nat) (f0 : SFloor) : Option Bool :=
  (spec_l1In n f0.Wide (1 : Int) (10 : Int)).bind fun r1 => (bif r1 then (spec_l1In n f0.High (1 : Int) (10 : Int)).bind fun r2 => (bif r2 then (bd (w64 (f0.Wide * f0.High)) fun (v3 : Int) => (bif (decide ((f0.Ways.length : Int) = v3)) then (spec_l3All n f0.Ways (0 : Int) (15 : Int)).bind fun r4 => some (r4) else some (false))) else some (false)) else some (false))
def spec_l19Next_k0 (n : Nat)  (x5 : Int) (y6 : Int) (f0 : SFloor) : Option Int :=
  (bd (w64 (f0.Wide - (1 : Int))) fun (v7 : Int) => (spec_l1In n x5 (0 : Int) v7).bind fun r8 => (bif (!r8) then some ((-1 : Int)) else (bd (w64 (f0.High - (1 : Int))) fun (v11 : Int) => (spec_l1In n y6 (0 : Int) v11).bind fun r12 => (bif (!r12) then some ((-1 : Int)) else (bd (w64 ((w64 (y6 * f0.Wide)) + x5)) fun (v22 : Int) => some (v22))))))
def spec_l19Next_k1 (n : Nat)  (p1 : Int) (bit2 : Int) (f0 : SFloor) : Option Int :=
  (bif decide (f0.Wide = 0) then none else (bif decide (f0.Wide = 0) then none else (bd (w64 (Int.tdiv p1 f0.Wide)) fun (v3 : Int) => (bif (decide (bit2 = (0 : Int))) then (bd (w64 ((Int.tmod p1 f0.Wide) + (1 : Int))) fun (v4 : Int) => spec_l19Next_k0 n  v4 v3 f0) else (bif (decide (bit2 = (1 : Int))) then spec_l19Next_k0 n  (Int.tmod p1 f0.Wide) (w64 (v3 + (1 : Int))) f0 else (bif (decide (bit2 = (2 : Int))) then (bd (w64 ((Int.tmod p1 f0.Wide) - (1 : Int))) fun (v25 : Int) => spec_l19Next_k0 n  v25 v3 f0) else spec_l19Next_k0 n  (Int.tmod p1 f0.Wide) (w64 (v3 - (1 : Int))) f0))))))
def spec_l19Next (n : Nat) (f0 : SFloor) (p1 : Int) (bit2 : Int) : Option Int :=
  ix p1 f0.Ways.length (chk (decide (0 ≤ bit2)) ((bd (Int.fdiv (f0.Ways.getD p1.toNat (0 : Int)) (2 ^ (min bit2.toNat 64))) fun (v1 : Int) => (bd (w64 (((BitVec.ofInt 64 v1 &&& BitVec.ofInt 64 (1 : Int)).toNat : Nat) : Int)) fun (v2 : Int) => (bif (decide (v2 = (0 : Int))) then some ((-1 : Int)) else spec_l19Next_k1 n  p1 bit2 f0)))))
def spec_Hops_L5 {R : Type} (n : Nat) (kx0 : List Int → Option R) (J : Int → List Int → Option R) (goal5 : Int) (p6 : Int) (f7 : SFloor) (out8 : List Int) : Option R :=
  (bif (decide (p6 < (out8.length : Int))) then ix p6 out8.length (chk (decide (p6.toNat < out8.length)) ((bd (out8.set p6.toNat (-1 : Int)) fun (l12 : List Int) => J (w64 (p6 + (1 : Int))) l12))) else kx0 out8)
def spec_Hops_k0 {R : Type} (n : Nat) (kx6 : List Int → Option R) (J : Int → List Int → Option R) (d26 : Int) (p27 : Int) (bit37 : Int) (t38 : Bool) (f29 : SFloor) (out39 : List Int) : Option R :=
  (bif t38 then ix p27 out39.length (chk (decide (p27.toNat < out39.length)) ((bd (out39.set p27.toNat (w64 (d26 + (1 : Int)))) fun (l40 : List Int) => (bd (w64 (bit37 + (1 : Int))) fun (v44 : Int) => J v44 l40)))) else (bd (w64 (bit37 + (1 : Int))) fun (v47 : Int) => J v47 out39))
def spec_Hops_k1 {R : Type} (n : Nat) (kx6 : List Int → Option R) (J : Int → List Int → Option R) (d26 : Int) (p27 : Int) (bit34 : Int) (f29 : SFloor) (out35 : List Int) : Option R :=
  (spec_l19Next n f29 p27 bit34).bind fun r36 => (bif (decide (r36 ≥ (0 : Int))) then ix r36 out35.length (chk (decide (r36.toNat < out35.length)) (spec_Hops_k0 n kx6 J d26 p27 bit34 (decide ((out35.getD r36.toNat (0 : Int)) = d26)) f29 out35)) else (bd (w64 (bit34 + (1 : Int))) fun (v55 : Int) => J v55 out35))
def spec_Hops_L16 {R : Type} (n : Nat) (kx6 : List Int → Option R) (J : Int → List Int → Option R) (d26 : Int) (p27 : Int) (bit28 : Int) (f29 : SFloor) (out30 : List Int) : Option R :=
  (bif (decide (bit28 < (4 : Int))) then ix p27 out30.length (chk (decide (p27.toNat < out30.length)) ((bif (decide ((out30.getD p27.toNat (0 : Int)) < (0 : Int))) then spec_Hops_k1 n kx6 J d26 p27 bit28 f29 out30 else kx6 out30))) else kx6 out30)
def spec_Hops_L13 {R : Type} (n : Nat) (kx4 : List Int → Option R) (J : Int → List Int → Option R) (d20 : Int) (p21 : Int) (f22 : SFloor) (out23 : List Int) : Option R :=
  (bif (decide (p21 < (out23.length : Int))) then loopN (fun (x : Int × List Int) J' => spec_Hops_L16 n (fun out63 => J (w64 (p21 + (1 : Int))) out63) (fun bit64 out65 => J' (bit64, out65)) d20 p21 x.1 f22 x.2) n ((0 : Int), out23) else kx4 out23)
def spec_Hops_L10 {R : Type} (n : Nat) (kx2 : List Int → Option R) (J : Int → List Int → Option R) (d15 : Int) (f16 : SFloor) (out17 : List Int) : Option R :=
  (bif (decide (d15 < (out17.length : Int))) then loopN (fun (x : Int × List Int) J' => spec_Hops_L13 n (fun out69 => J (w64 (d15 + (1 : Int))) out69) (fun p70 out71 => J' (p70, out71)) d15 x.1 f16 x.2) n ((0 : Int), out17) else kx2 out17)
def spec_Hops_k2 (n : Nat)  (goal1 : Int) (f0 : SFloor) : Option (List Int × Bool) :=
  chk (decide ((0 : Int) ≤ (f0.Ways.length : Int))) (chk (decide ((f0.Ways.length : Int) ≤ (f0.Ways.length : Int))) (chk (decide ((f0.Ways.length : Int) ≤ 9223372036854775807 ∧ (f0.Ways.length : Int) * (8 : Int) ≤ 281474976710656)) (loopN (fun (x : Int × List Int) J' => spec_Hops_L5 n (fun out13 => ix goal1 out13.length (chk (decide (goal1.toNat < out13.length)) ((bd (out13.set goal1.toNat (0 : Int)) fun (l14 : List Int) => loopN (fun (x : Int × List Int) J' => spec_Hops_L10 n (fun out72 => some (out72, true)) (fun d73 out74 => J' (d73, out74)) x.1 f0 x.2) n ((0 : Int), l14))))) (fun p75 out76 => J' (p75, out76)) goal1 x.1 f0 x.2) n ((0 : Int), (List.replicate (f0.Ways.length : Int).toNat (0 : Int))))))
def spec_Hops (n : Nat) (f0 : SFloor) (goal1 : Int) : Option (List Int × Bool) :=
  (spec_FloorOk n f0).bind fun r1 => (bif (!r1) then some ([], false) else (bd (w64 ((f0.Ways.length : Int) - (1 : Int))) fun (v2 : Int) => (spec_l1In n goal1 (0 : Int) v2).bind fun r3 => (bif (!r3) then some ([], false) else spec_Hops_k2 n  goal1 f0)))
def impl_Settle19_1 (n : Nat) (c0 : SCart) : Option Bool :=
  (bif (decide (c0.Goal ≥ (0 : Int))) then some ((!(decide (c0.At = c0.Goal)))) else some (false))
def slices_IndexFunc_impl_Cart_impl_Cart__impl_Settle19_1_L2 {R : Type} (n : Nat) (kx0 : Option R) (kxr : Int → Option R) (J : Int → Option R) (s1 : List SCart) (t2 : Int) (t3 : Int) : Option R :=
  (bif (decide (t3 < t2)) then ix t3 s1.length ((bd (s1.getD t3.toNat dSCart) fun (e8 : SCart) => (impl_Settle19_1 n e8).bind fun r9 => (bif r9 then kxr t3 else J (w64 (t3 + (1 : Int)))))) else kx0)
def slices_IndexFunc_impl_Cart_impl_Cart__impl_Settle19_1 (n : Nat) (s0 : List SCart) : Option Int :=
  loopN (fun (x : Int) J' => slices_IndexFunc_impl_Cart_impl_Cart__impl_Settle19_1_L2 n (some ((-1 : Int))) (fun t11 => some (t11)) J' s0 (s0.length : Int) x) n ((0 : Int))
def slices_ContainsFunc_impl_Cart_impl_Cart__impl_Settle19_1 (n : Nat) (s0 : List SCart) : Option Bool :=
  (slices_IndexFunc_impl_Cart_impl_Cart__impl_Settle19_1 n s0).bind fun r1 => some ((decide (r1 ≥ (0 : Int))))
def impl_Settle19_L6 {R : Type} (n : Nat) (kx0 : Int → List SCart → Option R) (J : Int → Int → List SCart → Option R) (n5 : Int) (t6 : Int) (t7 : Int) (laws_FnRounds : SFloor) (l9 : List SCart) : Option R :=
  (bif (decide (t7 < t6)) then (impl_Round n laws_FnRounds l9).bind fun r23 => (bif (decide ((r23.2.1.length : Int) = (0 : Int))) then kx0 n5 l9 else J (w64 (n5 + (1 : Int))) (w64 (t7 + (1 : Int))) r23.1) else kx0 n5 l9)
def impl_Settle19_k0 (n : Nat)  (carts1 : List SCart) (rounds2 : Int) (t3 : Bool) (f0 : SFloor) : Option (List SCart × Int × Bool) :=
  (bif t3 then some ([], (0 : Int), false) else (impl_own_impl_Cart n carts1).bind fun r36 => loopN (fun (x : Int × Int × List SCart) J' => impl_Settle19_L6 n (fun n37 l38 => (slices_ContainsFunc_impl_Cart_impl_Cart__impl_Settle19_1 n l38).bind fun r39 => some (l38, n37, (!r39))) (fun n40 t41 l42 => J' (n40, t41, l42)) x.1 rounds2 x.2.1 f0 x.2.2) n ((0 : Int), (0 : Int), r36))
def impl_Settle19 (n : Nat) (f0 : SFloor) (carts1 : List SCart) (rounds2 : Int) : Option (List SCart × Int × Bool) :=
  (impl_CartsOk n f0 carts1).bind fun r1 => (bif (!r1) then some ([], (0 : Int), false) else (impl_in n rounds2 (0 : Int) (200 : Int)).bind fun r2 => impl_Settle19_k0 n  carts1 rounds2 (!r2) f0)
def laws_FnRounds_k0 {R : Type} (n : Nat) (kx4 : Option R) (kxr : Bool → Option R) (J : Int → Option R) (carts71 : List SCart) (now72 : List SCart) (r73 : Int) (i74 : Int) (k80 : Int) (spec_l1Below : SFloor) (next77 : List SCart) (moved78 : List Int) (stuck79 : List Int) : Option R :=
  ix i74 now72.length ((bd (now72.getD i74.toNat dSCart) fun (e81 : SCart) => ix k80 next77.length (chk (decide (k80.toNat < next77.length)) ((bif (decide (e81.At = (next77.getD k80.toNat dSCart).At)) then ix k80 now72.length ((bd (now72.getD k80.toNat dSCart) fun (e82 : SCart) => ix i74 next77.length (chk (decide (i74.toNat < next77.length)) ((bif (decide (e82.At = (next77.getD i74.toNat dSCart).At)) then ix i74 now72.length ((bd (now72.getD i74.toNat dSCart) fun (e83 : SCart) => ix i74 next77.length (chk (decide (i74.toNat < next77.length)) ((bif (!(decide (e83.At = (next77.getD i74.toNat dSCart).At))) then kxr false else J (w64 (k80 + (1 : Int)))))))) else J (w64 (k80 + (1 : Int)))))))) else J (w64 (k80 + (1 : Int))))))))
def laws_FnRounds_L24 {R : Type} (n : Nat) (kx4 : Option R) (kxr : Bool → Option R) (J : Int → Option R) (carts71 : List SCart) (now72 : List SCart) (r73 : Int) (i74 : Int) (k75 : Int) (spec_l1Below : SFloor) (next77 : List SCart) (moved78 : List Int) (stuck79 : List Int) : Option R :=
  (bif (decide (k75 < i74)) then laws_FnRounds_k0 n kx4 kxr J carts71 now72 r73 i74 k75 spec_l1Below next77 moved78 stuck79 else kx4)
def laws_FnRounds_k1 {R : Type} (n : Nat) (kx2 : Option R) (kxr : Bool → Option R) (J : Int → Option R) (carts47 : List SCart) (now48 : List SCart) (r49 : Int) (i63 : Int) (f51 : SFloor) (next52 : List SCart) (moved53 : List Int) (stuck54 : List Int) : Option R :=
  ix i63 now48.length ((bd (now48.getD i63.toNat dSCart) fun (e64 : SCart) => ix i63 next52.length (chk (decide (i63.toNat < next52.length)) ((bif (!(decide (e64.At = (next52.getD i63.toNat dSCart).At))) then ix i63 now48.length ((bd (now48.getD i63.toNat dSCart) fun (e65 : SCart) => (spec_Hops n f51 e65.Goal).bind fun r66 => ix i63 next52.length (chk (decide (i63.toNat < next52.length)) (ix ((next52.getD i63.toNat dSCart).At) r66.1.length (chk (decide (((next52.getD i63.toNat dSCart).At).toNat < r66.1.length)) ((bd (r66.1.getD (((next52.getD i63.toNat dSCart).At).toNat) (0 : Int)) fun (e67 : Int) => ix i63 now48.length ((bd (now48.getD i63.toNat dSCart) fun (e68 : SCart) => ix e68.At r66.1.length (chk (decide (e68.At.toNat < r66.1.length)) ((bd (w64 ((r66.1.getD e68.At.toNat (0 : Int)) - (1 : Int))) fun (v69 : Int) => (bif (!(decide (e67 = v69))) then kxr false else loopN (fun (x : Int) J' => laws_FnRounds_L24 n (J (w64 (i63 + (1 : Int)))) (fun t97 => kxr t97) J' carts47 now48 r49 i63 x f51 next52 moved53 stuck54) n ((0 : Int))))))))))))))) else loopN (fun (x : Int) J' => laws_FnRounds_L24 n (J (w64 (i63 + (1 : Int)))) (fun t101 => kxr t101) J' carts47 now48 r49 i63 x f51 next52 moved53 stuck54) n ((0 : Int)))))))
def laws_FnRounds_k2 {R : Type} (n : Nat) (kx2 : Option R) (kxr : Bool → Option R) (J : Int → Option R) (carts47 : List SCart) (now48 : List SCart) (r49 : Int) (i55 : Int) (f51 : SFloor) (next52 : List SCart) (moved53 : List Int) (stuck54 : List Int) : Option R :=
  ix i55 now48.length ((bd (now48.getD i55.toNat dSCart) fun (e56 : SCart) => ix i55 next52.length (chk (decide (i55.toNat < next52.length)) ((laws_within n moved53 i55).bind fun r57 => (bif (!((!(decide (e56.At = (next52.getD i55.toNat dSCart).At))) == r57)) then kxr false else (laws_within n moved53 i55).bind fun r59 => (bif r59 then (laws_within n stuck54 i55).bind fun r60 => (bif r60 then kxr false else laws_FnRounds_k1 n kx2 kxr J carts47 now48 r49 i55 f51 next52 moved53 stuck54) else laws_FnRounds_k1 n kx2 kxr J carts47 now48 r49 i55 f51 next52 moved53 stuck54))))))
def laws_FnRounds_L15 {R : Type} (n : Nat) (kx2 : Option R) (kxr : Bool → Option R) (J : Int → Option R) (carts47 : List SCart) (now48 : List SCart) (r49 : Int) (i50 : Int) (f51 : SFloor) (next52 : List SCart) (moved53 : List Int) (stuck54 : List Int) : Option R :=
  (bif (decide (i50 < (now48.length : Int))) then laws_FnRounds_k2 n kx2 kxr J carts47 now48 r49 i50 f51 next52 moved53 stuck54 else kx2)
def laws_FnRounds_k3 {R : Type} (n : Nat) (kx6 : Option R) (kxr : Bool → Option R) (J : Int → Option R) (now108 : List SCart) (r109 : Int) (many110 : Int) (i113 : Int) (end112 : List SCart) : Option R :=
  ix i113 end112.length (chk (decide (i113.toNat < end112.length)) ((bd (end112.getD i113.toNat dSCart) fun (e114 : SCart) => ix i113 now108.length ((bd (now108.getD i113.toNat dSCart) fun (e115 : SCart) => (bif (!((decide (e114.At = e115.At)) && (decide (e114.Goal = e115.Goal)))) then kxr false else J (w64 (i113 + (1 : Int)))))))))
def laws_FnRounds_L31 {R : Type} (n : Nat) (kx6 : Option R) (kxr : Bool → Option R) (J : Int → Option R) (now108 : List SCart) (r109 : Int) (many110 : Int) (i111 : Int) (end112 : List SCart) : Option R :=
  (bif (decide (i111 < (end112.length : Int))) then laws_FnRounds_k3 n kx6 kxr J now108 r109 many110 i111 end112 else kx6)
def laws_FnRounds_k4 {R : Type} (n : Nat) (kx0 : Option R) (kxr : Bool → Option R) (J : List SCart → Int → Option R) (carts12 : List SCart) (now42 : List SCart) (r43 : Int) (f15 : SFloor) (t44 : List SCart) (t45 : List Int) (t46 : List Int) : Option R :=
  loopN (fun (x : Int) J' => laws_FnRounds_L15 n ((bif (decide ((t45.length : Int) = (0 : Int))) then (impl_Settle19 n f15 carts12 (200 : Int)).bind fun r107 => loopN (fun (x : Int) J' => laws_FnRounds_L31 n (kxr (decide (r107.2.1 = r43))) (fun t117 => kxr t117) J' now42 r43 r107.2.1 x r107.1) n ((0 : Int)) else J t44 (w64 (r43 + (1 : Int))))) (fun t125 => kxr t125) J' carts12 now42 r43 x f15 t44 t45 t46) n ((0 : Int))
def laws_FnRounds_k5 {R : Type} (n : Nat) (kx0 : Option R) (kxr : Bool → Option R) (J : List SCart → Int → Option R) (carts12 : List SCart) (now16 : List SCart) (r17 : Int) (f15 : SFloor) : Option R :=
  (impl_Round n f15 now16).bind fun r18 => (impl_Stuck n f15 now16).bind fun r19 => (bif (!r18.2.2) then kxr false else (bif (!r19.2) then kxr false else (impl_CartsOk n f15 r18.1).bind fun r30 => (bif (!r30) then kxr false else (bif (!(decide ((r18.1.length : Int) = (now16.length : Int)))) then kxr false else laws_FnRounds_k4 n kx0 kxr J carts12 now16 r17 f15 r18.1 r18.2.1 r19.1))))
def laws_FnRounds_L8 {R : Type} (n : Nat) (kx0 : Option R) (kxr : Bool → Option R) (J : List SCart → Int → Option R) (carts12 : List SCart) (now13 : List SCart) (r14 : Int) (f15 : SFloor) : Option R :=
  (bif (decide (r14 < (40 : Int))) then laws_FnRounds_k5 n kx0 kxr J carts12 now13 r14 f15 else kx0)
def laws_FnRounds_k6 (n : Nat)  (code0 : List Int) : Option Bool :=
  (spec_DrawFloor n code0).bind fun r2 => (impl_FloorOk n r2.1).bind fun r3 => (bif (!r3) then some (false) else (impl_CartsOk n r2.1 r2.2).bind fun r6 => (bif (!r6) then some (false) else loopN (fun (x : List SCart × Int) J' => laws_FnRounds_L8 n (some (true)) (fun t140 => some (t140)) (fun now141 r142 => J' (now141, r142)) r2.2 x.1 x.2 r2.1) n (r2.2, (0 : Int))))
def laws_FnRounds (n : Nat) (code0 : List Int) : Option Bool :=
  (laws_big n code0).bind fun r1 => (bif r1 then some (true) else laws_FnRounds_k6 n  code0)
def rng (a b x : Int) : Prop := a ≤ x ∧ x ≤ b
def wfSFloor (x : SFloor) : Prop := rng (-9223372036854775808) 9223372036854775807 x.Wide ∧ rng (-9223372036854775808) 9223372036854775807 x.High ∧ (x.Ways.length ≤ 9223372036854775807 ∧ ∀ y ∈ x.Ways, rng (-9223372036854775808) 9223372036854775807 y)
def wfSCart (x : SCart) : Prop := rng (-9223372036854775808) 9223372036854775807 x.At ∧ rng (-9223372036854775808) 9223372036854775807 x.Goal
def wfSl1Cur (x : Sl1Cur) : Prop := (x.b.length ≤ 9223372036854775807 ∧ ∀ y ∈ x.b, rng 0 255 y) ∧ rng (-9223372036854775808) 9223372036854775807 x.i ∧ rng (-9223372036854775808) 9223372036854775807 x.h
def wfSArr2_Int (x : SArr2_Int) : Prop := rng (-9223372036854775808) 9223372036854775807 x.x0 ∧ rng (-9223372036854775808) 9223372036854775807 x.x1
end Go.Sm
end

section
set_option linter.unusedSimpArgs false
set_option linter.deprecated false
set_option linter.unusedSectionVars false
set_option linter.unusedVariables false
namespace Go.Sm
/-! ### Of the words that printed functions are made of -/
theorem w64_id {x : Int} (h1 : -9223372036854775808 ≤ x) (h2 : x ≤ 9223372036854775807) : w64 x = x := by
  show (let m := x % (2 ^ 64 : Int); if (true && decide ((2 : Int) ^ 63 ≤ m)) = true then m - 2 ^ 64 else m) = x
  simp only [Bool.true_and, decide_eq_true_eq]
  split <;> omega
theorem w64_rng (x : Int) : -9223372036854775808 ≤ w64 x ∧ w64 x ≤ 9223372036854775807 := by
  show -9223372036854775808 ≤ (let m := x % (2 ^ 64 : Int); if (true && decide ((2 : Int) ^ 63 ≤ m)) = true then m - 2 ^ 64 else m) ∧ (let m := x % (2 ^ 64 : Int); if (true && decide ((2 : Int) ^ 63 ≤ m)) = true then m - 2 ^ 64 else m) ≤ 9223372036854775807
  simp only [Bool.true_and, decide_eq_true_eq]
  split <;> omega
theorem chk_of {R : Type} {b : Bool} {x : Option R} (h : b = true) : chk b x = x := by rw [h]; rfl
theorem chk_true {R : Type} {x : Option R} : chk true x = x := rfl
theorem chk_dec {R : Type} {p : Prop} [Decidable p] {x : Option R} (h : p) : chk (decide p) x = x := chk_of (decide_eq_true h)
theorem ix_of {R : Type} {i : Int} {len : Nat} {x : Option R} (h0 : 0 ≤ i) (h1 : i < (len : Int)) : ix i len x = x := by
  unfold ix
  rw [decide_eq_true h0, decide_eq_true h1]
  rfl
theorem ix_nat {R : Type} {i len : Nat} {x : Option R} (h1 : i < len) : ix (i : Int) len x = x := ix_of (by omega) (by omega)
theorem bif_dec {α : Type} {p : Prop} [Decidable p] {x y : α} : (bif decide p then x else y) = if p then x else y := by
  by_cases h : p <;> simp [h]
theorem bif_not {α : Type} {b : Bool} {x y : α} : (bif !b then x else y) = bif b then y else x := by cases b <;> rfl
theorem bif_and {α : Type} {a b : Bool} {x y : α} : (bif a && b then x else y) = bif a then (bif b then x else y) else y := by cases a <;> rfl
theorem loopN_succ {X R : Type} (b : X → (X → Option R) → Option R) (m : Nat) (x : X) : loopN b (m + 1) x = b x (loopN b m) := rfl
/-- What holds of a loop: by what is left to go. -/
theorem loopN_ind {X R : Type} {b : X → (X → Option R) → Option R} (μ : X → Nat) (I : X → Prop) (Q : X → Option R → Prop)
    (h : ∀ x J, I x → (∀ y, I y → μ y < μ x → Q y (J y)) → Q x (b x J)) : ∀ n x, I x → μ x < n → Q x (loopN b n x)
  | 0, x, hi, hm => absurd hm (Nat.not_lt_zero _)
  | n + 1, x, hi, hm => h x (loopN b n) hi fun y hy hl => loopN_ind μ I Q h n y hy (by omega)
theorem getD_eq {α : Type} {l : List α} {i : Nat} {d : α} (h : i < l.length) : l.getD i d = l[i] := by
  simp [List.getD, h]
theorem w64_succ {k : Nat} (h : k < 9223372036854775807) : w64 ((k : Int) + 1) = ((k + 1 : Nat) : Int) := by
  rw [w64_id (by omega) (by omega)]
  rfl
theorem take_succ_getD {α : Type} {l : List α} {i : Nat} {d : α} (h : i < l.length) : l.take (i + 1) = l.take i ++ [l.getD i d] := by
  rw [List.take_succ, getD_eq h, List.getElem?_eq_getElem h]
  rfl
theorem drop_getD {α : Type} {l : List α} {i : Nat} {d : α} (h : i < l.length) : l.drop i = l.getD i d :: l.drop (i + 1) := by
  rw [getD_eq h]
  exact List.drop_eq_getElem_cons h
theorem bd_eq {α β : Type} (e : α) (f : α → β) : bd e f = f e := rfl
theorem bd_set {α β : Type} {Q : β → Prop} {F : List α → β} {p : List α} {i : Nat} {x : α} (h : ∀ l : List α, l.length = p.length → Q (F l)) : Q (bd (p.set i x) F) := h _ (by simp)
theorem bd_is {α β : Type} {Q : β → Prop} {F : α → β} {e : α} (h : ∀ v : α, v = e → Q (F v)) : Q (bd e F) := h _ rfl
theorem bd_val {α β : Type} {Q : β → Prop} {F : α → β} {e : α} (h : ∀ v : α, Q (F v)) : Q (bd e F) := h _
theorem chk_q {R : Type} {Q : Option R → Prop} {b : Bool} {x : Option R} (h : b = true) (hx : Q x) : Q (chk b x) := by rw [chk_of h]; exact hx
theorem ix_q {R : Type} {Q : Option R → Prop} {i : Int} {len : Nat} {x : Option R} (h0 : 0 ≤ i) (h1 : i < (len : Int)) (hx : Q x) : Q (ix i len x) := by rw [ix_of h0 h1]; exact hx
theorem bd_upd {α β : Type} {Q : β → Prop} {F : List α → β} {p : List α} {i : Nat} {x d : α} (hi : i < p.length) (h : ∀ l : List α, l.length = p.length → l.getD i d = x → (∀ j, j ≠ i → l.getD j d = p.getD j d) → Q (F l)) : Q (bd (p.set i x) F) :=
  h _ (by simp) (by simp [List.getD, hi]) (fun j hj => by simp [List.getD, List.getElem?_set, Ne.symm hj])
/-- A list written from the front. -/
theorem set_take {α : Type} {a : List α} {d : α} {m k : Nat} (h : k < a.length) (hm : m = a.length := by rfl) : (a.take k ++ (List.replicate m d).drop k).set k (a.getD k d) = a.take (k + 1) ++ (List.replicate m d).drop (k + 1) := by
  subst hm
  have h1 : (a.take k).length = k := by simp; omega
  rw [List.set_append_right _ _ (by omega), h1, Nat.sub_self, take_succ_getD h, List.append_assoc]
  congr 1
  rw [List.drop_eq_getElem_cons (by simp; exact h)]
  rfl
/-! ### Loops over 0 .. len, by what is left -/
/-- Steps k, k+1, .. told one after the other; J: what comes behind a step. -/
def forK {S R : Type} (step : Nat → S → (S → Option R) → Option R) (fin : S → Option R) : Nat → Nat → S → Option R
  | 0, _, s => fin s
  | m + 1, k, s => step k s fun s' => forK step fin m (k + 1) s'
theorem loop_forK {X S R : Type} {b : X → (X → Option R) → Option R} {enc : Nat → S → X} {len : Nat} {step : Nat → S → (S → Option R) → Option R} {fin : S → Option R} (I : Nat → S → Prop)
    (hstep : ∀ k s J J', k < len → I k s → (∀ s', I (k + 1) s' → J (enc (k + 1) s') = J' s') → b (enc k s) J = step k s J') (hfin : ∀ s J, I len s → b (enc len s) J = fin s) :
    ∀ m k s n, k + m = len → m < n → I k s → loopN b n (enc k s) = forK step fin m k s
  | 0, k, s, 0, _, h, _ => absurd h (Nat.lt_irrefl _)
  | 0, k, s, n + 1, hk, _, hi => by
    have hk : k = len := by omega
    subst hk
    exact hfin s _ hi
  | m + 1, k, s, 0, _, h, _ => absurd h (Nat.not_lt_zero _)
  | m + 1, k, s, n + 1, hk, hn, hi => by
    show b (enc k s) (loopN b n) = step k s fun s' => forK step fin m (k + 1) s'
    exact hstep k s _ _ (by omega) hi fun s' hi' => loop_forK I hstep hfin m (k + 1) s' n (by omega) (by omega) hi'
/-- The first k at which f answers; at none: z. -/
def scanK {R : Type} (f : Nat → Option (Option R)) (z : Option R) : Nat → Nat → Option R
  | 0, _ => z
  | m + 1, k => match f k with
    | some r => r
    | none => scanK f z m (k + 1)
theorem loop_scan {X R : Type} {b : X → (X → Option R) → Option R} {enc : Nat → X} {len : Nat} {f : Nat → Option (Option R)} {z : Option R}
    (hstep : ∀ k J, k < len → b (enc k) J = match f k with | some r => r | none => J (enc (k + 1))) (hfin : ∀ J, b (enc len) J = z) :
    ∀ m k n, k + m = len → m < n → loopN b n (enc k) = scanK f z m k
  | 0, k, 0, _, h => absurd h (Nat.lt_irrefl _)
  | 0, k, n + 1, hk, _ => by
    have hk : k = len := by omega
    subst hk
    exact hfin _
  | m + 1, k, 0, _, h => absurd h (Nat.not_lt_zero _)
  | m + 1, k, n + 1, hk, hn => by
    show b (enc k) (loopN b n) = _
    rw [hstep k _ (by omega)]
    unfold scanK
    cases f k with
    | some r => rfl
    | none => exact loop_scan hstep hfin m (k + 1) n (by omega) (by omega)
/-- Is p so of all of k, .. k + m - 1? -/
theorem scan_all {R : Type} {p : Nat → Bool} {r z : Option R} : ∀ m k, scanK (fun k => bif p k then none else some r) z m k = bif (List.range' k m).all p then z else r
  | 0, k => rfl
  | m + 1, k => by
    rw [scanK, List.range'_succ, List.all_cons]
    cases h : p k with
    | true => simp only [cond_true, Bool.true_and]; exact scan_all m (k + 1)
    | false => rfl
theorem scan_any {R : Type} {p : Nat → Bool} {r z : Option R} : ∀ m k, scanK (fun k => bif p k then some r else none) z m k = bif (List.range' k m).any p then r else z
  | 0, k => rfl
  | m + 1, k => by
    rw [scanK, List.range'_succ, List.any_cons]
    cases h : p k with
    | false => simp only [cond_false, Bool.false_or]; exact scan_any m (k + 1)
    | true => rfl
theorem mgetI_mputI {β : Type} (l : List (Int × β)) (n m : Int) (v : β) : mgetI (mputI l n v) m = if m = n then some v else mgetI l m := by
  unfold mgetI mputI
  induction l with
  | nil =>
    by_cases h : m = n <;> simp [h]
  | cons a l ih =>
    rw [List.findIdx?_cons]
    by_cases h : n = a.1
    · simp only [h, decide_true, if_true, Option.elim_some, List.set_cons_zero, List.find?_cons]
      by_cases h2 : m = a.1
      · simp [h2]
      · simp [h2]
    · simp only [h, decide_false, Bool.false_eq_true, if_false]
      cases hf : l.findIdx? (fun e => decide (n = e.1)) with
      | none =>
        rw [hf] at ih
        simp only [Option.elim_none] at ih
        simp only [Option.map_none, Option.elim_none, List.cons_append, List.find?_cons]
        by_cases h2 : m = a.1
        · have : m ≠ n := fun e => h (e ▸ h2)
          simp [h2]
          simp [h2] at this
          simp [this]
        · simp only [h2, decide_false]
          exact ih
      | some i =>
        rw [hf] at ih
        simp only [Option.elim_some] at ih
        simp only [Option.map_some, Option.elim_some, List.set_cons_succ, List.find?_cons]
        by_cases h2 : m = a.1
        · have : m ≠ n := fun e => h (e ▸ h2)
          simp [h2]
          simp [h2] at this
          simp [this]
        · simp only [h2, decide_false]
          exact ih
theorem mgetI_nil {β : Type} (m : Int) : mgetI ([] : List (Int × β)) m = none := rfl
/-! ### Chains of tests -/
theorem bif_and' {α : Type} {a b : Bool} {x y : α} : (bif a then (bif b then x else y) else y) = bif a && b then x else y := by cases a <;> rfl
theorem bif_or' {α : Type} {a b : Bool} {x y : α} : (bif a then y else (bif b then x else y)) = bif !a && b then x else y := by cases a <;> rfl
theorem bif_and2 {α : Type} {a b : Bool} {x y : α} : (bif a then (bif b then y else x) else y) = bif a && !b then x else y := by cases a <;> cases b <;> rfl
theorem bif_or2 {α : Type} {a b : Bool} {x y : α} : (bif a then y else (bif b then y else x)) = bif !a && !b then x else y := by cases a <;> cases b <;> rfl
theorem bif_some {α β : Type} {a : Bool} {x y : α} {f : α → Option β} : (bif a then some x else some y).bind f = bif a then f x else f y := by cases a <;> rfl
theorem bif_tf {a : Bool} : (bif a then some true else some false) = some a := by cases a <;> rfl
theorem bif_ft {a : Bool} : (bif a then some false else some true) = some (!a) := by cases a <;> rfl
theorem bif_sf {a b : Bool} : (bif a then some b else some false) = some (a && b) := by cases a <;> rfl
theorem all_range_succ {p : Nat → Bool} {k : Nat} : (List.range (k + 1)).all p = ((List.range k).all p && p k) := by
  rw [List.range_succ, List.all_append]
  simp
theorem any_range_succ {p : Nat → Bool} {k : Nat} : (List.range (k + 1)).any p = ((List.range k).any p || p k) := by
  rw [List.range_succ, List.any_append]
  simp
theorem all_range_not {p : Nat → Bool} {k m : Nat} (hk : k < m) (h : p k = false) : (List.range m).all p = false := by
  rw [Bool.eq_false_iff]
  intro e
  rw [List.all_eq_true] at e
  rw [e k (List.mem_range.2 hk)] at h
  cases h
theorem any_range_of {p : Nat → Bool} {k m : Nat} (hk : k < m) (h : p k = true) : (List.range m).any p = true := by
  rw [List.any_eq_true]
  exact ⟨k, List.mem_range.2 hk, h⟩
/-- A loop that looks at k = 0, 1, .. and leaves at the first that is not so. -/
theorem loop_all {R : Type} {b : Int → (Int → Option R) → Option R} {len : Nat} {p : Nat → Bool} {no yes : Option R} (hlen : len ≤ 9223372036854775807)
    (hstep : ∀ (k : Nat) (J : Int → Option R), k < len → (∀ j, j < k → p j = true) → b (k : Int) J = bif p k then J ((k + 1 : Nat) : Int) else no) (hfin : ∀ J, (∀ j, j < len → p j = true) → b (len : Int) J = yes) {n : Nat} (hn : len < n) :
    loopN b n (0 : Int) = bif (List.range len).all p then yes else no := by
  refine loopN_ind (fun x => len - x.toNat) (fun x => ∃ k : Nat, k ≤ len ∧ x = (k : Int) ∧ (List.range k).all p = true) (fun x r => r = bif (List.range len).all p then yes else no) ?_ n _ ⟨0, by omega, rfl, rfl⟩ (by simp; omega)
  rintro _ J ⟨k, hk, rfl, hb⟩ ih
  have hb' : ∀ j, j < k → p j = true := fun j hj => List.all_eq_true.1 hb j (List.mem_range.2 hj)
  by_cases h : k < len
  · rw [hstep k J h hb']
    cases hp : p k with
    | true => exact ih _ ⟨k + 1, h, rfl, by rw [all_range_succ, hb, hp]; rfl⟩ (by simp; omega)
    | false => rw [all_range_not h hp]; rfl
  · have : k = len := by omega
    subst this
    rw [hfin _ hb', hb]
    rfl
/-- The same, a state turned on the way (its invariant: I). -/
theorem loop_allS {S R : Type} {X : Type} {enc : Int → S → X} {b : X → (X → Option R) → Option R} {len : Nat} {p : Nat → Bool} {I : Nat → S → Prop} {no yes : Option R}
    (hstep : ∀ (k : Nat) (s : S) (J : X → Option R), k < len → I k s → (∀ j, j < k → p j = true) → ∃ s', (p k = true → I (k + 1) s') ∧ b (enc (k : Int) s) J = bif p k then J (enc ((k + 1 : Nat) : Int) s') else no) (hfin : ∀ s J, I len s → (∀ j, j < len → p j = true) → b (enc (len : Int) s) J = yes) {n : Nat} (hn : len < n) {s0 : S} (h0 : I 0 s0) :
    loopN b n (enc (0 : Int) s0) = bif (List.range len).all p then yes else no := by
  have key : ∀ m (k : Nat) (s : S) n, k + m = len → m < n → I k s → (List.range k).all p = true → loopN b n (enc (k : Int) s) = bif (List.range len).all p then yes else no := by
    intro m
    induction m with
    | zero =>
      intro k s n hk hn hi hb
      have hb' : ∀ j, j < k → p j = true := fun j hj => List.all_eq_true.1 hb j (List.mem_range.2 hj)
      have hk : k = len := by omega
      subst hk
      cases n with
      | zero => omega
      | succ n => rw [loopN_succ, hfin s _ hi hb', hb]; rfl
    | succ m ih =>
      intro k s n hk hn hi hb
      have hb' : ∀ j, j < k → p j = true := fun j hj => List.all_eq_true.1 hb j (List.mem_range.2 hj)
      cases n with
      | zero => omega
      | succ n =>
        rw [loopN_succ]
        obtain ⟨s', h1, h2⟩ := hstep k s (loopN b n) (by omega) hi hb'
        rw [h2]
        cases hp : p k with
        | true => exact ih (k + 1) s' n (by omega) (by omega) (h1 hp) (by rw [all_range_succ, hb, hp]; rfl)
        | false => rw [all_range_not (by omega : k < len) hp]; rfl
  exact key len 0 s0 n (by omega) hn h0 rfl
/-- A loop over 0 .. len that never leaves early; its state: I. -/
theorem loop_runS {S R : Type} {X : Type} {enc : Int → S → X} {b : X → (X → Option R) → Option R} {len : Nat} {I : Nat → S → Prop} {Q : Option R → Prop}
    (hstep : ∀ (k : Nat) (s : S) (J : X → Option R), k < len → I k s → ∃ s', I (k + 1) s' ∧ b (enc (k : Int) s) J = J (enc ((k + 1 : Nat) : Int) s')) (hfin : ∀ s J, I len s → Q (b (enc (len : Int) s) J)) {n : Nat} (hn : len < n) {s0 : S} (h0 : I 0 s0) :
    Q (loopN b n (enc (0 : Int) s0)) := by
  have key : ∀ m (k : Nat) (s : S) n, k + m = len → m < n → I k s → Q (loopN b n (enc (k : Int) s)) := by
    intro m
    induction m with
    | zero =>
      intro k s n hk hn hi
      have hk : k = len := by omega
      subst hk
      cases n with
      | zero => omega
      | succ n => rw [loopN_succ]; exact hfin s _ hi
    | succ m ih =>
      intro k s n hk hn hi
      cases n with
      | zero => omega
      | succ n =>
        rw [loopN_succ]
        obtain ⟨s', h1, h2⟩ := hstep k s (loopN b n) (by omega) hi
        rw [h2]
        exact ih (k + 1) s' n (by omega) (by omega) h1
  exact key len 0 s0 n (by omega) hn h0
/-! ### Sums over lists -/
def sumOf {α : Type} (f : α → Nat) : List α → Nat
  | [] => 0
  | a :: l => f a + sumOf f l
theorem sumOf_append {α : Type} (f : α → Nat) : ∀ a b : List α, sumOf f (a ++ b) = sumOf f a + sumOf f b
  | [], b => by simp [sumOf]
  | x :: a, b => by simp only [List.cons_append, sumOf, sumOf_append f a b]; omega
theorem sumOf_take_succ {α : Type} {f : α → Nat} {l : List α} {k : Nat} {d : α} (h : k < l.length) : sumOf f (l.take (k + 1)) = sumOf f (l.take k) + f (l.getD k d) := by
  rw [take_succ_getD (d := d) h, sumOf_append]
  simp [sumOf]
theorem sumOf_take_le {α : Type} (f : α → Nat) (l : List α) (k : Nat) : sumOf f (l.take k) ≤ sumOf f l := by
  have := sumOf_append f (l.take k) (l.drop k)
  rw [List.take_append_drop] at this
  omega
theorem sumOf_mem {α : Type} {f : α → Nat} {l : List α} {k : Nat} {d : α} (h : k < l.length) : f (l.getD k d) ≤ sumOf f l := by
  have h1 := sumOf_take_succ (f := f) (d := d) h
  have h2 := sumOf_take_le f l (k + 1)
  omega
theorem sumOf_lin {α : Type} {f g : α → Nat} {c s : Nat} (h : ∀ y, f y ≤ c * g y + s) : ∀ l : List α, sumOf f l ≤ c * sumOf g l + s * l.length
  | [] => by simp [sumOf]
  | a :: l => by
    have h1 := h a
    have h2 := sumOf_lin h l
    simp only [sumOf, List.length_cons, Nat.mul_add, Nat.mul_succ]
    omega
theorem sumOf_const {α : Type} (c : Nat) : ∀ l : List α, sumOf (fun _ => c) l = c * l.length
  | [] => by simp [sumOf]
  | a :: l => by simp only [sumOf, sumOf_const c l, List.length_cons, Nat.mul_succ]; omega
theorem getD_set {α : Type} {l : List α} {k : Nat} {x d : α} (h : k < l.length) : (l.set k x).getD k d = x := by simp [List.getD, h]
theorem getD_set_ne {α : Type} {l : List α} {k j : Nat} {x d : α} (h : j ≠ k) : (l.set k x).getD j d = l.getD j d := by simp [List.getD, List.getElem?_set, Ne.symm h]
theorem getD_mem {α : Type} {l : List α} {k : Nat} {d : α} (h : k < l.length) : l.getD k d ∈ l := by rw [getD_eq h]; exact List.getElem_mem h
theorem take_drop_set {α : Type} {a : List α} {d : α} {m k : Nat} {x : α} (h : k < a.length) (hm : m = a.length) (hx : x = a.getD k d) : (a.take k ++ (List.replicate m d).drop k).set k x = a.take (k + 1) ++ (List.replicate m d).drop (k + 1) := by
  subst hx
  exact set_take h hm
/-! ### The first that is so -/
def idxOf (p : Nat → Bool) (m : Nat) : Int := match (List.range m).find? p with
  | some k => (k : Int)
  | none => -1
theorem find_range_none {p : Nat → Bool} {m : Nat} (h : ∀ j, j < m → p j = false) : (List.range m).find? p = none := by
  rw [List.find?_eq_none]
  intro x hx
  rw [h x (List.mem_range.1 hx)]
  simp
theorem find_range_some {p : Nat → Bool} {m k : Nat} (hk : k < m) (hp : p k = true) (h : ∀ j, j < k → p j = false) : (List.range m).find? p = some k := by
  have e : m = k + (m - k) := by omega
  rw [e, List.range_add, List.find?_append, find_range_none h, Option.none_or]
  obtain ⟨r, hr⟩ : ∃ r, m - k = r + 1 := ⟨m - k - 1, by omega⟩
  rw [hr, List.range_succ_eq_map]
  simp [hp]
theorem idxOf_ge (p : Nat → Bool) (m : Nat) : decide (idxOf p m ≥ 0) = (List.range m).any p := by
  unfold idxOf
  cases h : (List.range m).find? p with
  | none =>
    rw [List.find?_eq_none] at h
    rw [show (List.range m).any p = false from by rw [List.any_eq_false]; exact h]
    rfl
  | some k =>
    have h1 := List.find?_some h
    rw [show (List.range m).any p = true from List.any_eq_true.2 ⟨k, List.mem_of_find?_eq_some h, h1⟩]
    exact decide_eq_true (by show (0 : Int) ≤ (k : Int); omega)
theorem idxOf_lt (p : Nat → Bool) (m : Nat) : decide (idxOf p m < 0) = !(List.range m).any p := by
  rw [← idxOf_ge]
  by_cases h : idxOf p m < 0
  · rw [decide_eq_true h, decide_eq_false (by omega)]; rfl
  · rw [decide_eq_false h, decide_eq_true (by omega)]; rfl
theorem find_range (p : Nat → Bool) : ∀ m, ((List.range m).find? p = none ∧ ∀ j, j < m → p j = false) ∨ ∃ k, (List.range m).find? p = some k ∧ k < m ∧ p k = true ∧ ∀ j, j < k → p j = false
  | 0 => .inl ⟨rfl, fun j hj => absurd hj (Nat.not_lt_zero _)⟩
  | m + 1 => by
    rcases find_range p m with ⟨h1, h2⟩ | ⟨k, h1, h2, h3, h4⟩
    · cases hp : p m with
      | true => exact .inr ⟨m, find_range_some (by omega) hp h2, by omega, hp, h2⟩
      | false =>
        have : ∀ j, j < m + 1 → p j = false := fun j hj => by
          by_cases e : j = m
          · rw [e]; exact hp
          · exact h2 j (by omega)
        exact .inl ⟨find_range_none this, this⟩
    · exact .inr ⟨k, find_range_some (by omega) h3 h4, by omega, h3, h4⟩
theorem idxOf_spec (p : Nat → Bool) (m : Nat) : (idxOf p m = -1 ∧ ∀ j, j < m → p j = false) ∨ ∃ k : Nat, idxOf p m = (k : Int) ∧ k < m ∧ p k = true ∧ ∀ j, j < k → p j = false := by
  unfold idxOf
  rcases find_range p m with ⟨h1, h2⟩ | ⟨k, h1, h2, h3, h4⟩
  · rw [h1]; exact .inl ⟨rfl, h2⟩
  · rw [h1]; exact .inr ⟨k, rfl, h2, h3, h4⟩
/-- A loop that looks at k = 0, 1, .. and leaves at the first that is so. -/
theorem loop_find {R : Type} {b : Int → (Int → Option R) → Option R} {len : Nat} {p : Nat → Bool} {yes : Nat → Option R} {no : Option R} (hlen : len ≤ 9223372036854775807)
    (hstep : ∀ (k : Nat) (J : Int → Option R), k < len → (∀ j, j < k → p j = false) → b (k : Int) J = bif p k then yes k else J ((k + 1 : Nat) : Int)) (hfin : ∀ J, (∀ j, j < len → p j = false) → b (len : Int) J = no) {n : Nat} (hn : len < n) :
    loopN b n (0 : Int) = match (List.range len).find? p with | some k => yes k | none => no := by
  refine loopN_ind (fun x => len - x.toNat) (fun x => ∃ k : Nat, k ≤ len ∧ x = (k : Int) ∧ ∀ j, j < k → p j = false) (fun x r => r = match (List.range len).find? p with | some k => yes k | none => no) ?_ n _ ⟨0, by omega, rfl, fun j hj => absurd hj (Nat.not_lt_zero _)⟩ (by simp; omega)
  rintro _ J ⟨k, hk, rfl, hb⟩ ih
  by_cases h : k < len
  · rw [hstep k J h hb]
    cases hp : p k with
    | false => exact ih _ ⟨k + 1, h, rfl, fun j hj => by
        by_cases e : j = k
        · rw [e]; exact hp
        · exact hb j (by omega)⟩ (by simp; omega)
    | true => rw [find_range_some h hp hb]; rfl
  · have : k = len := by omega
    subst this
    rw [hfin _ hb, find_range_none hb]
theorem loop_idx {b : Int → (Int → Option Int) → Option Int} {len : Nat} {p : Nat → Bool} (hlen : len ≤ 9223372036854775807)
    (hstep : ∀ (k : Nat) (J : Int → Option Int), k < len → (∀ j, j < k → p j = false) → b (k : Int) J = bif p k then some (k : Int) else J ((k + 1 : Nat) : Int)) (hfin : ∀ J, (∀ j, j < len → p j = false) → b (len : Int) J = some (-1)) {n : Nat} (hn : len < n) :
    loopN b n (0 : Int) = some (idxOf p len) := by
  rw [loop_find (yes := fun k => some (k : Int)) (no := some (-1)) hlen hstep hfin hn]
  unfold idxOf
  cases (List.range len).find? p <;> rfl
theorem byteAt_rng (s : ByteArray) (k : Nat) : 0 ≤ byteAt s k ∧ byteAt s k ≤ 255 := by
  unfold byteAt
  have := (s.data.getD k 0).toNat_lt
  omega
theorem range_any {α : Type} {l : List α} {d : α} {f : α → Bool} : (List.range l.length).any (fun k => f (l.getD k d)) = l.any f := by
  induction l with
  | nil => rfl
  | cons a l ih =>
    rw [List.length_cons, List.range_succ_eq_map, List.any_cons, List.any_map, List.any_cons, ← ih]
    rfl
theorem range_all {α : Type} {l : List α} {d : α} {f : α → Bool} : (List.range l.length).all (fun k => f (l.getD k d)) = l.all f := by
  induction l with
  | nil => rfl
  | cons a l ih =>
    rw [List.length_cons, List.range_succ_eq_map, List.all_cons, List.all_map, List.all_cons, ← ih]
    rfl
theorem all_congr_lt {p q : Nat → Bool} {m : Nat} (h : ∀ k, k < m → p k = q k) : (List.range m).all p = (List.range m).all q := by
  rw [Bool.eq_iff_iff, List.all_eq_true, List.all_eq_true]
  constructor
  · intro g x hx; rw [← h x (List.mem_range.1 hx)]; exact g x hx
  · intro g x hx; rw [h x (List.mem_range.1 hx)]; exact g x hx
theorem any_congr_lt {p q : Nat → Bool} {m : Nat} (h : ∀ k, k < m → p k = q k) : (List.range m).any p = (List.range m).any q := by
  rw [Bool.eq_iff_iff, List.any_eq_true, List.any_eq_true]
  constructor
  · rintro ⟨x, hx, g⟩; exact ⟨x, hx, by rw [← h x (List.mem_range.1 hx)]; exact g⟩
  · rintro ⟨x, hx, g⟩; exact ⟨x, hx, by rw [h x (List.mem_range.1 hx)]; exact g⟩
theorem guard_sz {w : Nat} {x : Option Bool} (h : w ≤ 1048576 → x = some true) : (bif decide ((if (w : Int) ≤ 1048576 then 1048576 - (w : Int) else -1) < 0) then some true else x) = some true := by
  by_cases c : (w : Int) ≤ 1048576
  · rw [if_pos c, decide_eq_false (by omega), cond_false]
    exact h (by omega)
  · rw [if_neg c]
    rfl
end Go.Sm
end

section
set_option linter.unusedSimpArgs false
set_option linter.deprecated false
set_option linter.unusedSectionVars false
set_option linter.unusedVariables false
set_option linter.unusedSimpArgs false
namespace Go.Sm
attribute [local irreducible] bd chk ix loopN
theorem in_spec (n : Nat) (x a b : Int) : spec_l1In n x a b = some (decide (a ≤ x ∧ x ≤ b)) := by
  unfold spec_l1In
  by_cases h0 : a ≤ x <;> by_cases h1 : x ≤ b <;> simp [h0, h1]
theorem in_impl (n : Nat) (x a b : Int) : impl_in n x a b = some (decide (a ≤ x ∧ x ≤ b)) := by
  unfold impl_in
  by_cases h0 : a ≤ x <;> by_cases h1 : x ≤ b <;> simp [h0, h1]
theorem all_iffR {p : Nat → Bool} {m : Nat} : (List.range m).all p = true ↔ ∀ k, k < m → p k = true := by
  rw [List.all_eq_true]
  exact ⟨fun h k hk => h k (List.mem_range.2 hk), fun h k hk => h k (List.mem_range.1 hk)⟩
theorem getD_takeR {α : Type} {l : List α} {d : α} {k m : Nat} (h : k < m) : (l.take m).getD k d = l.getD k d := by
  simp [List.getD, List.getElem?_take, h]
/-! ### Floors -/
def wayB (l : List Int) (k : Nat) : Bool := decide (0 ≤ l.getD k 0 ∧ l.getD k 0 ≤ 15)
def floorB (f : SFloor) : Bool := decide (1 ≤ f.Wide ∧ f.Wide ≤ 10) && (decide (1 ≤ f.High ∧ f.High ≤ 10) && (decide ((f.Ways.length : Int) = w64 (f.Wide * f.High)) && (List.range f.Ways.length).all (wayB f.Ways)))
structure FlOk (f : SFloor) : Prop where
  w : 1 ≤ f.Wide ∧ f.Wide ≤ 10
  h : 1 ≤ f.High ∧ f.High ≤ 10
  len : (f.Ways.length : Int) = f.Wide * f.High
  hi : f.Ways.length ≤ 100
theorem mul_le {a b : Int} (h1 : 1 ≤ a ∧ a ≤ 10) (h2 : 1 ≤ b ∧ b ≤ 10) : 1 ≤ a * b ∧ a * b ≤ 100 := by
  obtain ⟨x, rfl⟩ : ∃ x : Nat, a = (x : Int) := ⟨a.toNat, by omega⟩
  obtain ⟨y, rfl⟩ : ∃ y : Nat, b = (y : Int) := ⟨b.toNat, by omega⟩
  have p1 : x * y ≤ 10 * 10 := Nat.mul_le_mul (by omega) (by omega)
  have p2 : 1 * 1 ≤ x * y := Nat.mul_le_mul (by omega) (by omega)
  have e : ((x : Int) * (y : Int)) = ((x * y : Nat) : Int) := by simp
  omega
theorem flOk {f : SFloor} (h : floorB f = true) : FlOk f := by
  unfold floorB at h
  rw [Bool.and_eq_true, Bool.and_eq_true, Bool.and_eq_true] at h
  have h1 := of_decide_eq_true h.1
  have h2 := of_decide_eq_true h.2.1
  have h3 := of_decide_eq_true h.2.2.1
  obtain ⟨m1, m2⟩ := mul_le h1 h2
  rw [w64_id (by omega) (by omega)] at h3
  exact ⟨h1, h2, h3, by omega⟩
theorem floor_spec {n : Nat} (f : SFloor) (hl : f.Ways.length ≤ 1048576) (hn : 1000000000 < n) : spec_FloorOk n f = some (floorB f) := by
  have ha : spec_l3All n f.Ways 0 15 = some ((List.range f.Ways.length).all (wayB f.Ways)) := by
    unfold spec_l3All
    rw [loop_all (p := wayB f.Ways) (len := f.Ways.length) (no := some false) (yes := some true) (by omega) (fun k J h _ => ?_) (fun J _ => ?_) (by omega)]
    · rw [bif_tf]
    · unfold spec_l3All_L2 wayB
      simp only [Int.ofNat_lt, h, decide_true, cond_true, ix_nat h, in_spec, Option.bind_some, Int.toNat_natCast, w64_succ (show k < 9223372036854775807 by omega), bif_not]
    · unfold spec_l3All_L2
      simp only [Int.lt_irrefl, decide_false, cond_false]
  unfold spec_FloorOk floorB
  simp only [in_spec, Option.bind_some, bd_eq, ha]
  cases decide (1 ≤ f.Wide ∧ f.Wide ≤ 10) <;> cases decide (1 ≤ f.High ∧ f.High ≤ 10) <;> cases decide ((f.Ways.length : Int) = w64 (f.Wide * f.High)) <;> rfl
theorem floor_impl {n : Nat} (f : SFloor) (hl : f.Ways.length ≤ 1048576) (hn : 1000000000 < n) : impl_FloorOk n f = some (floorB f) := by
  have ha : impl_all n f.Ways 0 15 = some ((List.range f.Ways.length).all (wayB f.Ways)) := by
    unfold impl_all slices_ContainsFunc_int_int__impl_all_1 slices_IndexFunc_int_int__impl_all_1
    rw [loop_idx (p := fun k => !wayB f.Ways k) (len := f.Ways.length) (by omega) (fun k J h _ => ?_) (fun J _ => ?_) (by omega)]
    · rw [Option.bind_some, idxOf_ge, Option.bind_some, ← List.all_eq_not_any_not]
    · unfold slices_IndexFunc_int_int__impl_all_1_L2 impl_all_1 wayB
      simp only [Int.ofNat_lt, h, decide_true, cond_true, ix_nat h, Int.toNat_natCast, in_impl, Option.bind_some, w64_succ (show k < 9223372036854775807 by omega)]
    · unfold slices_IndexFunc_int_int__impl_all_1_L2
      simp only [Int.lt_irrefl, decide_false, cond_false]
  unfold impl_FloorOk floorB
  simp only [in_impl, Option.bind_some, bd_eq, ha]
  cases decide (1 ≤ f.Wide ∧ f.Wide ≤ 10) <;> cases decide (1 ≤ f.High ∧ f.High ≤ 10) <;> cases decide ((f.Ways.length : Int) = w64 (f.Wide * f.High)) <;> rfl
def placeB (f : SFloor) (p : Int) : Bool := decide (0 ≤ p ∧ p ≤ (f.Ways.length : Int) - 1)
theorem place_impl {n : Nat} {f : SFloor} (h : FlOk f) (p : Int) : impl_Floor_place n f p = some (placeB f p) := by
  have h1 := h.len
  have h2 := h.hi
  unfold impl_Floor_place placeB
  rw [bd_eq, in_impl, Option.bind_some, w64_id (x := f.Wide * f.High) (by omega) (by omega), ← h1, w64_id (by omega) (by omega)]
/-! ### Carts -/
abbrev ct (l : List SCart) (i : Nat) : SCart := l.getD i dSCart
def apart (l : List SCart) (i : Nat) : Bool := (List.range i).all fun k => !decide ((ct l k).At = (ct l i).At)
def cartB (f : SFloor) (l : List SCart) (i : Nat) : Bool := placeB f (ct l i).At && (decide (-1 ≤ (ct l i).Goal ∧ (ct l i).Goal ≤ (f.Ways.length : Int) - 1) && apart l i)
def cartsB (f : SFloor) (l : List SCart) : Bool := floorB f && (decide (l.length ≤ 12) && (List.range l.length).all (cartB f l))
theorem carts_impl {n : Nat} (f : SFloor) (l : List SCart) (hf : f.Ways.length ≤ 1048576) (hl : l.length ≤ 1048576) (hn : 1000000000 < n) : impl_CartsOk n f l = some (cartsB f l) := by
  unfold impl_CartsOk cartsB
  rw [floor_impl f hf hn, Option.bind_some]
  cases hfl : floorB f with
  | false => rfl
  | true =>
    have hO := flOk hfl
    by_cases h12 : l.length ≤ 12
    · rw [decide_eq_false (show ¬ (l.length : Int) > 12 by omega), decide_eq_true h12]
      simp only [Bool.not_true, cond_false, Bool.true_and]
      rw [loop_all (p := cartB f l) (len := l.length) (no := some false) (yes := some true) (by omega) (fun k J h _ => ?_) (fun J _ => ?_) (by omega)]
      · rw [bif_tf]
      · have ht : (l.take k).length = k := by rw [List.length_take]; omega
        have hc : slices_ContainsFunc_impl_Cart_impl_Cart__impl_CartsOk_1 n (l.take k) (ct l k) = some (!apart l k) := by
          unfold slices_ContainsFunc_impl_Cart_impl_Cart__impl_CartsOk_1 slices_IndexFunc_impl_Cart_impl_Cart__impl_CartsOk_1
          rw [loop_idx (p := fun j => decide (((l.take k).getD j dSCart).At = (ct l k).At)) (len := (l.take k).length) (by omega) (fun j J h _ => ?_) (fun J _ => ?_) (by omega)]
          · rw [Option.bind_some, idxOf_ge]
            unfold apart
            rw [List.not_all_eq_any_not, ht]
            congr 1
            exact any_congr_lt fun j hj => by rw [getD_takeR hj, Bool.not_not]
          · unfold slices_IndexFunc_impl_Cart_impl_Cart__impl_CartsOk_1_L2 impl_CartsOk_1
            simp only [Int.ofNat_lt, h, decide_true, cond_true, ix_nat h, bd_eq, Option.bind_some, Int.toNat_natCast, w64_succ (show j < 9223372036854775807 by omega)]
          · unfold slices_IndexFunc_impl_Cart_impl_Cart__impl_CartsOk_1_L2
            simp only [Int.lt_irrefl, decide_false, cond_false]
        unfold impl_CartsOk_L4 impl_CartsOk_k0 cartB
        simp only [Int.ofNat_lt, h, decide_true, cond_true, ix_nat h, bd_eq, Int.toNat_natCast, place_impl hO, Option.bind_some, w64_succ (show k < 9223372036854775807 by omega), chk_dec (show (0 : Int) ≤ (k : Int) by omega), chk_dec (show (k : Int) ≤ (l.length : Int) by omega), hc, bif_not]
        cases placeB f (ct l k).At with
        | false => rfl
        | true =>
          by_cases hg : (ct l k).Goal = -1
          · rw [decide_eq_true hg, decide_eq_true (by have := hO.hi; have := hO.len; have := mul_le hO.w hO.h; omega)]
            rfl
          · have e : placeB f (ct l k).Goal = decide (-1 ≤ (ct l k).Goal ∧ (ct l k).Goal ≤ (f.Ways.length : Int) - 1) := by
              unfold placeB
              simp only [decide_eq_decide]
              omega
            rw [decide_eq_false hg, e]
            cases decide (-1 ≤ (ct l k).Goal ∧ (ct l k).Goal ≤ (f.Ways.length : Int) - 1) <;> rfl
      · unfold impl_CartsOk_L4
        simp only [Int.lt_irrefl, decide_false, cond_false]
    · rw [decide_eq_true (show (l.length : Int) > 12 by omega), decide_eq_false h12]
      rfl
/-! ### The next place -/
def dxI (bit : Nat) : Int := if bit = 0 then 1 else if bit = 2 then -1 else 0
def dyI (bit : Nat) : Int := if bit = 1 then 1 else if bit = 3 then -1 else 0
def openB (f : SFloor) (p bit : Nat) : Bool := !decide (w64 (((BitVec.ofInt 64 (Int.fdiv (f.Ways.getD p 0) (2 ^ (min bit 64))) &&& BitVec.ofInt 64 (1 : Int)).toNat : Nat) : Int) = 0)
def nxX (f : SFloor) (p bit : Nat) : Int := Int.tmod (p : Int) f.Wide + dxI bit
def nxY (f : SFloor) (p bit : Nat) : Int := Int.tdiv (p : Int) f.Wide + dyI bit
def nextB (f : SFloor) (p bit : Nat) : Int := bif openB f p bit && (decide (0 ≤ nxX f p bit ∧ nxX f p bit ≤ f.Wide - 1) && decide (0 ≤ nxY f p bit ∧ nxY f p bit ≤ f.High - 1)) then nxY f p bit * f.Wide + nxX f p bit else -1
theorem bit_one (v : Int) : w64 (((BitVec.ofInt 64 v &&& BitVec.ofInt 64 (1 : Int)).toNat : Nat) : Int) = 0 ∨ w64 (((BitVec.ofInt 64 v &&& BitVec.ofInt 64 (1 : Int)).toNat : Nat) : Int) = 1 := by
  have h : (BitVec.ofInt 64 v &&& BitVec.ofInt 64 (1 : Int)).toNat = (BitVec.ofInt 64 v).toNat % 2 := by
    rw [BitVec.toNat_and]
    exact Nat.and_one_is_mod _
  rw [h]
  have : (BitVec.ofInt 64 v).toNat % 2 = 0 ∨ (BitVec.ofInt 64 v).toNat % 2 = 1 := by omega
  rcases this with e | e
  · rw [e]; exact .inl (w64_id (by omega) (by omega))
  · rw [e]; exact .inr (w64_id (by omega) (by omega))
theorem open_one (f : SFloor) (p bit : Nat) : decide (w64 (((BitVec.ofInt 64 (Int.fdiv (f.Ways.getD p 0) (2 ^ (min bit 64))) &&& BitVec.ofInt 64 (1 : Int)).toNat : Nat) : Int) = 1) = openB f p bit := by
  unfold openB
  rcases bit_one (Int.fdiv (f.Ways.getD p 0) (2 ^ (min bit 64))) with e | e
  · rw [e]; rfl
  · rw [e]; rfl
theorem xy_rng {f : SFloor} (hO : FlOk f) {p : Nat} (hp : p < f.Ways.length) : 0 ≤ Int.tmod (p : Int) f.Wide ∧ Int.tmod (p : Int) f.Wide < f.Wide ∧ 0 ≤ Int.tdiv (p : Int) f.Wide ∧ Int.tdiv (p : Int) f.Wide ≤ 100 := by
  have h1 := hO.w
  have h2 := hO.hi
  refine ⟨Int.tmod_nonneg _ (by omega), Int.tmod_lt_of_pos _ (by omega), Int.tdiv_nonneg (by omega) (by omega), ?_⟩
  have := Int.tdiv_le_self (a := (p : Int)) f.Wide (by omega)
  omega
theorem next_rng {f : SFloor} (hO : FlOk f) (p bit : Nat) : nextB f p bit = -1 ∨ 0 ≤ nextB f p bit ∧ nextB f p bit < (f.Ways.length : Int) := by
  unfold nextB
  cases openB f p bit with
  | false => exact .inl rfl
  | true =>
    by_cases h1 : 0 ≤ nxX f p bit ∧ nxX f p bit ≤ f.Wide - 1
    · by_cases h2 : 0 ≤ nxY f p bit ∧ nxY f p bit ≤ f.High - 1
      · rw [decide_eq_true h1, decide_eq_true h2]
        right
        show 0 ≤ nxY f p bit * f.Wide + nxX f p bit ∧ _
        rw [hO.len]
        have w1 := hO.w
        have q1 : 0 ≤ nxY f p bit * f.Wide := Int.mul_nonneg h2.1 (by omega)
        have q2 : nxY f p bit * f.Wide ≤ (f.High - 1) * f.Wide := Int.mul_le_mul_of_nonneg_right h2.2 (by omega)
        have q3 : (f.High - 1) * f.Wide = f.Wide * f.High - f.Wide := by rw [Int.sub_mul, Int.one_mul, Int.mul_comm]
        show 0 ≤ nxY f p bit * f.Wide + nxX f p bit ∧ nxY f p bit * f.Wide + nxX f p bit < f.Wide * f.High
        omega
      · rw [decide_eq_false h2, Bool.and_false, Bool.and_false]; exact .inl rfl
    · rw [decide_eq_false h1, Bool.false_and, Bool.and_false]; exact .inl rfl
theorem next_k0 {n : Nat} {f : SFloor} (hO : FlOk f) (x y : Int) (hx : -100 ≤ x ∧ x ≤ 200) (hy : -100 ≤ y ∧ y ≤ 200) :
    spec_l19Next_k0 n x y f = some (bif decide (0 ≤ x ∧ x ≤ f.Wide - 1) && decide (0 ≤ y ∧ y ≤ f.High - 1) then y * f.Wide + x else -1) := by
  have w1 := hO.w
  have h1 := hO.h
  unfold spec_l19Next_k0
  simp only [bd_eq, in_spec, Option.bind_some, w64_id (show -9223372036854775808 ≤ f.Wide - 1 by omega) (show f.Wide - 1 ≤ 9223372036854775807 by omega), w64_id (show -9223372036854775808 ≤ f.High - 1 by omega) (show f.High - 1 ≤ 9223372036854775807 by omega)]
  by_cases c1 : 0 ≤ x ∧ x ≤ f.Wide - 1
  · by_cases c2 : 0 ≤ y ∧ y ≤ f.High - 1
    · rw [decide_eq_true c1, decide_eq_true c2]
      have q1 : 0 ≤ y * f.Wide := Int.mul_nonneg c2.1 (by omega)
      have q2 : y * f.Wide ≤ 10 * f.Wide := Int.mul_le_mul_of_nonneg_right (by omega) (by omega)
      rw [w64_id (x := y * f.Wide) (by omega) (by omega), w64_id (by omega) (by omega)]
      rfl
    · rw [decide_eq_true c1, decide_eq_false c2]; rfl
  · rw [decide_eq_false c1]; rfl
theorem next_spec {n : Nat} {f : SFloor} (hO : FlOk f) {p bit : Nat} (hp : p < f.Ways.length) (hb : bit < 4) : spec_l19Next n f (p : Int) (bit : Int) = some (nextB f p bit) := by
  obtain ⟨x1, x2, y1, y2⟩ := xy_rng hO hp
  have w1 := hO.w
  have e0 : decide (f.Wide = 0) = false := decide_eq_false (by omega)
  have ey : w64 (Int.tdiv (p : Int) f.Wide) = Int.tdiv (p : Int) f.Wide := w64_id (by omega) (by omega)
  unfold spec_l19Next nextB openB
  simp only [ix_nat hp, chk_dec (show (0 : Int) ≤ (bit : Int) by omega), bd_eq, Int.toNat_natCast]
  cases hc : decide (w64 (((BitVec.ofInt 64 (Int.fdiv (f.Ways.getD p 0) (2 ^ (min bit 64))) &&& BitVec.ofInt 64 (1 : Int)).toNat : Nat) : Int) = 0) with
  | true => rfl
  | false =>
    simp only [cond_false, Bool.not_false, Bool.true_and]
    unfold spec_l19Next_k1 nxX nxY
    simp only [e0, cond_false, bd_eq, ey]
    have hbit : bit = 0 ∨ bit = 1 ∨ bit = 2 ∨ bit = 3 := by omega
    rcases hbit with rfl | rfl | rfl | rfl
    · rw [decide_eq_true (show ((0 : Nat) : Int) = 0 from rfl), cond_true, w64_id (by omega) (by omega), next_k0 hO _ _ (by omega) (by omega)]
      simp [dxI, dyI]
    · rw [decide_eq_false (show ¬ ((1 : Nat) : Int) = 0 by omega), decide_eq_true (show ((1 : Nat) : Int) = 1 from rfl), cond_true, cond_false, w64_id (by omega) (by omega), next_k0 hO _ _ (by omega) (by omega)]
      simp [dxI, dyI]
    · rw [decide_eq_false (show ¬ ((2 : Nat) : Int) = 0 by omega), decide_eq_false (show ¬ ((2 : Nat) : Int) = 1 by omega), decide_eq_true (show ((2 : Nat) : Int) = 2 from rfl), cond_true, cond_false, cond_false, w64_id (by omega) (by omega), next_k0 hO _ _ (by omega) (by omega)]
      simp [dxI, dyI, Int.sub_eq_add_neg]
    · rw [decide_eq_false (show ¬ ((3 : Nat) : Int) = 0 by omega), decide_eq_false (show ¬ ((3 : Nat) : Int) = 1 by omega), decide_eq_false (show ¬ ((3 : Nat) : Int) = 2 by omega), cond_false, cond_false, cond_false, w64_id (by omega) (by omega), next_k0 hO _ _ (by omega) (by omega)]
      simp [dxI, dyI, Int.sub_eq_add_neg]
/-- Where one may go from a place, by bit. -/
def leadK (f : SFloor) (p k : Nat) : List Int := ((List.range k).map (nextB f p)).filter fun q => decide (0 ≤ q)
theorem leadK_succ (f : SFloor) (p k : Nat) : leadK f p (k + 1) = bif decide (0 ≤ nextB f p k) then leadK f p k ++ [nextB f p k] else leadK f p k := by
  unfold leadK
  rw [List.range_succ, List.map_append, List.filter_append]
  by_cases c : 0 ≤ nextB f p k
  · rw [decide_eq_true c]; simp [c]
  · rw [decide_eq_false c]; simp [c]
theorem leadK_len (f : SFloor) (p k : Nat) : (leadK f p k).length ≤ k := by
  have := List.length_filter_le (fun q : Int => decide (0 ≤ q)) ((List.range k).map (nextB f p))
  rw [List.length_map, List.length_range] at this
  exact this
def dirs : List SArr2_Int := [(⟨(1 : Int), (0 : Int)⟩ : SArr2_Int), (⟨(0 : Int), (1 : Int)⟩ : SArr2_Int), (⟨(-1 : Int), (0 : Int)⟩ : SArr2_Int), (⟨(0 : Int), (-1 : Int)⟩ : SArr2_Int)]
theorem dirs_get {k : Nat} (hk : k < 4) : dirs.getD k dSArr2_Int = ⟨dxI k, dyI k⟩ := by
  have : k = 0 ∨ k = 1 ∨ k = 2 ∨ k = 3 := by omega
  rcases this with rfl | rfl | rfl | rfl <;> rfl
theorem leads_impl {n : Nat} {f : SFloor} (hO : FlOk f) {p : Nat} (hp : p < f.Ways.length) (hn : 1000000000 < n) : impl_Floor_leads n f (p : Int) = some (leadK f p 4) := by
  obtain ⟨x1, x2, y1, y2⟩ := xy_rng hO hp
  have w1 := hO.w
  have h1 := hO.h
  unfold impl_Floor_leads
  rw [decide_eq_false (show ¬ f.Wide = 0 by omega), cond_false, cond_false, bd_eq, w64_id (by omega) (by omega)]
  refine loop_runS (S := List Int) (X := Int × List Int) (enc := fun k s => (k, s)) (len := 4) (I := fun k s => s = leadK f p k) (Q := fun r => r = some (leadK f p 4)) (fun k s J hk hi => ?_) (fun s J hi => ?_) (by omega) (s0 := []) rfl
  · refine ⟨_, rfl, ?_⟩
    have hl := leadK_len f p k
    have hd : dirs.length = 4 := rfl
    show impl_Floor_leads_L4 n _ _ (p : Int) (Int.tmod (p : Int) f.Wide) (Int.tdiv (p : Int) f.Wide) 4 (k : Int) f s dirs = _
    unfold impl_Floor_leads_L4 impl_Floor_leads_k0
    have dx : dxI k = 1 ∨ dxI k = 0 ∨ dxI k = -1 := by unfold dxI; split; exact .inl rfl; split; exact .inr (.inr rfl); exact .inr (.inl rfl)
    have dy : dyI k = 1 ∨ dyI k = 0 ∨ dyI k = -1 := by unfold dyI; split; exact .inl rfl; split; exact .inr (.inr rfl); exact .inr (.inl rfl)
    have ex : w64 (Int.tmod (p : Int) f.Wide + dxI k) = nxX f p k := w64_id (by omega) (by omega)
    have ey : w64 (Int.tdiv (p : Int) f.Wide + dyI k) = nxY f p k := w64_id (by omega) (by omega)
    have hxx : nxX f p k = Int.tmod (p : Int) f.Wide + dxI k := rfl
    have hyy : nxY f p k = Int.tdiv (p : Int) f.Wide + dyI k := rfl
    simp only [decide_eq_true (show (k : Int) < 4 by omega), cond_true, ix_nat (show k < dirs.length by omega), chk_dec (show k < dirs.length by omega), Int.toNat_natCast, bd_eq, dirs_get hk, ix_nat hp, chk_dec (show (0 : Int) ≤ (k : Int) by omega), open_one, in_impl, Option.bind_some, ex, ey,
      w64_id (show -9223372036854775808 ≤ f.Wide - 1 by omega) (show f.Wide - 1 ≤ 9223372036854775807 by omega), w64_id (show -9223372036854775808 ≤ f.High - 1 by omega) (show f.High - 1 ≤ 9223372036854775807 by omega), w64_succ (show k < 9223372036854775807 by omega)]
    rw [leadK_succ, ← hi]
    have hnb : nextB f p k = bif openB f p k && (decide (0 ≤ nxX f p k ∧ nxX f p k ≤ f.Wide - 1) && decide (0 ≤ nxY f p k ∧ nxY f p k ≤ f.High - 1)) then nxY f p k * f.Wide + nxX f p k else -1 := rfl
    cases ho : openB f p k with
    | false => rw [ho] at hnb; rw [hnb]; rfl
    | true =>
      by_cases c1 : 0 ≤ nxX f p k ∧ nxX f p k ≤ f.Wide - 1
      · by_cases c2 : 0 ≤ nxY f p k ∧ nxY f p k ≤ f.High - 1
        · have q1 : 0 ≤ nxY f p k * f.Wide := Int.mul_nonneg c2.1 (by omega)
          have q2 : nxY f p k * f.Wide ≤ 10 * f.Wide := Int.mul_le_mul_of_nonneg_right (by omega) (by omega)
          rw [ho, decide_eq_true c1, decide_eq_true c2] at hnb
          have hnb : nextB f p k = nxY f p k * f.Wide + nxX f p k := hnb
          rw [decide_eq_true c1, decide_eq_true c2, cond_true, cond_true, cond_true, w64_id (x := nxY f p k * f.Wide) (by omega) (by omega), w64_id (x := nxY f p k * f.Wide + nxX f p k) (by omega) (by omega), ← hnb, decide_eq_true (show 0 ≤ nextB f p k by omega), cond_true, chk_dec (by rw [List.length_append, List.length_singleton, hi]; omega)]
        · rw [ho, decide_eq_false c2, Bool.and_false, Bool.and_false] at hnb
          rw [decide_eq_true c1, decide_eq_false c2, hnb]; rfl
      · rw [ho, decide_eq_false c1, Bool.false_and, Bool.and_false] at hnb
        rw [decide_eq_false c1, hnb]; rfl
  · show impl_Floor_leads_L4 n _ _ (p : Int) (Int.tmod (p : Int) f.Wide) (Int.tdiv (p : Int) f.Wide) 4 4 f s dirs = _
    unfold impl_Floor_leads_L4
    simp only [Int.lt_irrefl, decide_false, cond_false]
    rw [hi]
end Go.Sm
end

section
set_option linter.unusedSimpArgs false
set_option linter.deprecated false
set_option linter.unusedSectionVars false
set_option linter.unusedVariables false
set_option linter.unusedSimpArgs false
namespace Go.Sm
attribute [local irreducible] bd chk ix loopN
theorem loopN_step {X R : Type} {b : X → (X → Option R) → Option R} {n : Nat} (hn : 0 < n) (x : X) : loopN b n x = b x (loopN b (n - 1)) := by
  obtain ⟨m, rfl⟩ : ∃ m, n = m + 1 := ⟨n - 1, by omega⟩
  rw [loopN_succ]
  rfl
abbrev g0 (c : List Int) (p : Nat) : Int := c.getD p 0
def hitP (f : SFloor) (d : Int) (c : List Int) (p j : Nat) : Bool := decide (0 ≤ nextB f p j) && decide (g0 c (nextB f p j).toNat = d)
def chgP (f : SFloor) (d : Int) (c : List Int) (p : Nat) : Bool := decide (g0 c p < 0) && (List.range 4).any (hitP f d c p)
def stepP (f : SFloor) (d : Int) (c : List Int) (p : Nat) : List Int := bif chgP f d c p then c.set p (d + 1) else c
def runP (f : SFloor) (d : Int) : Nat → List Int → Bool × List Int
  | 0, c => (false, c)
  | k + 1, c => ((runP f d k c).1 || chgP f d (runP f d k c).2 k, stepP f d (runP f d k c).2 k)
def lvK (f : SFloor) (c0 : List Int) : Nat → List Int
  | 0 => c0
  | k + 1 => (runP f (k : Int) f.Ways.length (lvK f c0 k)).2
theorem set_get {c : List Int} {p : Nat} {v : Int} {q : Nat} : g0 (c.set p v) q = if p = q ∧ q < c.length then v else g0 c q := by
  unfold g0
  by_cases h : p = q
  · subst h
    by_cases h2 : p < c.length
    · rw [if_pos ⟨rfl, h2⟩]
      simp [List.getD, h2]
    · rw [if_neg (fun x => h2 x.2)]
      simp [List.getD, h2]
  · rw [if_neg (fun x => h x.1)]
    simp [List.getD, List.getElem?_set, h]
theorem stepP_len (f : SFloor) (d : Int) (c : List Int) (p : Nat) : (stepP f d c p).length = c.length := by
  unfold stepP
  cases chgP f d c p <;> simp
theorem runP_len (f : SFloor) (d : Int) (c : List Int) : ∀ k, (runP f d k c).2.length = c.length
  | 0 => rfl
  | k + 1 => by
    show (stepP f d (runP f d k c).2 k).length = _
    rw [stepP_len, runP_len f d c k]
theorem lvK_len (f : SFloor) (c0 : List Int) : ∀ k, (lvK f c0 k).length = c0.length
  | 0 => rfl
  | k + 1 => by
    show (runP f (k : Int) f.Ways.length (lvK f c0 k)).2.length = _
    rw [runP_len, lvK_len f c0 k]
theorem runP_same (f : SFloor) (d : Int) (c : List Int) : ∀ k, (runP f d k c).1 = false → (runP f d k c).2 = c
  | 0, _ => rfl
  | k + 1, h => by
    have h : ((runP f d k c).1 || chgP f d (runP f d k c).2 k) = false := h
    rw [Bool.or_eq_false_iff] at h
    show stepP f d (runP f d k c).2 k = c
    unfold stepP
    rw [h.2]
    exact runP_same f d c k h.1
/-- Entries not above d. -/
def under (c : List Int) (d : Int) : Prop := ∀ p, g0 c p ≤ d
theorem stepP_under {f : SFloor} {d : Int} {c : List Int} {p : Nat} (h : under c (d + 1)) : under (stepP f d c p) (d + 1) := by
  intro q
  unfold stepP
  cases chgP f d c p with
  | false => exact h q
  | true =>
    rw [cond_true, set_get]
    split
    · exact Int.le_refl _
    · exact h q
theorem runP_under {f : SFloor} {d : Int} {c : List Int} (h : under c (d + 1)) : ∀ k, under (runP f d k c).2 (d + 1)
  | 0 => h
  | k + 1 => stepP_under (runP_under h k)
theorem lvK_under {f : SFloor} {c0 : List Int} (h : under c0 0) : ∀ k : Nat, under (lvK f c0 k) (k : Int)
  | 0 => h
  | k + 1 => by
    have ih := lvK_under (f := f) h k
    have : under (lvK f c0 k) ((k : Int) + 1) := fun p => by have := ih p; omega
    have h2 := runP_under (f := f) this f.Ways.length
    intro p
    have := h2 p
    show g0 (runP f (k : Int) f.Ways.length (lvK f c0 k)).2 p ≤ _
    omega
theorem chgP_none {f : SFloor} {d e : Int} {c : List Int} (h : under c e) (he : e < d) (p : Nat) : chgP f d c p = false := by
  unfold chgP
  rw [show (List.range 4).any (hitP f d c p) = false from by
    rw [List.any_eq_false]
    intro j _
    unfold hitP
    have := h (nextB f p j).toNat
    rw [decide_eq_false (show ¬ g0 c (nextB f p j).toNat = d by omega), Bool.and_false]
    simp, Bool.and_false]
theorem runP_none {f : SFloor} {d e : Int} {c : List Int} (h : under c e) (he : e < d) : ∀ k, runP f d k c = (false, c)
  | 0 => rfl
  | k + 1 => by
    have ih := runP_none (f := f) h he k
    show ((runP f d k c).1 || chgP f d (runP f d k c).2 k, stepP f d (runP f d k c).2 k) = _
    rw [ih]
    unfold stepP
    rw [chgP_none h he k]
    rfl
theorem lvK_stop {f : SFloor} {c0 : List Int} (h : under c0 0) {k : Nat} (hs : (runP f (k : Int) f.Ways.length (lvK f c0 k)).1 = false) : ∀ j, lvK f c0 (k + j) = lvK f c0 k
  | 0 => rfl
  | 1 => runP_same f (k : Int) (lvK f c0 k) f.Ways.length hs
  | j + 2 => by
    have ih := lvK_stop h hs (j + 1)
    have hu := lvK_under (f := f) h k
    show (runP f ((k + (j + 1) : Nat) : Int) f.Ways.length (lvK f c0 (k + (j + 1)))).2 = _
    rw [ih, runP_none hu (by omega)]
/-- How many places are not reached. -/
def neg (c : List Int) : Nat := (c.filter fun x => decide (x < 0)).length
theorem neg_set : ∀ (c : List Int) (p : Nat) (v : Int), p < c.length → g0 c p < 0 → 0 ≤ v → neg (c.set p v) + 1 = neg c
  | [], _, _, h, _, _ => absurd h (Nat.not_lt_zero _)
  | x :: c, 0, v, _, hx, hv => by
    have hx : x < 0 := hx
    unfold neg
    rw [List.set_cons_zero, List.filter_cons_of_neg (by simpa using hv), List.filter_cons_of_pos (by simpa using hx)]
    rfl
  | x :: c, p + 1, v, h, hx, hv => by
    have ih := neg_set c p v (Nat.lt_of_succ_lt_succ h) hx hv
    unfold neg at ih ⊢
    rw [List.set_cons_succ]
    by_cases c1 : x < 0
    · rw [List.filter_cons_of_pos (by simpa using c1), List.filter_cons_of_pos (by simpa using c1), List.length_cons, List.length_cons]
      omega
    · rw [List.filter_cons_of_neg (by simpa using c1), List.filter_cons_of_neg (by simpa using c1)]
      exact ih
theorem neg_runP {f : SFloor} {d : Int} {c : List Int} (hd : 0 ≤ d) : ∀ k, k ≤ c.length → neg (runP f d k c).2 ≤ neg c ∧ ((runP f d k c).1 = true → neg (runP f d k c).2 < neg c)
  | 0, _ => ⟨Nat.le_refl _, fun h => by cases h⟩
  | k + 1, hk => by
    obtain ⟨i1, i2⟩ := neg_runP (f := f) (d := d) (c := c) hd k (by omega)
    have hl := runP_len f d c k
    show neg (stepP f d (runP f d k c).2 k) ≤ neg c ∧ (((runP f d k c).1 || chgP f d (runP f d k c).2 k) = true → neg (stepP f d (runP f d k c).2 k) < neg c)
    unfold stepP
    cases hc : chgP f d (runP f d k c).2 k with
    | false => rw [cond_false, Bool.or_false]; exact ⟨i1, i2⟩
    | true =>
      have h0 : g0 (runP f d k c).2 k < 0 := by
        unfold chgP at hc
        rw [Bool.and_eq_true] at hc
        exact of_decide_eq_true hc.1
      have h1 := neg_set (runP f d k c).2 k (d + 1) (by omega) h0 (by omega)
      rw [cond_true]
      exact ⟨by omega, fun _ => by omega⟩
theorem keep_step {f : SFloor} {d : Int} {c : List Int} {p q : Nat} (h : 0 ≤ g0 c q) : g0 (stepP f d c p) q = g0 c q := by
  unfold stepP
  cases hc : chgP f d c p with
  | false => rfl
  | true =>
    rw [cond_true, set_get]
    split
    · rename_i h2
      unfold chgP at hc
      rw [Bool.and_eq_true] at hc
      have := of_decide_eq_true hc.1
      rw [h2.1] at this
      omega
    · rfl
theorem keep_run {f : SFloor} {d : Int} {c : List Int} {q : Nat} (h : 0 ≤ g0 c q) : ∀ k, g0 (runP f d k c).2 q = g0 c q
  | 0 => rfl
  | k + 1 => by
    show g0 (stepP f d (runP f d k c).2 k) q = _
    rw [keep_step (by rw [keep_run h k]; exact h), keep_run h k]
theorem keep_lvK {f : SFloor} {c0 : List Int} {q : Nat} (h : 0 ≤ g0 c0 q) : ∀ k, g0 (lvK f c0 k) q = g0 c0 q
  | 0 => rfl
  | k + 1 => by
    show g0 (runP f (k : Int) f.Ways.length (lvK f c0 k)).2 q = _
    rw [keep_run (by rw [keep_lvK h k]; exact h), keep_lvK h k]
/-! ### One level -/
theorem spec_bits {R : Type} {n : Nat} (kx6 : List Int → Option R) {f : SFloor} (hO : FlOk f) {d p : Nat} {c : List Int} (hp : p < f.Ways.length) (hc : c.length = f.Ways.length) (hd : d ≤ 1000) (hn : 1000000000 < n) :
    loopN (fun (x : Int × List Int) J' => spec_Hops_L16 n kx6 (fun bit64 out65 => J' (bit64, out65)) (d : Int) (p : Int) x.1 f x.2) n ((0 : Int), c) = kx6 (stepP f (d : Int) c p) := by
  have done : ∀ fu (bit : Nat) (c' : List Int), c'.length = f.Ways.length → 0 < fu → (bit < 4 → ¬ g0 c' p < 0) → loopN (fun (x : Int × List Int) J' => spec_Hops_L16 n kx6 (fun bit64 out65 => J' (bit64, out65)) (d : Int) (p : Int) x.1 f x.2) fu ((bit : Int), c') = kx6 c' := by
    intro fu bit c' hc' hfu hg
    refine (loopN_step hfu _).trans ?_
    show spec_Hops_L16 n kx6 _ (d : Int) (p : Int) (bit : Int) f c' = _
    unfold spec_Hops_L16
    by_cases hb : bit < 4
    · rw [decide_eq_true (show (bit : Int) < 4 by omega), cond_true, ix_nat (by omega), Int.toNat_natCast, chk_dec (by omega), decide_eq_false (hg hb), cond_false]
    · rw [decide_eq_false (show ¬ (bit : Int) < 4 by omega), cond_false]
  by_cases hneg : g0 c p < 0
  · have hstep : ∀ (J : Int → List Int → Option R) (k : Nat), k < 4 → spec_Hops_L16 n kx6 J (d : Int) (p : Int) (k : Int) f c = bif hitP f (d : Int) c p k then J ((k + 1 : Nat) : Int) (c.set p ((d + 1 : Nat) : Int)) else J ((k + 1 : Nat) : Int) c := by
      intro J k hk4
      unfold spec_Hops_L16 spec_Hops_k1 hitP
      have hw : w64 ((k : Int) + 1) = ((k + 1 : Nat) : Int) := w64_succ (by omega)
      rw [decide_eq_true (show (k : Int) < 4 by omega), cond_true, ix_nat (by omega), Int.toNat_natCast, chk_dec (by omega), decide_eq_true hneg, cond_true, next_spec hO hp hk4, Option.bind_some, hw, bd_eq]
      rcases next_rng hO p k with hnx | ⟨h1, h2⟩
      · rw [decide_eq_false (show ¬ nextB f p k ≥ 0 by omega), cond_false, Bool.false_and, cond_false]
      · rw [decide_eq_true (show nextB f p k ≥ 0 by omega), cond_true, ix_of h1 (by omega), chk_dec (by omega), Bool.true_and]
        unfold spec_Hops_k0
        cases decide (c.getD (nextB f p k).toNat 0 = (d : Int)) with
        | true => rw [cond_true, ix_nat (by omega), chk_dec (by rw [Int.toNat_natCast]; omega), bd_eq, bd_eq, Int.toNat_natCast, hw, w64_succ (show d < 9223372036854775807 by omega)]; rfl
        | false => rw [cond_false, bd_eq, hw]; rfl
    have key : ∀ m k fu, k + m = 4 → m + 1 < fu → (∀ j, j < k → hitP f (d : Int) c p j = false) → loopN (fun (x : Int × List Int) J' => spec_Hops_L16 n kx6 (fun bit64 out65 => J' (bit64, out65)) (d : Int) (p : Int) x.1 f x.2) fu ((k : Int), c) = kx6 (stepP f (d : Int) c p) := by
      intro m
      induction m with
      | zero =>
        intro k fu hk hfu hh
        have hk : k = 4 := by omega
        rw [done fu k c hc (by omega) (by omega)]
        unfold stepP chgP
        rw [show (List.range 4).any (hitP f (d : Int) c p) = false from by
          rw [List.any_eq_false]
          intro j hj
          rw [hh j (by rw [hk]; exact List.mem_range.1 hj)]
          simp, Bool.and_false, cond_false]
      | succ m ih =>
        intro k fu hk hfu hh
        have hk4 : k < 4 := by omega
        refine (loopN_step (by omega) _).trans ((hstep _ k hk4).trans ?_)
        cases hhk : hitP f (d : Int) c p k with
        | true =>
          have hst : stepP f (d : Int) c p = c.set p ((d + 1 : Nat) : Int) := by
            unfold stepP chgP
            rw [decide_eq_true hneg, show (List.range 4).any (hitP f (d : Int) c p) = true from List.any_eq_true.2 ⟨k, List.mem_range.2 hk4, hhk⟩]
            rfl
          rw [hst]
          refine done (fu - 1) (k + 1) (c.set p ((d + 1 : Nat) : Int)) (by rw [List.length_set]; exact hc) (by omega) fun _ => ?_
          rw [set_get, if_pos ⟨rfl, by omega⟩]
          omega
        | false =>
          refine ih (k + 1) (fu - 1) (by omega) (by omega) fun j hj => ?_
          by_cases e : j = k
          · rw [e]; exact hhk
          · exact hh j (by omega)
    exact key 4 0 n (by omega) (by omega) fun j hj => absurd hj (Nat.not_lt_zero _)
  · have h := done n 0 c hc (by omega) fun _ => hneg
    refine h.trans ?_
    unfold stepP chgP
    rw [decide_eq_false hneg, Bool.false_and, cond_false]
theorem spec_level {R : Type} {n : Nat} (kx4 : List Int → Option R) {f : SFloor} (hO : FlOk f) {d : Nat} {c : List Int} (hc : c.length = f.Ways.length) (hd : d ≤ 1000) (hn : 1000000000 < n) :
    loopN (fun (x : Int × List Int) J' => spec_Hops_L13 n kx4 (fun p70 out71 => J' (p70, out71)) (d : Int) x.1 f x.2) n ((0 : Int), c) = kx4 (runP f (d : Int) f.Ways.length c).2 := by
  have hhi := hO.hi
  refine loop_runS (S := List Int) (X := Int × List Int) (enc := fun k s => (k, s)) (len := f.Ways.length) (I := fun k s => s = (runP f (d : Int) k c).2) (Q := fun r => r = kx4 (runP f (d : Int) f.Ways.length c).2) (fun k s J hk hi => ?_) (fun s J hi => ?_) (by omega) (s0 := c) rfl
  · refine ⟨_, rfl, ?_⟩
    have hl : s.length = f.Ways.length := by rw [hi, runP_len, hc]
    show spec_Hops_L13 n _ _ (d : Int) (k : Int) f s = _
    unfold spec_Hops_L13
    rw [decide_eq_true (show (k : Int) < (s.length : Int) by omega), cond_true, spec_bits _ hO hk hl hd hn, w64_succ (show k < 9223372036854775807 by omega), hi]
    rfl
  · have hl : s.length = f.Ways.length := by rw [hi, runP_len, hc]
    show spec_Hops_L13 n _ _ (d : Int) (f.Ways.length : Int) f s = _
    unfold spec_Hops_L13
    rw [decide_eq_false (by omega), cond_false, hi]
theorem any_lead (f : SFloor) (d : Int) (c : List Int) (p : Nat) : ∀ k, ((leadK f p k).any fun q => decide (g0 c q.toNat = d)) = (List.range k).any (hitP f d c p)
  | 0 => rfl
  | k + 1 => by
    rw [leadK_succ, any_range_succ, ← any_lead f d c p k]
    unfold hitP
    by_cases h : 0 ≤ nextB f p k
    · rw [decide_eq_true h, cond_true, List.any_append]
      simp
    · rw [decide_eq_false h, cond_false, Bool.false_and, Bool.or_false]
theorem lead_rng {f : SFloor} (hO : FlOk f) {p j k : Nat} (hj : j < (leadK f p k).length) : 0 ≤ (leadK f p k).getD j 0 ∧ (leadK f p k).getD j 0 < (f.Ways.length : Int) := by
  have hm := getD_mem (d := 0) hj
  unfold leadK at hm ⊢
  obtain ⟨h1, h2⟩ := List.mem_filter.1 hm
  obtain ⟨b, _, h3⟩ := List.mem_map.1 h1
  have h2 := of_decide_eq_true h2
  rcases next_rng hO p b with e | e
  · rw [← h3] at h2; omega
  · rw [← h3]; exact e
theorem hits_impl {n : Nat} {f : SFloor} (hO : FlOk f) {d : Int} {p : Nat} {c : List Int} (hc : c.length = f.Ways.length) (hn : 1000000000 < n) : slices_ContainsFunc_int_int__impl_Hops_1 n (leadK f p 4) c d = some ((List.range 4).any (hitP f d c p)) := by
  have hl := leadK_len f p 4
  unfold slices_ContainsFunc_int_int__impl_Hops_1 slices_IndexFunc_int_int__impl_Hops_1
  rw [loop_idx (p := fun k => decide (g0 c ((leadK f p 4).getD k 0).toNat = d)) (len := (leadK f p 4).length) (by omega) (fun k J h _ => ?_) (fun J _ => ?_) (by omega)]
  · rw [Option.bind_some, idxOf_ge, ← any_lead]
    congr 1
    exact range_any (d := 0) (f := fun q : Int => decide (g0 c q.toNat = d))
  · obtain ⟨q0, q1⟩ := lead_rng hO h
    unfold slices_IndexFunc_int_int__impl_Hops_1_L2 impl_Hops_1
    simp only [Int.ofNat_lt, h, decide_true, cond_true, ix_nat h, Int.toNat_natCast, ix_of q0 (show (leadK f p 4).getD k 0 < (c.length : Int) by omega), Option.bind_some, w64_succ (show k < 9223372036854775807 by omega)]
  · unfold slices_IndexFunc_int_int__impl_Hops_1_L2
    simp only [Int.lt_irrefl, decide_false, cond_false]
theorem impl_level {R : Type} {n : Nat} (kx4 : Bool → List Int → Option R) {f : SFloor} (hO : FlOk f) {d : Nat} {c : List Int} (hc : c.length = f.Ways.length) (hd : d ≤ 1000) (hn : 1000000000 < n) :
    loopN (fun (x : Bool × Int × List Int) J' => impl_Hops_L15 n kx4 (fun again65 t66 c67 => J' (again65, t66, c67)) x.1 (c.length : Int) x.2.1 f x.2.2 (d : Int)) n (false, (0 : Int), c) = kx4 (runP f (d : Int) f.Ways.length c).1 (runP f (d : Int) f.Ways.length c).2 := by
  have hhi := hO.hi
  refine loop_runS (S := Bool × List Int) (X := Bool × Int × List Int) (enc := fun k s => (s.1, k, s.2)) (len := f.Ways.length) (I := fun k s => s = runP f (d : Int) k c) (Q := fun r => r = kx4 (runP f (d : Int) f.Ways.length c).1 (runP f (d : Int) f.Ways.length c).2) (fun k s J hk hi => ?_) (fun s J hi => ?_) (by omega) (s0 := (false, c)) rfl
  · refine ⟨_, rfl, ?_⟩
    have hl : s.2.length = f.Ways.length := by rw [hi, runP_len, hc]
    show impl_Hops_L15 n _ _ s.1 (c.length : Int) (k : Int) f s.2 (d : Int) = _
    unfold impl_Hops_L15 impl_Hops_k0
    rw [decide_eq_true (show (k : Int) < (c.length : Int) by omega), cond_true]
    simp only [ix_nat (show k < s.2.length by omega), Int.toNat_natCast, chk_dec (show k < s.2.length by omega), leads_impl hO hk hn, hits_impl hO hl hn, Option.bind_some, bd_eq, w64_succ (show k < 9223372036854775807 by omega), w64_succ (show d < 9223372036854775807 by omega)]
    show _ = J ((runP f (d : Int) k c).1 || chgP f (d : Int) (runP f (d : Int) k c).2 k, ((k + 1 : Nat) : Int), stepP f (d : Int) (runP f (d : Int) k c).2 k)
    rw [← hi]
    unfold stepP chgP
    cases decide (g0 s.2 k < 0) with
    | false => rw [Bool.false_and, cond_false, cond_false, Bool.or_false]
    | true =>
      cases (List.range 4).any (hitP f (d : Int) s.2 k) with
      | false => rw [Bool.and_false, cond_true, cond_false, cond_false, Bool.or_false]
      | true => rw [Bool.and_true, cond_true, cond_true, cond_true, Bool.or_true]; rfl
  · have hl : s.2.length = f.Ways.length := by rw [hi, runP_len, hc]
    show impl_Hops_L15 n _ _ s.1 (c.length : Int) (f.Ways.length : Int) f s.2 (d : Int) = _
    unfold impl_Hops_L15
    rw [decide_eq_false (by omega), cond_false, hi]
/-! ### Hops -/
def iniK (m k : Nat) : List Int := List.replicate k (-1) ++ List.replicate (m - k) 0
theorem iniK_len {m k : Nat} (h : k ≤ m) : (iniK m k).length = m := by
  unfold iniK
  rw [List.length_append, List.length_replicate, List.length_replicate]
  omega
theorem iniK_set {m k : Nat} (h : k < m) : (iniK m k).set k (-1) = iniK m (k + 1) := by
  unfold iniK
  have h1 : (List.replicate k (-1 : Int)).length = k := List.length_replicate
  rw [List.set_append_right _ _ (by omega), h1, Nat.sub_self, show m - k = (m - (k + 1)) + 1 by omega, List.replicate_succ, List.set_cons_zero, List.replicate_succ', List.append_assoc]
  rfl
def start (m : Nat) (goal : Int) : List Int := (iniK m m).set goal.toNat 0
theorem start_get {m : Nat} {goal : Int} (h0 : 0 ≤ goal) (h1 : goal < (m : Int)) (p : Nat) : g0 (start m goal) p = if p = goal.toNat then 0 else if p < m then -1 else 0 := by
  unfold start
  rw [set_get, iniK_len (Nat.le_refl m)]
  by_cases e : p = goal.toNat
  · rw [if_pos ⟨e.symm, by omega⟩, if_pos e]
  · rw [if_neg (fun x => e x.1.symm), if_neg e]
    unfold g0 iniK
    rw [Nat.sub_self, List.replicate_zero, List.append_nil]
    by_cases h : p < m
    · rw [if_pos h, getD_eq (by rw [List.length_replicate]; exact h), List.getElem_replicate]
    · rw [if_neg h, List.getD, List.getElem?_eq_none (by rw [List.length_replicate]; omega)]; rfl
theorem start_under {m : Nat} {goal : Int} (h0 : 0 ≤ goal) (h1 : goal < (m : Int)) : under (start m goal) 0 := by
  intro p
  rw [start_get h0 h1]
  split
  · omega
  · split <;> omega
theorem start_len {m : Nat} {goal : Int} : (start m goal).length = m := by
  unfold start
  rw [List.length_set, iniK_len (Nat.le_refl m)]
theorem neg_rep (m : Nat) : neg (List.replicate m (-1)) = m := by
  induction m with
  | zero => rfl
  | succ m ih =>
    unfold neg at ih ⊢
    rw [List.replicate_succ, List.filter_cons_of_pos (by simp), List.length_cons, ih]
theorem start_neg {m : Nat} {goal : Int} (h0 : 0 ≤ goal) (h1 : goal < (m : Int)) : neg (start m goal) + 1 = m := by
  have e : iniK m m = List.replicate m (-1) := by unfold iniK; rw [Nat.sub_self, List.replicate_zero, List.append_nil]
  unfold start
  rw [e, neg_set _ _ _ (by rw [List.length_replicate]; omega) ?_ (by omega), neg_rep]
  unfold g0
  rw [getD_eq (by rw [List.length_replicate]; omega), List.getElem_replicate]
  omega
def hopsL (f : SFloor) (goal : Int) : List Int := lvK f (start f.Ways.length goal) f.Ways.length
def hopsB (f : SFloor) (goal : Int) : List Int × Bool := bif floorB f && placeB f goal then (hopsL f goal, true) else ([], false)
theorem hops_spec {n : Nat} (f : SFloor) (goal : Int) (hl : f.Ways.length ≤ 1048576) (hn : 1000000000 < n) : spec_Hops n f goal = some (hopsB f goal) := by
  unfold spec_Hops hopsB
  rw [floor_spec f hl hn, Option.bind_some]
  cases hf : floorB f with
  | false => rfl
  | true =>
    have hO := flOk hf
    have hhi := hO.hi
    have hlen := hO.len
    have hm := mul_le hO.w hO.h
    rw [bd_eq, w64_id (by omega) (by omega), in_spec, Option.bind_some]
    by_cases hp : 0 ≤ goal ∧ goal ≤ (f.Ways.length : Int) - 1
    · rw [decide_eq_true hp, show placeB f goal = true from decide_eq_true hp]
      simp only [Bool.not_true, cond_false, Bool.true_and, cond_true]
      unfold spec_Hops_k2
      rw [chk_dec (by omega), chk_dec (by omega), chk_dec (by omega), Int.toNat_natCast]
      refine loop_runS (S := List Int) (X := Int × List Int) (enc := fun k s => (k, s)) (len := f.Ways.length) (I := fun k s => s = iniK f.Ways.length k) (Q := fun r => r = some (hopsL f goal, true)) (fun k s J hk hi => ?_) (fun s J hi => ?_) (by omega) (s0 := _) rfl
      · refine ⟨_, rfl, ?_⟩
        have hsl : s.length = f.Ways.length := by rw [hi, iniK_len (by omega)]
        show spec_Hops_L5 n _ _ goal (k : Int) f s = _
        unfold spec_Hops_L5
        rw [decide_eq_true (show (k : Int) < (s.length : Int) by omega), cond_true, ix_nat (by omega), Int.toNat_natCast, chk_dec (by omega), bd_eq, w64_succ (by omega), hi, iniK_set hk]
      · have hsl : s.length = f.Ways.length := by rw [hi, iniK_len (by omega)]
        show spec_Hops_L5 n _ _ goal (f.Ways.length : Int) f s = _
        unfold spec_Hops_L5
        rw [decide_eq_false (by omega), cond_false]
        dsimp only
        rw [ix_of hp.1 (by omega), chk_dec (by omega), bd_eq, hi]
        refine loop_runS (S := List Int) (X := Int × List Int) (enc := fun k s => (k, s)) (len := f.Ways.length) (I := fun k s => s = lvK f (start f.Ways.length goal) k) (Q := fun r => r = some (hopsL f goal, true)) (fun k s J hk hi => ?_) (fun s J hi => ?_) (by omega) (s0 := _) rfl
        · refine ⟨_, rfl, ?_⟩
          have hsl : s.length = f.Ways.length := by rw [hi, lvK_len, start_len]
          show spec_Hops_L10 n _ _ (k : Int) f s = _
          unfold spec_Hops_L10
          rw [decide_eq_true (show (k : Int) < (s.length : Int) by omega), cond_true, spec_level _ hO hsl (by omega) hn, w64_succ (by omega), hi]
          rfl
        · have hsl : s.length = f.Ways.length := by rw [hi, lvK_len, start_len]
          show spec_Hops_L10 n _ _ (f.Ways.length : Int) f s = _
          unfold spec_Hops_L10
          rw [decide_eq_false (by omega), cond_false, hi]
          rfl
    · rw [decide_eq_false hp, show placeB f goal = false from decide_eq_false hp]
      rfl
theorem hops_impl {n : Nat} (f : SFloor) (goal : Int) (hl : f.Ways.length ≤ 1048576) (hn : 1000000000 < n) : impl_Hops n f goal = some (hopsB f goal) := by
  unfold impl_Hops hopsB
  rw [floor_impl f hl hn, Option.bind_some]
  cases hf : floorB f with
  | false => rfl
  | true =>
    have hO := flOk hf
    have hhi := hO.hi
    have hlen := hO.len
    have hm := mul_le hO.w hO.h
    rw [place_impl hO, Option.bind_some]
    by_cases hp : 0 ≤ goal ∧ goal ≤ (f.Ways.length : Int) - 1
    · rw [show placeB f goal = true from decide_eq_true hp]
      simp only [Bool.not_true, cond_false, Bool.true_and, cond_true]
      unfold impl_Hops_k1
      rw [chk_dec (by omega), chk_dec (by omega), chk_dec (by omega), Int.toNat_natCast, List.length_replicate]
      refine loop_runS (S := List Int) (X := Int × List Int) (enc := fun k s => (k, s)) (len := f.Ways.length) (I := fun k s => s = iniK f.Ways.length k) (Q := fun r => r = some (hopsL f goal, true)) (fun k s J hk hi => ?_) (fun s J hi => ?_) (by omega) (s0 := _) rfl
      · refine ⟨_, rfl, ?_⟩
        have hsl : s.length = f.Ways.length := by rw [hi, iniK_len (by omega)]
        show impl_Hops_L5 n _ _ goal (f.Ways.length : Int) (k : Int) f s = _
        unfold impl_Hops_L5
        rw [decide_eq_true (show (k : Int) < (f.Ways.length : Int) by omega), cond_true, ix_nat (by omega), Int.toNat_natCast, chk_dec (by omega), w64_succ (by omega), hi, iniK_set hk]
      · have hsl : s.length = f.Ways.length := by rw [hi, iniK_len (by omega)]
        show impl_Hops_L5 n _ _ goal (f.Ways.length : Int) (f.Ways.length : Int) f s = _
        unfold impl_Hops_L5
        rw [decide_eq_false (by omega), cond_false]
        dsimp only
        rw [ix_of hp.1 (by omega), chk_dec (by omega), bd_eq, hi]
        have hu := start_under (m := f.Ways.length) hp.1 (by omega)
        have hne := start_neg (m := f.Ways.length) hp.1 (by omega)
        have key : ∀ m k fu, neg (lvK f (start f.Ways.length goal) k) ≤ m → m + 1 < fu → neg (lvK f (start f.Ways.length goal) k) + k + 1 ≤ f.Ways.length →
            loopN (fun (x : Bool × List Int × Int) J' => impl_Hops_L11 n (fun c68 => some (c68, true)) (fun again69 c70 n71 => J' (again69, c70, n71)) x.1 f x.2.1 x.2.2) fu (true, lvK f (start f.Ways.length goal) k, (k : Int)) = some (hopsL f goal, true) := by
          intro m
          induction m with
          | zero =>
            intro k fu h1 h2 h3
            have hsl : (lvK f (start f.Ways.length goal) k).length = f.Ways.length := by rw [lvK_len, start_len]
            have hst : (runP f (k : Int) f.Ways.length (lvK f (start f.Ways.length goal) k)).1 = false := by
              rw [Bool.eq_false_iff]
              intro h
              have := (neg_runP (f := f) (d := (k : Int)) (c := lvK f (start f.Ways.length goal) k) (by omega) f.Ways.length (by omega)).2 h
              omega
            have hfin := lvK_stop (f := f) hu hst (f.Ways.length - k)
            rw [show k + (f.Ways.length - k) = f.Ways.length from by omega] at hfin
            refine (loopN_step (by omega) _).trans ?_
            show impl_Hops_L11 n _ _ true f _ (k : Int) = _
            unfold impl_Hops_L11
            rw [cond_true, impl_level _ hO hsl (by omega) hn, hst, runP_same f (k : Int) _ f.Ways.length hst]
            refine (loopN_step (by omega) _).trans ?_
            show (bif false then _ else some (lvK f (start f.Ways.length goal) k, true)) = _
            rw [cond_false]
            unfold hopsL
            rw [hfin]
          | succ m ih =>
            intro k fu h1 h2 h3
            have hsl : (lvK f (start f.Ways.length goal) k).length = f.Ways.length := by rw [lvK_len, start_len]
            refine (loopN_step (by omega) _).trans ?_
            show impl_Hops_L11 n _ _ true f _ (k : Int) = _
            cases hst : (runP f (k : Int) f.Ways.length (lvK f (start f.Ways.length goal) k)).1 with
            | false =>
              have hfin := lvK_stop (f := f) hu hst (f.Ways.length - k)
              rw [show k + (f.Ways.length - k) = f.Ways.length from by omega] at hfin
              unfold impl_Hops_L11
              rw [cond_true, impl_level _ hO hsl (by omega) hn, hst, runP_same f (k : Int) _ f.Ways.length hst]
              refine (loopN_step (by omega) _).trans ?_
              show (bif false then _ else some (lvK f (start f.Ways.length goal) k, true)) = _
              rw [cond_false]
              unfold hopsL
              rw [hfin]
            | true =>
              have h4 := (neg_runP (f := f) (d := (k : Int)) (c := lvK f (start f.Ways.length goal) k) (by omega) f.Ways.length (by omega)).2 hst
              have h5 : neg (lvK f (start f.Ways.length goal) (k + 1)) < neg (lvK f (start f.Ways.length goal) k) := h4
              have hi := ih (k + 1) (fu - 1) (by omega) (by omega) (by omega)
              have hstep : ∀ J : Bool → List Int → Int → Option (List Int × Bool), impl_Hops_L11 n (fun c68 => some (c68, true)) J true f (lvK f (start f.Ways.length goal) k) (k : Int) = J true (lvK f (start f.Ways.length goal) (k + 1)) ((k + 1 : Nat) : Int) := by
                intro J
                unfold impl_Hops_L11
                rw [cond_true, impl_level _ hO hsl (by omega) hn, hst, w64_succ (by omega)]
                rfl
              exact (hstep _).trans hi
        exact key (neg (start f.Ways.length goal)) 0 n (Nat.le_refl _) (by omega) (by show neg (start f.Ways.length goal) + 0 + 1 ≤ _; omega)
    · rw [show placeB f goal = false from decide_eq_false hp]
      rfl
end Go.Sm
end

section
set_option linter.unusedSimpArgs false
set_option linter.deprecated false
set_option linter.unusedSectionVars false
set_option linter.unusedVariables false
set_option linter.unusedSimpArgs false
namespace Go.Sm
attribute [local irreducible] bd chk ix loopN
theorem find_getD {α β : Type} {d : α} {P : α → Bool} {g : α → β} {z : β} : ∀ l : List α, (match (List.range l.length).find? (fun k => P (l.getD k d)) with | some k => g (l.getD k d) | none => z) = match l.find? P with | some q => g q | none => z
  | [] => rfl
  | a :: l => by
    have ih := find_getD (d := d) (P := P) (g := g) (z := z) l
    rw [List.length_cons, List.range_succ_eq_map, List.find?_cons, List.find?_cons, List.find?_map]
    show (match (match P a with | true => some 0 | false => ((List.range l.length).find? ((fun k => P ((a :: l).getD k d)) ∘ Nat.succ)).map Nat.succ) with | some k => g ((a :: l).getD k d) | none => z) = _
    cases P a with
    | true => rfl
    | false =>
      have e : ((fun k => P ((a :: l).getD k d)) ∘ Nat.succ) = fun k => P (l.getD k d) := rfl
      rw [e, ← ih]
      cases (List.range l.length).find? (fun k => P (l.getD k d)) <;> rfl
/-! ### What a cart wants -/
def lessQ (h : List Int) (p : Nat) (q : Int) : Bool := decide (g0 h q.toNat ≥ 0) && decide (g0 h q.toNat < g0 h p)
def firstQ (f : SFloor) (h : List Int) (p : Nat) : Int := match (leadK f p 4).find? (lessQ h p) with | some q => q | none => -1
def wantB (f : SFloor) (c : SCart) : Int := bif decide (c.Goal < 0) then -1 else bif decide (g0 (hopsL f c.Goal) c.At.toNat ≤ 0) then -1 else firstQ f (hopsL f c.Goal) c.At.toNat
structure CtOk (f : SFloor) (c : SCart) : Prop where
  at_ : 0 ≤ c.At ∧ c.At < (f.Ways.length : Int)
  goal : -1 ≤ c.Goal ∧ c.Goal < (f.Ways.length : Int)
theorem hopsL_len (f : SFloor) (goal : Int) : (hopsL f goal).length = f.Ways.length := by
  unfold hopsL
  rw [lvK_len, start_len]
theorem hops_goal {f : SFloor} {goal : Int} (h0 : 0 ≤ goal) (h1 : goal < (f.Ways.length : Int)) : g0 (hopsL f goal) goal.toNat = 0 := by
  have h := start_get (m := f.Ways.length) h0 h1 goal.toNat
  rw [if_pos rfl] at h
  unfold hopsL
  rw [keep_lvK (by rw [h]; exact Int.le_refl _), h]
theorem firstQ_spec {f : SFloor} (hO : FlOk f) (h : List Int) (p : Nat) : firstQ f h p < 0 ∨ (firstQ f h p ≠ (p : Int) ∧ 0 ≤ firstQ f h p ∧ firstQ f h p < (f.Ways.length : Int)) := by
  unfold firstQ
  cases hf : (leadK f p 4).find? (lessQ h p) with
  | none => left; show (-1 : Int) < 0; omega
  | some q =>
    right
    have h1 := List.find?_some hf
    have h2 := List.mem_of_find?_eq_some hf
    obtain ⟨j, hj, rfl⟩ := List.getElem_of_mem h2
    have h3 := lead_rng hO hj
    rw [getD_eq hj] at h3
    refine ⟨fun e => ?_, h3.1, h3.2⟩
    have e : (leadK f p 4)[j] = (p : Int) := e
    unfold lessQ at h1
    rw [Bool.and_eq_true] at h1
    have h4 := of_decide_eq_true h1.2
    rw [e, Int.toNat_natCast] at h4
    omega
theorem wantB_spec {f : SFloor} (hO : FlOk f) {c : SCart} (hc : CtOk f c) : wantB f c < 0 ∨ (wantB f c ≠ c.At ∧ 0 ≤ wantB f c) := by
  unfold wantB
  cases decide (c.Goal < 0) with
  | true => left; show (-1 : Int) < 0; omega
  | false =>
    cases decide (g0 (hopsL f c.Goal) c.At.toNat ≤ 0) with
    | true => left; show (-1 : Int) < 0; omega
    | false =>
      have h1 := hc.at_
      rcases firstQ_spec hO (hopsL f c.Goal) c.At.toNat with e | e
      · exact .inl e
      · refine .inr ⟨?_, e.2.1⟩
        show firstQ f (hopsL f c.Goal) c.At.toNat ≠ c.At
        have := e.1
        omega
theorem bits_first (f : SFloor) (h : List Int) (p : Nat) : (match (List.range 4).find? (fun j => decide (0 ≤ nextB f p j) && lessQ h p (nextB f p j)) with | some j => some (nextB f p j) | none => some (-1)) = some (firstQ f h p) := by
  unfold firstQ leadK
  rw [List.find?_filter, List.find?_map]
  rw [show ((fun a => decide (decide (0 ≤ a) = true ∧ lessQ h p a = true)) ∘ nextB f p) = (fun j => decide (0 ≤ nextB f p j) && lessQ h p (nextB f p j)) from by
    funext j
    show decide (decide (0 ≤ nextB f p j) = true ∧ lessQ h p (nextB f p j) = true) = _
    cases decide (0 ≤ nextB f p j) <;> cases lessQ h p (nextB f p j) <;> simp]
  cases (List.range 4).find? (fun j => decide (0 ≤ nextB f p j) && lessQ h p (nextB f p j)) <;> rfl
theorem want_impl {n : Nat} {f : SFloor} (hf : floorB f = true) (hl : f.Ways.length ≤ 1048576) {c : SCart} (hc : CtOk f c) (hn : 1000000000 < n) : impl_Floor_want n f c = some (wantB f c) := by
  have hO := flOk hf
  have h1 := hc.at_
  have h2 := hc.goal
  unfold impl_Floor_want wantB
  rw [hops_impl f c.Goal hl hn, Option.bind_some]
  by_cases cg : c.Goal < 0
  · have hh : hopsB f c.Goal = ([], false) := by
      unfold hopsB
      rw [show placeB f c.Goal = false from decide_eq_false (by omega), Bool.and_false]
      rfl
    rw [hh, decide_eq_true cg]
    rfl
  · have hh : hopsB f c.Goal = (hopsL f c.Goal, true) := by
      unfold hopsB
      rw [hf, show placeB f c.Goal = true from decide_eq_true (by omega)]
      rfl
    have hlen := hopsL_len f c.Goal
    rw [hh, decide_eq_false cg, cond_false]
    dsimp only
    rw [Bool.not_true, cond_false, ix_of h1.1 (by omega), chk_dec (by omega)]
    show (bif decide (g0 (hopsL f c.Goal) c.At.toNat ≤ 0) then _ else _) = _
    by_cases cz : g0 (hopsL f c.Goal) c.At.toNat ≤ 0
    · rw [decide_eq_true cz]; rfl
    · rw [decide_eq_false cz, cond_false, cond_false]
      obtain ⟨p, hp⟩ : ∃ p : Nat, c.At = (p : Int) := ⟨c.At.toNat, by omega⟩
      have hpl : p < f.Ways.length := by omega
      have hll := leadK_len f p 4
      rw [hp, Int.toNat_natCast, leads_impl hO hpl hn, Option.bind_some]
      have hr : some (firstQ f (hopsL f c.Goal) p) = match (List.range (leadK f p 4).length).find? (fun k => lessQ (hopsL f c.Goal) p ((leadK f p 4).getD k 0)) with | some k => some ((leadK f p 4).getD k 0) | none => some (-1) := by
        rw [find_getD (d := (0 : Int)) (P := lessQ (hopsL f c.Goal) p) (g := some) (z := some (-1))]
        unfold firstQ
        cases (leadK f p 4).find? (lessQ (hopsL f c.Goal) p) <;> rfl
      rw [hr]
      refine loop_find (p := fun k => lessQ (hopsL f c.Goal) p ((leadK f p 4).getD k 0)) (len := (leadK f p 4).length) (yes := fun k => some ((leadK f p 4).getD k 0)) (no := some (-1)) (by omega) (fun k J hk _ => ?_) (fun J _ => ?_) (by omega)
      · obtain ⟨q1, q2⟩ := lead_rng hO hk
        unfold impl_Floor_want_L5 impl_Floor_want_k0 lessQ
        rw [hp]
        simp only [Int.ofNat_lt, hk, decide_true, cond_true, ix_nat hk, Int.toNat_natCast, chk_true, ix_of q1 (show (leadK f p 4).getD k 0 < ((hopsL f c.Goal).length : Int) by omega), chk_dec (show ((leadK f p 4).getD k 0).toNat < (hopsL f c.Goal).length by omega), ix_nat (show p < (hopsL f c.Goal).length by omega), chk_dec (show p < (hopsL f c.Goal).length by omega), w64_succ (show k < 9223372036854775807 by omega)]
        show (bif decide (g0 (hopsL f c.Goal) ((leadK f p 4).getD k 0).toNat ≥ 0) then (bif decide (g0 (hopsL f c.Goal) ((leadK f p 4).getD k 0).toNat < g0 (hopsL f c.Goal) p) then _ else _) else _) = _
        cases decide (g0 (hopsL f c.Goal) ((leadK f p 4).getD k 0).toNat ≥ 0) <;> cases decide (g0 (hopsL f c.Goal) ((leadK f p 4).getD k 0).toNat < g0 (hopsL f c.Goal) p) <;> rfl
      · unfold impl_Floor_want_L5
        simp only [Int.lt_irrefl, decide_false, cond_false]
end Go.Sm
end

section
set_option linter.unusedSimpArgs false
set_option linter.deprecated false
set_option linter.unusedSectionVars false
set_option linter.unusedVariables false
set_option linter.unusedSimpArgs false
namespace Go.Sm
attribute [local irreducible] bd chk ix loopN
theorem loop_any {R : Type} {b : Int → (Int → Option R) → Option R} {len : Nat} {p : Nat → Bool} {yes no : Option R} (hlen : len ≤ 9223372036854775807)
    (hstep : ∀ (k : Nat) (J : Int → Option R), k < len → b (k : Int) J = bif p k then yes else J ((k + 1 : Nat) : Int)) (hfin : ∀ J, b (len : Int) J = no) {n : Nat} (hn : len < n) :
    loopN b n (0 : Int) = bif (List.range len).any p then yes else no := by
  rw [loop_all (p := fun k => !p k) (len := len) (no := yes) (yes := no) hlen (fun k J h _ => by rw [hstep k J h, bif_not]) (fun J _ => hfin J) hn, List.any_eq_not_all_not, bif_not]
/-! ### Strikes -/
def metB (l : List SCart) (w : List Int) (i k : Nat) : Bool := decide ((ct l k).At = g0 w i) && (decide (g0 w k < 0) || decide (g0 w k = (ct l i).At))
def hitS (l : List SCart) (w : List Int) (i k : Nat) : Bool := (decide ((k : Int) < (i : Int)) && decide (g0 w k = g0 w i)) || metB l w i k
def struckB (l : List SCart) (w : List Int) (i : Nat) : Bool := !decide (g0 w i < 0) && (List.range l.length).any (hitS l w i)
structure WOk (l : List SCart) (w : List Int) : Prop where
  len : w.length = l.length
  far : ∀ i, i < l.length → g0 w i < 0 ∨ g0 w i ≠ (ct l i).At
theorem WOk.strike {l : List SCart} {w : List Int} (h : WOk l w) (i : Nat) : WOk l (w.set i (-1)) := by
  refine ⟨by rw [List.length_set]; exact h.len, fun k hk => ?_⟩
  rw [set_get]
  split
  · left; omega
  · exact h.far k hk
theorem struck_impl {n : Nat} {l : List SCart} {w : List Int} (h : WOk l w) (hl : l.length ≤ 12) {i : Nat} (hi : i < l.length) (hn : 1000000000 < n) : impl_Round_1 n (i : Int) w l = some (struckB l w i) := by
  have hwl := h.len
  unfold impl_Round_1 struckB
  rw [ix_nat (by omega), Int.toNat_natCast]
  show (bif decide (g0 w i < 0) then _ else _) = _
  by_cases hneg : g0 w i < 0
  · rw [decide_eq_true hneg]; rfl
  · have hfar : g0 w i ≠ (ct l i).At := (h.far i hi).resolve_left hneg
    rw [decide_eq_false hneg, cond_false, loop_any (p := hitS l w i) (len := l.length) (yes := some true) (no := some false) (by omega) (fun k J hk => ?_) (fun J => ?_) (by omega)]
    · rw [bif_tf]; rfl
    · unfold impl_Round_1_L5 impl_Round_1_k0 hitS metB
      simp only [Int.ofNat_lt, hk, decide_true, cond_true, ix_nat (show k < w.length by omega), ix_nat (show i < w.length by omega), ix_nat hk, ix_nat hi, Int.toNat_natCast, bd_eq, w64_succ (show k < 9223372036854775807 by omega)]
      by_cases e : k = i
      · subst e
        rw [decide_eq_true (show (k : Int) = (k : Int) from rfl), decide_eq_false (show ¬ k < k by omega), decide_eq_false (show ¬ (ct l k).At = g0 w k from fun x => hfar x.symm)]
        rfl
      · rw [decide_eq_false (show ¬ (k : Int) = (i : Int) by omega)]
        cases decide (k < i) <;> cases decide (g0 w k = g0 w i) <;> cases decide ((ct l k).At = g0 w i) <;> cases decide (g0 w k < 0) <;> cases decide (g0 w k = (ct l i).At) <;> rfl
    · unfold impl_Round_1_L5
      simp only [Int.lt_irrefl, decide_false, cond_false]
def firstS (l : List SCart) (w : List Int) : Option Nat := (List.range l.length).find? (struckB l w)
def runS (l : List SCart) : Nat → List Int → List Int
  | 0, w => w
  | m + 1, w => match firstS l w with
    | some i => runS l m (w.set i (-1))
    | none => w
theorem firstS_some {l : List SCart} {w : List Int} {i : Nat} (h : firstS l w = some i) : i < l.length ∧ 0 ≤ g0 w i := by
  unfold firstS at h
  have h1 := List.find?_some h
  have h2 := List.mem_range.1 (List.mem_of_find?_eq_some h)
  refine ⟨h2, ?_⟩
  unfold struckB at h1
  rw [Bool.and_eq_true, Bool.not_eq_true', decide_eq_false_iff_not] at h1
  omega
def posC (w : List Int) : Nat := (w.filter fun x => decide (0 ≤ x)).length
theorem posC_set : ∀ (c : List Int) (p : Nat), p < c.length → 0 ≤ g0 c p → posC (c.set p (-1)) + 1 = posC c
  | [], _, h, _ => absurd h (Nat.not_lt_zero _)
  | x :: c, 0, _, hx => by
    have hx : 0 ≤ x := hx
    unfold posC
    rw [List.set_cons_zero, List.filter_cons_of_neg (by simp), List.filter_cons_of_pos (by simpa using hx)]
    rfl
  | x :: c, p + 1, h, hx => by
    have ih := posC_set c p (Nat.lt_of_succ_lt_succ h) hx
    unfold posC at ih ⊢
    rw [List.set_cons_succ]
    by_cases c1 : 0 ≤ x
    · rw [List.filter_cons_of_pos (by simpa using c1), List.filter_cons_of_pos (by simpa using c1), List.length_cons, List.length_cons]
      omega
    · rw [List.filter_cons_of_neg (by simpa using c1), List.filter_cons_of_neg (by simpa using c1)]
      exact ih
theorem posC_le (w : List Int) : posC w ≤ w.length := List.length_filter_le _ _
theorem runS_ok {l : List SCart} : ∀ m {w : List Int}, WOk l w → WOk l (runS l m w)
  | 0, _, h => h
  | m + 1, w, h => by
    unfold runS
    cases firstS l w with
    | none => exact h
    | some i => exact runS_ok m (h.strike i)
/-- One search of the reference. -/
theorem impl_strikes {R : Type} {n : Nat} (kx2 : List Int → Option R) {l : List SCart} (hl : l.length ≤ 12) (hn : 1000000000 < n) : ∀ m fu w, WOk l w → posC w ≤ m → m + 2 < fu →
    loopN (fun (x : List Int) J' => impl_Round_L10 n kx2 J' l x) fu w = kx2 (runS l m w) := by
  have hstep : ∀ (J : List Int → Option R) w, WOk l w → impl_Round_L10 n kx2 J l w = match firstS l w with | some i => J (w.set i (-1)) | none => kx2 w := by
    intro J w h
    have hwl := h.len
    unfold impl_Round_L10
    rw [loop_find (p := struckB l w) (len := l.length) (yes := fun i => J (w.set i (-1))) (no := kx2 w) (by omega) (fun k J2 hk _ => ?_) (fun J2 _ => ?_) (by omega)]
    · rfl
    · unfold impl_Round_L11
      simp only [Int.ofNat_lt, hk, decide_true, cond_true, struck_impl h hl hk hn, Option.bind_some, decide_eq_false (show ¬ (k : Int) = (l.length : Int) by omega), cond_false, ix_nat (show k < w.length by omega), Int.toNat_natCast, chk_dec (show k < w.length by omega), bd_eq, w64_succ (show k < 9223372036854775807 by omega), bif_not]
    · unfold impl_Round_L11
      simp only [Int.lt_irrefl, decide_false, cond_false, decide_true, cond_true]
  intro m
  induction m with
  | zero =>
    intro fu w h hp hfu
    refine (loopN_step (by omega) _).trans ((hstep _ w h).trans ?_)
    cases hs : firstS l w with
    | none => rfl
    | some i =>
      obtain ⟨h1, h2⟩ := firstS_some hs
      have := posC_set w i (by rw [h.len]; exact h1) h2
      omega
  | succ m ih =>
    intro fu w h hp hfu
    refine (loopN_step (by omega) _).trans ((hstep _ w h).trans ?_)
    unfold runS
    cases hs : firstS l w with
    | none => rfl
    | some i =>
      obtain ⟨h1, h2⟩ := firstS_some hs
      have := posC_set w i (by rw [h.len]; exact h1) h2
      exact ih (fu - 1) _ (h.strike i) (by omega) (by omega)
/-! ### A round -/
def wants0 (f : SFloor) (l : List SCart) (k : Nat) : List Int := (List.range k).map fun i => wantB f (ct l i)
theorem wants0_len (f : SFloor) (l : List SCart) (k : Nat) : (wants0 f l k).length = k := by simp [wants0]
theorem wants0_get (f : SFloor) (l : List SCart) {k i : Nat} (h : i < k) : g0 (wants0 f l k) i = wantB f (ct l i) := by
  unfold g0
  rw [getD_eq (by rw [wants0_len]; exact h)]
  simp [wants0]
def goK (l : List SCart) (w : List Int) : Nat → List SCart × List Int
  | 0 => (l, [])
  | k + 1 => bif decide (g0 w k ≥ 0) then ((goK l w k).1.set k ⟨g0 w k, ((goK l w k).1.getD k dSCart).Goal⟩, (goK l w k).2 ++ [(k : Int)]) else goK l w k
theorem goK_len (l : List SCart) (w : List Int) : ∀ k, (goK l w k).1.length = l.length ∧ (goK l w k).2.length ≤ k
  | 0 => ⟨rfl, Nat.le_refl _⟩
  | k + 1 => by
    obtain ⟨h1, h2⟩ := goK_len l w k
    unfold goK
    cases decide (g0 w k ≥ 0) with
    | true => exact ⟨by rw [cond_true, List.length_set, h1], by rw [cond_true, List.length_append, List.length_singleton]; omega⟩
    | false => exact ⟨h1, by rw [cond_false]; omega⟩
def wantsE (f : SFloor) (l : List SCart) : List Int := runS l l.length (wants0 f l l.length)
def roundB (f : SFloor) (l : List SCart) : List SCart × List Int × Bool := bif cartsB f l then ((goK l (wantsE f l) l.length).1, (goK l (wantsE f l) l.length).2, true) else ([], [], false)
structure CsOk (f : SFloor) (l : List SCart) : Prop where
  fl : floorB f = true
  len : l.length ≤ 12
  each : ∀ i, i < l.length → CtOk f (ct l i)
theorem csOk {f : SFloor} {l : List SCart} (h : cartsB f l = true) : CsOk f l := by
  unfold cartsB at h
  rw [Bool.and_eq_true, Bool.and_eq_true] at h
  refine ⟨h.1, of_decide_eq_true h.2.1, fun i hi => ?_⟩
  have h1 := all_iffR.1 h.2.2 i hi
  unfold cartB at h1
  rw [Bool.and_eq_true, Bool.and_eq_true] at h1
  have h2 := of_decide_eq_true h1.1
  have h3 := of_decide_eq_true h1.2.1
  exact ⟨by omega, by omega⟩
theorem wOk0 {f : SFloor} {l : List SCart} (h : CsOk f l) : WOk l (wants0 f l l.length) := by
  refine ⟨wants0_len _ _ _, fun i hi => ?_⟩
  rw [wants0_get f l hi]
  exact (wantB_spec (flOk h.fl) (h.each i hi)).imp id fun x => x.1
theorem own_int {n : Nat} (l : List Int) (h : l.length ≤ 1048576) : impl_own_int n l = some l := by
  unfold impl_own_int
  rw [chk_dec (by omega), chk_dec (by omega), chk_dec (by omega)]
theorem own_cart {n : Nat} (l : List SCart) (h : l.length ≤ 1048576) : impl_own_impl_Cart n l = some l := by
  unfold impl_own_impl_Cart
  rw [chk_dec (by omega), chk_dec (by omega), chk_dec (by omega)]
theorem round_impl {n : Nat} (f : SFloor) (l : List SCart) (hf : f.Ways.length ≤ 1048576) (hl : l.length ≤ 1048576) (hn : 1000000000 < n) : impl_Round n f l = some (roundB f l) := by
  unfold impl_Round roundB
  rw [carts_impl f l hf hl hn, Option.bind_some]
  cases hc : cartsB f l with
  | false => rfl
  | true =>
    have hC := csOk hc
    have h12 := hC.len
    simp only [Bool.not_true, cond_false, cond_true]
    unfold impl_Round_k1
    rw [chk_dec (by omega), chk_dec (by omega), chk_dec (by omega), Int.toNat_natCast]
    have hW0 := wants0_len f l l.length
    refine loop_runS (S := List Int) (X := Int × List Int) (enc := fun k s => (k, s)) (len := l.length) (I := fun k s => s = (wants0 f l l.length).take k ++ (List.replicate l.length 0).drop k) (Q := fun r => r = some ((goK l (wantsE f l) l.length).1, (goK l (wantsE f l) l.length).2, true)) (fun k s J hk hi => ?_) (fun s J hi => ?_) (by omega) (s0 := _) (by simp)
    · refine ⟨_, rfl, ?_⟩
      have hsl : s.length = l.length := by rw [hi, List.length_append, List.length_take, List.length_drop, List.length_replicate]; omega
      show impl_Round_L5 n _ _ l (l.length : Int) (k : Int) f l s = _
      unfold impl_Round_L5
      simp only [Int.ofNat_lt, hk, decide_true, cond_true, ix_nat hk, Int.toNat_natCast, bd_eq, want_impl hC.fl hf (hC.each k hk) hn, Option.bind_some, ix_nat (show k < s.length by omega), chk_dec (show k < s.length by omega), w64_succ (show k < 9223372036854775807 by omega)]
      rw [hi, take_drop_set (d := (0 : Int)) (by omega) (by omega) (wants0_get f l hk).symm]
    · have hW := wOk0 hC
      have hE : WOk l (wantsE f l) := runS_ok _ hW
      have hp := posC_le (wants0 f l l.length)
      rw [wants0_len] at hp
      have hs : s = wants0 f l l.length := by
        rw [hi, List.take_of_length_le (by omega), List.drop_eq_nil_of_le (by rw [List.length_replicate]; omega), List.append_nil]
      show impl_Round_L5 n _ _ l (l.length : Int) (l.length : Int) f l s = _
      unfold impl_Round_L5
      simp only [Int.lt_irrefl, decide_false, cond_false]
      rw [hs, impl_strikes _ h12 hn l.length n _ hW hp (by omega), own_cart l hl, Option.bind_some]
      have hel : (wantsE f l).length = l.length := hE.len
      show loopN (fun (x : Int × List SCart × List Int) J' => impl_Round_L18 n _ _ ((wantsE f l).length : Int) x.1 x.2.1 x.2.2 (wantsE f l)) n _ = _
      rw [hel]
      refine loop_runS (S := List SCart × List Int) (X := Int × List SCart × List Int) (enc := fun k s => (k, s.1, s.2)) (len := l.length) (I := fun k s => s = goK l (wantsE f l) k) (Q := fun r => r = some ((goK l (wantsE f l) l.length).1, (goK l (wantsE f l) l.length).2, true)) (fun k s J hk hi2 => ?_) (fun s J hi2 => ?_) (by omega) (s0 := (l, [])) rfl
      · refine ⟨_, rfl, ?_⟩
        obtain ⟨g1, g2⟩ := goK_len l (wantsE f l) k
        show impl_Round_L18 n _ _ (l.length : Int) (k : Int) s.1 s.2 (wantsE f l) = _
        unfold impl_Round_L18 impl_Round_k0 goK
        subst hi2
        simp only [Int.ofNat_lt, hk, decide_true, cond_true, ix_nat (show k < (wantsE f l).length by omega), chk_dec (show k < (wantsE f l).length by omega), ix_nat (show k < (goK l (wantsE f l) k).1.length by omega), chk_dec (show k < (goK l (wantsE f l) k).1.length by omega), Int.toNat_natCast, bd_eq, w64_succ (show k < 9223372036854775807 by omega), chk_dec (show ((goK l (wantsE f l) k).2 ++ [(k : Int)]).length * 8 ≤ 140737488355328 by rw [List.length_append, List.length_singleton]; omega)]
        cases decide (g0 (wantsE f l) k ≥ 0) <;> rfl
      · subst hi2
        obtain ⟨g1, g2⟩ := goK_len l (wantsE f l) l.length
        show impl_Round_L18 n _ _ (l.length : Int) (l.length : Int) _ _ (wantsE f l) = _
        unfold impl_Round_L18
        simp only [Int.lt_irrefl, decide_false, cond_false]
        rw [own_int _ (by omega), Option.bind_some]
end Go.Sm
end

section
set_option linter.unusedSimpArgs false
set_option linter.deprecated false
set_option linter.unusedSectionVars false
set_option linter.unusedVariables false
set_option linter.unusedSimpArgs false
namespace Go.Sm
attribute [local irreducible] bd chk ix loopN
theorem round_len (f : SFloor) (l : List SCart) (hl : l.length ≤ 1048576) : (roundB f l).1.length ≤ 1048576 := by
  unfold roundB
  cases cartsB f l with
  | false => exact Nat.zero_le _
  | true =>
    obtain ⟨g1, g2⟩ := goK_len l (wantsE f l) l.length
    show (goK l (wantsE f l) l.length).1.length ≤ _
    omega
def stillB (f : SFloor) (l : List SCart) : Bool := decide (((roundB f l).2.1.length : Int) = 0)
def runC (f : SFloor) : Nat → Nat → List SCart → List SCart × Nat
  | 0, k, l => (l, k)
  | m + 1, k, l => bif stillB f l then (l, k) else runC f m (k + 1) (roundB f l).1
theorem runC_len (f : SFloor) : ∀ m k l, l.length ≤ 1048576 → (runC f m k l).1.length ≤ 1048576
  | 0, _, _, h => h
  | m + 1, k, l, h => by
    unfold runC
    cases stillB f l with
    | true => exact h
    | false => exact runC_len f m (k + 1) _ (round_len f l h)
def restB (l : List SCart) (i : Nat) : Bool := decide ((ct l i).Goal < 0) || decide ((ct l i).Goal = (ct l i).At)
def restsB (l : List SCart) : Bool := (List.range l.length).all (restB l)
def settleB (f : SFloor) (l : List SCart) (rounds : Int) : List SCart × Int × Bool :=
  bif cartsB f l && decide (0 ≤ rounds ∧ rounds ≤ 200) then ((runC f rounds.toNat 0 l).1, ((runC f rounds.toNat 0 l).2 : Int), restsB (runC f rounds.toNat 0 l).1) else ([], 0, false)
theorem go_impl {R : Type} {n : Nat} (kx0 : Int → List SCart → Option R) (f : SFloor) (rounds : Int) (hf : f.Ways.length ≤ 1048576) (hr : 0 ≤ rounds ∧ rounds ≤ 200) (hn : 1000000000 < n) : ∀ (m k : Nat) (l : List SCart) (fu : Nat), (k : Int) + (m : Int) = rounds → m < fu → l.length ≤ 1048576 →
    loopN (fun (x : Int × Int × List SCart) J' => impl_Settle19_L6 n kx0 (fun n40 t41 l42 => J' (n40, t41, l42)) x.1 rounds x.2.1 f x.2.2) fu ((k : Int), (k : Int), l) = kx0 ((runC f m k l).2 : Int) (runC f m k l).1
  | 0, k, l, fu, hk, hfu, hl => by
    refine (loopN_step hfu _).trans ?_
    show impl_Settle19_L6 n kx0 _ (k : Int) rounds (k : Int) f l = _
    unfold impl_Settle19_L6
    rw [decide_eq_false (by omega), cond_false]
    rfl
  | m + 1, k, l, fu, hk, hfu, hl => by
    have hstep : ∀ J : Int → Int → List SCart → Option R, impl_Settle19_L6 n kx0 J (k : Int) rounds (k : Int) f l = bif stillB f l then kx0 (k : Int) l else J ((k + 1 : Nat) : Int) ((k + 1 : Nat) : Int) (roundB f l).1 := by
      intro J
      unfold impl_Settle19_L6 stillB
      rw [decide_eq_true (show (k : Int) < rounds by omega), cond_true, round_impl f l hf hl hn, Option.bind_some, w64_succ (by omega)]
    refine (loopN_step (by omega) _).trans ((hstep _).trans ?_)
    unfold runC
    cases stillB f l with
    | true => rfl
    | false => exact go_impl kx0 f rounds hf hr hn m (k + 1) _ (fu - 1) (by omega) (by omega) (round_len f l hl)
theorem rests_impl {n : Nat} (l : List SCart) (hl : l.length ≤ 1048576) (hn : 1000000000 < n) : slices_ContainsFunc_impl_Cart_impl_Cart__impl_Settle19_1 n l = some (!restsB l) := by
  unfold slices_ContainsFunc_impl_Cart_impl_Cart__impl_Settle19_1 slices_IndexFunc_impl_Cart_impl_Cart__impl_Settle19_1
  rw [loop_idx (p := fun k => !restB l k) (len := l.length) (by omega) (fun k J h _ => ?_) (fun J _ => ?_) (by omega)]
  · rw [Option.bind_some, idxOf_ge]
    unfold restsB
    rw [List.not_all_eq_any_not]
  · unfold slices_IndexFunc_impl_Cart_impl_Cart__impl_Settle19_1_L2 impl_Settle19_1 restB
    simp only [Int.ofNat_lt, h, decide_true, cond_true, ix_nat h, bd_eq, Int.toNat_natCast, w64_succ (show k < 9223372036854775807 by omega)]
    have e : decide ((ct l k).At = (ct l k).Goal) = decide ((ct l k).Goal = (ct l k).At) := by simp only [decide_eq_decide]; exact ⟨Eq.symm, Eq.symm⟩
    rw [e]
    by_cases c : (ct l k).Goal < 0
    · rw [decide_eq_true c, decide_eq_false (show ¬ (ct l k).Goal ≥ 0 by omega)]; rfl
    · rw [decide_eq_false c, decide_eq_true (show (ct l k).Goal ≥ 0 by omega)]
      cases decide ((ct l k).Goal = (ct l k).At) <;> rfl
  · unfold slices_IndexFunc_impl_Cart_impl_Cart__impl_Settle19_1_L2
    simp only [Int.lt_irrefl, decide_false, cond_false]
theorem settle_impl {n : Nat} (f : SFloor) (l : List SCart) (rounds : Int) (hf : f.Ways.length ≤ 1048576) (hl : l.length ≤ 1048576) (hn : 1000000000 < n) : impl_Settle19 n f l rounds = some (settleB f l rounds) := by
  unfold impl_Settle19 settleB
  rw [carts_impl f l hf hl hn, Option.bind_some, in_impl, Option.bind_some]
  cases cartsB f l with
  | false => rfl
  | true =>
    by_cases hr : 0 ≤ rounds ∧ rounds ≤ 200
    · rw [decide_eq_true hr]
      simp only [Bool.not_true, cond_false, Bool.true_and, cond_true]
      unfold impl_Settle19_k0
      rw [cond_false, own_cart l hl, Option.bind_some]
      refine (go_impl (n := n) _ f rounds hf hr hn rounds.toNat 0 l n (by omega) (by omega) hl).trans ?_
      rw [rests_impl _ (runC_len f rounds.toNat 0 l hl) hn, Option.bind_some, Bool.not_not]
    · rw [decide_eq_false hr]; rfl
theorem settle_sz (f : SFloor) (l : List SCart) (rounds : Int) (hl : l.length ≤ 1048576) : (settleB f l rounds).1.length ≤ 1048576 := by
  unfold settleB
  cases cartsB f l && decide (0 ≤ rounds ∧ rounds ≤ 200) with
  | false => exact Nat.zero_le _
  | true => exact runC_len f rounds.toNat 0 l hl
/-! ### Who is some hops away has a place nearer to go to -/
def near (f : SFloor) (c : List Int) : Prop := ∀ p, p < f.Ways.length → 0 < g0 c p → ∃ j, j < 4 ∧ 0 ≤ nextB f p j ∧ 0 ≤ g0 c (nextB f p j).toNat ∧ g0 c (nextB f p j).toNat < g0 c p
theorem near_step {f : SFloor} {d : Int} {c : List Int} {p : Nat} (hd : 0 ≤ d) (hl : c.length = f.Ways.length) (h : near f c) : near f (stepP f d c p) := by
  intro q hq hg
  cases hc : chgP f d c p with
  | false =>
    have e : stepP f d c p = c := by unfold stepP; rw [hc]; rfl
    rw [e] at hg ⊢
    exact h q hq hg
  | true =>
    have e : stepP f d c p = c.set p (d + 1) := by unfold stepP; rw [hc]; rfl
    have hc2 := hc
    unfold chgP at hc2
    rw [Bool.and_eq_true] at hc2
    have hneg := of_decide_eq_true hc2.1
    by_cases hpq : p = q
    · subst hpq
      obtain ⟨j, hj, hh⟩ := List.any_eq_true.1 hc2.2
      unfold hitP at hh
      rw [Bool.and_eq_true] at hh
      have h1 := of_decide_eq_true hh.1
      have h2 := of_decide_eq_true hh.2
      have h3 : g0 (stepP f d c p) (nextB f p j).toNat = d := by rw [keep_step (by omega), h2]
      refine ⟨j, List.mem_range.1 hj, h1, by omega, ?_⟩
      rw [h3, e, set_get, if_pos ⟨rfl, by omega⟩]
      omega
    · have hgq : g0 (stepP f d c p) q = g0 c q := by rw [e, set_get, if_neg (fun x => hpq x.1)]
      rw [hgq] at hg ⊢
      obtain ⟨j, h1, h2, h3, h4⟩ := h q hq hg
      exact ⟨j, h1, h2, by rw [keep_step h3]; exact h3, by rw [keep_step h3]; exact h4⟩
theorem near_run {f : SFloor} {d : Int} {c : List Int} (hd : 0 ≤ d) (hl : c.length = f.Ways.length) (h : near f c) : ∀ k, near f (runP f d k c).2
  | 0 => h
  | k + 1 => near_step hd (by rw [runP_len]; exact hl) (near_run hd hl h k)
theorem near_lvK {f : SFloor} {c0 : List Int} (hl : c0.length = f.Ways.length) (h : near f c0) : ∀ k, near f (lvK f c0 k)
  | 0 => h
  | k + 1 => near_run (by omega) (by rw [lvK_len]; exact hl) (near_lvK hl h k) _
theorem hops_near {f : SFloor} {goal : Int} (h0 : 0 ≤ goal) (h1 : goal < (f.Ways.length : Int)) : near f (hopsL f goal) := by
  unfold hopsL
  refine near_lvK start_len (fun p hp hg => ?_) _
  rw [start_get h0 h1] at hg
  split at hg
  · omega
  · omega
theorem firstQ_pos {f : SFloor} (hO : FlOk f) {h : List Int} (hn : near f h) {p : Nat} (hp : p < f.Ways.length) (hg : 0 < g0 h p) : 0 ≤ firstQ f h p := by
  obtain ⟨j, h1, h2, h3, h4⟩ := hn p hp hg
  unfold firstQ
  cases hf : (leadK f p 4).find? (lessQ h p) with
  | none =>
    exfalso
    rw [List.find?_eq_none] at hf
    refine hf (nextB f p j) ?_ ?_
    · unfold leadK
      exact List.mem_filter.2 ⟨List.mem_map.2 ⟨j, List.mem_range.2 h1, rfl⟩, decide_eq_true h2⟩
    · unfold lessQ
      rw [decide_eq_true (show g0 h (nextB f p j).toNat ≥ 0 by omega), decide_eq_true h4]
      rfl
  | some q =>
    have h5 := List.mem_of_find?_eq_some hf
    unfold leadK at h5
    exact of_decide_eq_true (List.mem_filter.1 h5).2
def awayB (f : SFloor) (c : SCart) : Bool := !decide (c.Goal < 0) && decide (0 < g0 (hopsL f c.Goal) c.At.toNat)
theorem want_away {f : SFloor} (hO : FlOk f) {c : SCart} (hc : CtOk f c) : decide (wantB f c ≥ 0) = awayB f c := by
  have h1 := hc.at_
  have h2 := hc.goal
  unfold wantB awayB
  by_cases cg : c.Goal < 0
  · rw [decide_eq_true cg]; rfl
  · rw [decide_eq_false cg, cond_false]
    by_cases cz : g0 (hopsL f c.Goal) c.At.toNat ≤ 0
    · rw [decide_eq_true cz, decide_eq_false (show ¬ 0 < g0 (hopsL f c.Goal) c.At.toNat by omega)]; rfl
    · rw [decide_eq_false cz, cond_false, decide_eq_true (show 0 < g0 (hopsL f c.Goal) c.At.toNat by omega)]
      have := firstQ_pos hO (hops_near (f := f) (goal := c.Goal) (by omega) (by omega)) (p := c.At.toNat) (by omega) (by omega)
      rw [decide_eq_true (show firstQ f (hopsL f c.Goal) c.At.toNat ≥ 0 by omega)]
      rfl
def hasB (l : List Int) (x : Int) : Bool := (List.range l.length).any fun k => decide (l.getD k 0 = x)
theorem contains_impl {n : Nat} (l : List Int) (x : Int) (hl : l.length ≤ 1048576) (hn : 1000000000 < n) : slices_Contains_int_int n l x = some (hasB l x) := by
  unfold slices_Contains_int_int slices_Index_int_int hasB
  rw [loop_idx (p := fun k => decide (l.getD k 0 = x)) (len := l.length) (by omega) (fun k J h _ => ?_) (fun J _ => ?_) (by omega)]
  · rw [Option.bind_some, idxOf_ge]
  · unfold slices_Index_int_int_L2
    simp only [Int.ofNat_lt, h, decide_true, cond_true, ix_nat h, Int.toNat_natCast, w64_succ (show k < 9223372036854775807 by omega)]
    rw [show decide (x = l.getD k 0) = decide (l.getD k 0 = x) from by simp only [decide_eq_decide]; exact ⟨Eq.symm, Eq.symm⟩]
  · unfold slices_Index_int_int_L2
    simp only [Int.lt_irrefl, decide_false, cond_false]
def stuckAt (f : SFloor) (l : List SCart) (mv : List Int) (i : Nat) : Bool := awayB f (ct l i) && !hasB mv (i : Int)
def stuckK (f : SFloor) (l : List SCart) (mv : List Int) (k : Nat) : List Int := ((List.range k).filter (stuckAt f l mv)).map fun (j : Nat) => (j : Int)
theorem stuckK_succ (f : SFloor) (l : List SCart) (mv : List Int) (k : Nat) : stuckK f l mv (k + 1) = bif stuckAt f l mv k then stuckK f l mv k ++ [(k : Int)] else stuckK f l mv k := by
  unfold stuckK
  rw [List.range_succ, List.filter_append, List.map_append]
  cases h : stuckAt f l mv k with
  | true => simp [h]
  | false => simp [h]
theorem stuckK_len (f : SFloor) (l : List SCart) (mv : List Int) (k : Nat) : (stuckK f l mv k).length ≤ k := by
  unfold stuckK
  rw [List.length_map]
  have := List.length_filter_le (stuckAt f l mv) (List.range k)
  rw [List.length_range] at this
  exact this
def stuckB (f : SFloor) (l : List SCart) : List Int × Bool := bif cartsB f l then (stuckK f l (roundB f l).2.1 l.length, true) else ([], false)
theorem round_sz2 (f : SFloor) (l : List SCart) (hl : l.length ≤ 1048576) : (roundB f l).2.1.length ≤ 1048576 := by
  unfold roundB
  cases cartsB f l with
  | false => exact Nat.zero_le _
  | true =>
    obtain ⟨g1, g2⟩ := goK_len l (wantsE f l) l.length
    show (goK l (wantsE f l) l.length).2.length ≤ _
    omega
theorem round_ok (f : SFloor) (l : List SCart) : (roundB f l).2.2 = cartsB f l := by
  unfold roundB
  cases cartsB f l <;> rfl
theorem stuck_impl {n : Nat} (f : SFloor) (l : List SCart) (hf : f.Ways.length ≤ 1048576) (hl : l.length ≤ 1048576) (hn : 1000000000 < n) : impl_Stuck n f l = some (stuckB f l) := by
  unfold impl_Stuck stuckB
  rw [round_impl f l hf hl hn, Option.bind_some, round_ok]
  have hm := round_sz2 f l hl
  cases hc : cartsB f l with
  | false => rfl
  | true =>
    have hC := csOk hc
    rw [Bool.not_true, cond_false, cond_true]
    refine loop_runS (S := List Int) (X := Int × List Int) (enc := fun k s => (k, s)) (len := l.length) (I := fun k s => s = stuckK f l (roundB f l).2.1 k) (Q := fun r => r = some (stuckK f l (roundB f l).2.1 l.length, true)) (fun k s J hk hi => ?_) (fun s J hi => ?_) (by omega) (s0 := []) rfl
    · refine ⟨_, rfl, ?_⟩
      have hs := stuckK_len f l (roundB f l).2.1 k
      have hck := hC.each k hk
      have h1 : 0 ≤ (l.getD k dSCart).At ∧ (l.getD k dSCart).At < (f.Ways.length : Int) := hck.at_
      have h2 := hck.goal
      show impl_Stuck_L6 n _ _ l (l.length : Int) (k : Int) f _ s = _
      unfold impl_Stuck_L6 impl_Stuck_k0
      subst hi
      simp only [Int.ofNat_lt, hk, decide_true, cond_true, ix_nat hk, Int.toNat_natCast, bd_eq, hops_impl f _ hf hn, Option.bind_some, contains_impl _ _ hm hn, w64_succ (show k < 9223372036854775807 by omega)]
      rw [stuckK_succ]
      unfold stuckAt awayB
      by_cases cg : (ct l k).Goal < 0
      · have hh : hopsB f (ct l k).Goal = ([], false) := by
          unfold hopsB
          rw [show placeB f (ct l k).Goal = false from decide_eq_false (by omega), Bool.and_false]
          rfl
        rw [hh, decide_eq_true cg]
        rfl
      · have hh : hopsB f (ct l k).Goal = (hopsL f (ct l k).Goal, true) := by
          unfold hopsB
          rw [hC.fl, show placeB f (ct l k).Goal = true from decide_eq_true (by omega)]
          rfl
        have hlen := hopsL_len f (ct l k).Goal
        rw [hh, decide_eq_false cg]
        dsimp only
        rw [cond_true, ix_of h1.1 (by omega), chk_dec (by omega), chk_dec (by rw [List.length_append, List.length_singleton]; omega)]
        show (bif decide (0 < g0 (hopsL f (ct l k).Goal) (ct l k).At.toNat) then _ else _) = _
        cases decide (0 < g0 (hopsL f (ct l k).Goal) (ct l k).At.toNat) <;> cases hasB (roundB f l).2.1 (k : Int) <;> rfl
    · have hs := stuckK_len f l (roundB f l).2.1 l.length
      show impl_Stuck_L6 n _ _ l (l.length : Int) (l.length : Int) f _ s = _
      unfold impl_Stuck_L6
      simp only [Int.lt_irrefl, decide_false, cond_false]
      rw [hi, own_int _ (by omega), Option.bind_some]
theorem stuck_sz (f : SFloor) (l : List SCart) (hl : l.length ≤ 1048576) : (stuckB f l).1.length ≤ 1048576 := by
  unfold stuckB
  cases cartsB f l with
  | false => exact Nat.zero_le _
  | true =>
    have := stuckK_len f l (roundB f l).2.1 l.length
    show (stuckK f l (roundB f l).2.1 l.length).length ≤ _
    omega
end Go.Sm
end

section
set_option linter.unusedSimpArgs false
set_option linter.deprecated false
set_option linter.unusedSectionVars false
set_option linter.unusedVariables false
set_option linter.unusedSimpArgs false
namespace Go.Sm
attribute [local irreducible] bd chk ix loopN
/-! ### Hops grow by one -/
theorem step_new {f : SFloor} {d : Int} {c : List Int} {p q : Nat} : g0 (stepP f d c p) q = g0 c q ∨ g0 (stepP f d c p) q = d + 1 := by
  unfold stepP
  cases chgP f d c p with
  | false => exact .inl rfl
  | true =>
    rw [cond_true, set_get]
    split
    · exact .inr rfl
    · exact .inl rfl
theorem run_new {f : SFloor} {d : Int} {c : List Int} {q : Nat} : ∀ k, g0 (runP f d k c).2 q = g0 c q ∨ g0 (runP f d k c).2 q = d + 1
  | 0 => .inl rfl
  | k + 1 => by
    show g0 (stepP f d (runP f d k c).2 k) q = _ ∨ g0 (stepP f d (runP f d k c).2 k) q = _
    rcases step_new (f := f) (d := d) (c := (runP f d k c).2) (p := k) (q := q) with h | h
    · rw [h]
      exact run_new k
    · exact .inr h
theorem step_other {f : SFloor} {d : Int} {c : List Int} {p q : Nat} (h : p ≠ q) : g0 (stepP f d c p) q = g0 c q := by
  unfold stepP
  cases chgP f d c p with
  | false => rfl
  | true => rw [cond_true, set_get, if_neg (fun x => h x.1)]
theorem run_other {f : SFloor} {d : Int} {c : List Int} {q : Nat} : ∀ k, k ≤ q → g0 (runP f d k c).2 q = g0 c q
  | 0, _ => rfl
  | k + 1, h => by
    show g0 (stepP f d (runP f d k c).2 k) q = _
    rw [step_other (by omega), run_other k (by omega)]
theorem run_hit {f : SFloor} {d : Int} {c : List Int} {p j : Nat} (hd : 0 ≤ d) (hl : c.length = f.Ways.length) (hp : p < f.Ways.length) (hj : j < 4) (h0 : 0 ≤ nextB f p j) (hq : g0 c (nextB f p j).toNat = d) (hn : g0 c p < 0) : ∀ k, p < k → g0 (runP f d k c).2 p = d + 1
  | 0, h => absurd h (Nat.not_lt_zero _)
  | k + 1, h => by
    show g0 (stepP f d (runP f d k c).2 k) p = d + 1
    by_cases e : p = k
    · subst e
      have e1 := run_other (f := f) (d := d) (c := c) (q := p) p (Nat.le_refl _)
      have e2 := keep_run (f := f) (d := d) (c := c) (q := (nextB f p j).toNat) (by omega) p
      have hc : chgP f d (runP f d p c).2 p = true := by
        unfold chgP
        rw [e1, decide_eq_true hn, Bool.true_and, List.any_eq_true]
        refine ⟨j, List.mem_range.2 hj, ?_⟩
        unfold hitP
        rw [e2, hq, decide_eq_true h0]
        simp
      unfold stepP
      rw [hc, cond_true, set_get, if_pos ⟨rfl, by rw [runP_len]; omega⟩]
    · have := run_hit hd hl hp hj h0 hq hn k (by omega)
      rw [keep_step (by omega), this]
def full (f : SFloor) (c : List Int) (d : Int) : Prop := ∀ p, p < f.Ways.length → ∀ j, j < 4 → 0 ≤ nextB f p j → 0 ≤ g0 c (nextB f p j).toNat → g0 c (nextB f p j).toNat < d → 0 ≤ g0 c p ∧ g0 c p ≤ g0 c (nextB f p j).toNat + 1
theorem full_run {f : SFloor} {c : List Int} {d : Int} (hd : 0 ≤ d) (hl : c.length = f.Ways.length) (hu : under c d) (h : full f c d) : full f (runP f d f.Ways.length c).2 (d + 1) := fun p hp j hj h0 h1 h2 => by
  have hq : g0 (runP f d f.Ways.length c).2 (nextB f p j).toNat = g0 c (nextB f p j).toNat := by
    rcases run_new (f := f) (d := d) (c := c) (q := (nextB f p j).toNat) f.Ways.length with e | e
    · exact e
    · omega
  rw [hq] at h1 h2 ⊢
  by_cases e : g0 c (nextB f p j).toNat < d
  · obtain ⟨g1, g2⟩ := h p hp j hj h0 h1 e
    rw [keep_run g1]
    exact ⟨g1, g2⟩
  · by_cases hn : g0 c p < 0
    · rw [run_hit hd hl hp hj h0 (by omega) hn f.Ways.length hp]
      omega
    · rw [keep_run (by omega)]
      have := hu p
      omega
theorem full_lvK {f : SFloor} {c0 : List Int} (hl : c0.length = f.Ways.length) (hu : under c0 0) : ∀ k : Nat, full f (lvK f c0 k) (k : Int)
  | 0 => fun p hp j hj h0 h1 h2 => absurd h1 (by have : ((0 : Nat) : Int) = 0 := rfl; omega)
  | k + 1 => by
    have := full_run (by omega) (by rw [lvK_len]; exact hl) (lvK_under hu k) (full_lvK hl hu k)
    exact this
theorem hops_one {f : SFloor} {goal : Int} (h0 : 0 ≤ goal) (h1 : goal < (f.Ways.length : Int)) {p j : Nat} (hp : p < f.Ways.length) (hj : j < 4) (hn : 0 ≤ nextB f p j) (hq : 0 ≤ g0 (hopsL f goal) (nextB f p j).toNat)
    (hlt : g0 (hopsL f goal) (nextB f p j).toNat < g0 (hopsL f goal) p) : g0 (hopsL f goal) (nextB f p j).toNat = g0 (hopsL f goal) p - 1 := by
  have hu := start_under h0 h1
  have hf := full_lvK (f := f) start_len hu f.Ways.length
  have hm := lvK_under (f := f) hu f.Ways.length p
  have hp2 : g0 (hopsL f goal) p ≤ (f.Ways.length : Int) := hm
  have := hf p hp j hj hn hq (by show g0 (hopsL f goal) _ < _; omega)
  have h3 : g0 (hopsL f goal) p ≤ g0 (hopsL f goal) (nextB f p j).toNat + 1 := this.2
  omega
theorem leadK_mem {f : SFloor} {p : Nat} {q : Int} : ∀ k, q ∈ leadK f p k → ∃ j, j < k ∧ 0 ≤ nextB f p j ∧ nextB f p j = q := fun k h => by
  unfold leadK at h
  rw [List.mem_filter] at h
  obtain ⟨h1, h2⟩ := h
  obtain ⟨j, hj, rfl⟩ := List.mem_map.1 h1
  exact ⟨j, List.mem_range.1 hj, of_decide_eq_true h2, rfl⟩
/-- What a cart wants is a place that is one hop nearer. -/
theorem want_one {f : SFloor} (hO : FlOk f) {c : SCart} (hc : CtOk f c) (hw : 0 ≤ wantB f c) : wantB f c < (f.Ways.length : Int) ∧ (0 ≤ c.Goal ∧ c.Goal < (f.Ways.length : Int)) ∧ g0 (hopsL f c.Goal) (wantB f c).toNat = g0 (hopsL f c.Goal) c.At.toNat - 1 := by
  have h1 := hc.1
  have h2 := hc.2
  unfold wantB at hw ⊢
  by_cases e : c.Goal < 0
  · rw [decide_eq_true e] at hw
    exact absurd (show (0 : Int) ≤ -1 from hw) (by decide)
  · rw [decide_eq_false e, cond_false] at hw ⊢
    by_cases e2 : g0 (hopsL f c.Goal) c.At.toNat ≤ 0
    · rw [decide_eq_true e2] at hw
      exact absurd (show (0 : Int) ≤ -1 from hw) (by decide)
    · rw [decide_eq_false e2, cond_false] at hw ⊢
      unfold firstQ at hw ⊢
      cases hf : (leadK f c.At.toNat 4).find? (lessQ (hopsL f c.Goal) c.At.toNat) with
      | none =>
        rw [hf] at hw
        exact absurd (show (0 : Int) ≤ -1 from hw) (by decide)
      | some q =>
        have hm := List.mem_of_find?_eq_some hf
        have hp := List.find?_some hf
        unfold lessQ at hp
        rw [Bool.and_eq_true] at hp
        obtain ⟨j, hj, hn, rfl⟩ := leadK_mem 4 hm
        have g1 := of_decide_eq_true hp.1
        have g2 := of_decide_eq_true hp.2
        have hr := next_rng hO c.At.toNat j
        exact ⟨by dsimp only; omega, by omega, hops_one (by omega) (by omega) (by omega) hj hn g1 g2⟩
/-! ### At the end none is struck -/
theorem firstS_none {l : List SCart} {w : List Int} (h : firstS l w = none) {i : Nat} (hi : i < l.length) : struckB l w i = false := by
  unfold firstS at h
  rw [List.find?_eq_none] at h
  have := h i (List.mem_range.2 hi)
  simpa using this
theorem posC_zero : ∀ {w : List Int}, posC w = 0 → ∀ i, g0 w i < 0 ∨ w.length ≤ i
  | [], _, i => .inr (Nat.zero_le _)
  | x :: w, h, i => by
    unfold posC at h
    rw [List.filter_cons] at h
    split at h
    · simp at h
    · rename_i hx
      cases i with
      | zero =>
        refine .inl ?_
        have : ¬ 0 ≤ x := fun h => hx (decide_eq_true h)
        show x < 0
        omega
      | succ i =>
        rcases posC_zero (w := w) h i with h1 | h1
        · exact .inl h1
        · exact .inr (Nat.succ_le_succ h1)
theorem runS_end {l : List SCart} : ∀ m {w : List Int}, w.length = l.length → posC w ≤ m → ∀ i, i < l.length → struckB l (runS l m w) i = false
  | 0, w, hl, hm, i, hi => by
    have := posC_zero (show posC w = 0 by omega) i
    show struckB l w i = false
    unfold struckB
    rw [decide_eq_true (show g0 w i < 0 by omega)]
    rfl
  | m + 1, w, hl, hm, i, hi => by
    unfold runS
    cases h : firstS l w with
    | none => exact firstS_none h hi
    | some k =>
      obtain ⟨h1, h2⟩ := firstS_some h
      have := posC_set w k (by omega) h2
      exact runS_end m (by rw [List.length_set]; exact hl) (by omega) i hi
theorem runS_get {l : List SCart} {i : Nat} : ∀ m {w : List Int}, g0 (runS l m w) i = g0 w i ∨ g0 (runS l m w) i = -1
  | 0, w => .inl rfl
  | m + 1, w => by
    unfold runS
    cases h : firstS l w with
    | none => exact .inl rfl
    | some k =>
      dsimp only
      rcases runS_get (l := l) (i := i) m (w := w.set k (-1)) with e | e
      · rw [e, set_get]
        split
        · exact .inr rfl
        · exact .inl rfl
      · exact .inr e
theorem wantsE_len {f : SFloor} {l : List SCart} (h : CsOk f l) : (wantsE f l).length = l.length := (runS_ok l.length (wOk0 h)).len
theorem wantsE_get {f : SFloor} {l : List SCart} {i : Nat} (hi : i < l.length) (h0 : 0 ≤ g0 (wantsE f l) i) : g0 (wantsE f l) i = wantB f (ct l i) := by
  rcases runS_get (l := l) (i := i) l.length (w := wants0 f l l.length) with e | e
  · have : g0 (wantsE f l) i = g0 (wants0 f l l.length) i := e
    rw [this, wants0_get f l hi]
  · have : g0 (wantsE f l) i = -1 := e
    omega
theorem not_struck {f : SFloor} {l : List SCart} (h : CsOk f l) {i : Nat} (hi : i < l.length) (h0 : 0 ≤ g0 (wantsE f l) i) {k : Nat} (hk : k < l.length) : (k < i → g0 (wantsE f l) k ≠ g0 (wantsE f l) i) ∧ ((ct l k).At = g0 (wantsE f l) i → 0 ≤ g0 (wantsE f l) k ∧ g0 (wantsE f l) k ≠ (ct l i).At) := by
  have h1 := runS_end (l := l) l.length (w := wants0 f l l.length) (wants0_len f l l.length) (by have := posC_le (wants0 f l l.length); rw [wants0_len] at this; exact this) i hi
  have h1 : struckB l (wantsE f l) i = false := h1
  unfold struckB at h1
  rw [decide_eq_false (show ¬ g0 (wantsE f l) i < 0 by omega), Bool.not_false, Bool.true_and, List.any_eq_false] at h1
  have h2 := h1 k (List.mem_range.2 hk)
  have h2 : hitS l (wantsE f l) i k = false := by simpa using h2
  unfold hitS metB at h2
  rw [Bool.or_eq_false_iff, Bool.and_eq_false_iff, Bool.and_eq_false_iff, Bool.or_eq_false_iff] at h2
  simp only [decide_eq_false_iff_not] at h2
  refine ⟨fun hki e => ?_, fun e => ?_⟩
  · rcases h2.1 with g | g
    · exact g (by omega)
    · exact g e
  · rcases h2.2 with g | g
    · exact absurd e g
    · exact ⟨by omega, g.2⟩
/-! ### A round -/
def atE (f : SFloor) (l : List SCart) (i : Nat) : Int := bif decide (g0 (wantsE f l) i ≥ 0) then g0 (wantsE f l) i else (ct l i).At
theorem goK_get (l : List SCart) (w : List Int) : ∀ k, k ≤ l.length → ∀ i, (goK l w k).1.getD i dSCart = bif decide (i < k) && decide (g0 w i ≥ 0) then ⟨g0 w i, (l.getD i dSCart).Goal⟩ else l.getD i dSCart
  | 0, _, i => by
    rw [decide_eq_false (Nat.not_lt_zero i)]
    rfl
  | k + 1, hk, i => by
    have ih := goK_get l w k (by omega)
    have hl := (goK_len l w k).1
    unfold goK
    by_cases hw : g0 w k ≥ 0
    · rw [decide_eq_true hw, cond_true]
      by_cases e : i = k
      · subst e
        rw [decide_eq_true (show i < i + 1 by omega), decide_eq_true hw, getD_set (by omega), ih i, decide_eq_false (Nat.lt_irrefl i)]
        rfl
      · dsimp only
        rw [getD_set_ne e, ih i]
        by_cases hik : i < k
        · rw [decide_eq_true hik, decide_eq_true (show i < k + 1 by omega)]
        · rw [decide_eq_false hik, decide_eq_false (show ¬ i < k + 1 by omega)]
    · rw [decide_eq_false hw, cond_false, ih i]
      by_cases e : i = k
      · subst e
        rw [decide_eq_false (Nat.lt_irrefl i), decide_eq_true (show i < i + 1 by omega), decide_eq_false hw]
        rfl
      · by_cases hik : i < k
        · rw [decide_eq_true hik, decide_eq_true (show i < k + 1 by omega)]
        · rw [decide_eq_false hik, decide_eq_false (show ¬ i < k + 1 by omega)]
theorem goK_moved (l : List SCart) (w : List Int) : ∀ k (i : Nat), ((i : Int) ∈ (goK l w k).2 ↔ i < k ∧ 0 ≤ g0 w i)
  | 0, i => ⟨(fun h => by cases h), fun h => absurd h.1 (Nat.not_lt_zero _)⟩
  | k + 1, i => by
    have ih := goK_moved l w k i
    unfold goK
    by_cases hw : g0 w k ≥ 0
    · rw [decide_eq_true hw, cond_true, List.mem_append, List.mem_singleton, ih]
      constructor
      · rintro (⟨h1, h2⟩ | h)
        · exact ⟨by omega, h2⟩
        · have : i = k := by omega
          subst this
          exact ⟨by omega, hw⟩
      · rintro ⟨h1, h2⟩
        by_cases e : i = k
        · exact .inr (by omega)
        · exact .inl ⟨by omega, h2⟩
    · rw [decide_eq_false hw, cond_false, ih]
      constructor
      · rintro ⟨h1, h2⟩
        exact ⟨by omega, h2⟩
      · rintro ⟨h1, h2⟩
        refine ⟨?_, h2⟩
        by_cases e : i = k
        · subst e
          omega
        · omega
structure Rnd (f : SFloor) (l l' : List SCart) (mv : List Int) : Prop where
  len : l'.length = l.length
  ok : cartsB f l' = true
  mov : ∀ i, i < l.length → ((i : Int) ∈ mv ↔ (ct l i).At ≠ (ct l' i).At)
  hops : ∀ i, i < l.length → (ct l i).At ≠ (ct l' i).At → (0 ≤ (ct l i).Goal ∧ (ct l i).Goal < (f.Ways.length : Int)) ∧ g0 (hopsL f (ct l i).Goal) (ct l' i).At.toNat = g0 (hopsL f (ct l i).Goal) (ct l i).At.toNat - 1
  swap : ∀ i k, i < l.length → k < l.length → (ct l i).At = (ct l' k).At → (ct l k).At = (ct l' i).At → (ct l i).At = (ct l' i).At
theorem apart_iff {l : List SCart} {i : Nat} : apart l i = true ↔ ∀ k, k < i → (ct l k).At ≠ (ct l i).At := by
  unfold apart
  rw [all_iffR]
  constructor
  · intro h k hk
    have := h k hk
    simpa using this
  · intro h k hk
    have := h k hk
    simpa using this
theorem carts_apart {f : SFloor} {l : List SCart} (h : cartsB f l = true) {i k : Nat} (hi : i < l.length) (hk : k < l.length) (hne : i ≠ k) : (ct l i).At ≠ (ct l k).At := by
  unfold cartsB at h
  rw [Bool.and_eq_true, Bool.and_eq_true] at h
  have ha := fun i hi => apart_iff.1 (by
    have h1 := all_iffR.1 h.2.2 i hi
    unfold cartB at h1
    rw [Bool.and_eq_true, Bool.and_eq_true] at h1
    exact h1.2.2)
  rcases Nat.lt_or_gt_of_ne hne with h1 | h1
  · exact ha k hk i h1
  · exact fun e => ha i hi k h1 e.symm
theorem round_rnd {f : SFloor} {l : List SCart} (h : cartsB f l = true) : Rnd f l (roundB f l).1 (roundB f l).2.1 := by
  have hC := csOk h
  have hO := flOk hC.fl
  have hr : roundB f l = ((goK l (wantsE f l) l.length).1, (goK l (wantsE f l) l.length).2, true) := by
    unfold roundB
    rw [h]
    rfl
  rw [hr]
  dsimp only
  have hlen := (goK_len l (wantsE f l) l.length).1
  have hget : ∀ i, i < l.length → ct (goK l (wantsE f l) l.length).1 i = ⟨atE f l i, (ct l i).Goal⟩ := fun i hi => by
    show (goK l (wantsE f l) l.length).1.getD i dSCart = _
    rw [goK_get l _ l.length (Nat.le_refl _) i, decide_eq_true hi, Bool.true_and]
    unfold atE
    cases decide (g0 (wantsE f l) i ≥ 0) <;> rfl
  have hmv : ∀ i, i < l.length → 0 ≤ g0 (wantsE f l) i → atE f l i = g0 (wantsE f l) i ∧ atE f l i ≠ (ct l i).At ∧ atE f l i < (f.Ways.length : Int) ∧ (0 ≤ (ct l i).Goal ∧ (ct l i).Goal < (f.Ways.length : Int)) ∧ g0 (hopsL f (ct l i).Goal) (atE f l i).toNat = g0 (hopsL f (ct l i).Goal) (ct l i).At.toNat - 1 := fun i hi h0 => by
    have e1 := wantsE_get hi h0
    have e2 := want_one hO (hC.each i hi) (by rw [← e1]; exact h0)
    have e3 : atE f l i = g0 (wantsE f l) i := by
      unfold atE
      rw [decide_eq_true h0]
      rfl
    have e4 := wantB_spec hO (hC.each i hi)
    rw [e3, e1]
    exact ⟨rfl, by omega, e2⟩
  have hst : ∀ i, i < l.length → g0 (wantsE f l) i < 0 → atE f l i = (ct l i).At := fun i hi h0 => by
    unfold atE
    rw [decide_eq_false (by omega)]
    rfl
  have hap : ∀ i k, i < l.length → k < i → atE f l k ≠ atE f l i := fun i k hi hk e => by
    by_cases w1 : 0 ≤ g0 (wantsE f l) i
    · have m1 := (hmv i hi w1).1
      have n1 := not_struck hC hi w1 (show k < l.length by omega)
      by_cases w2 : 0 ≤ g0 (wantsE f l) k
      · have m2 := (hmv k (by omega) w2).1
        exact n1.1 hk (by omega)
      · have m2 := hst k (by omega) (by omega)
        have := n1.2 (by omega)
        omega
    · have m1 := hst i hi (by omega)
      by_cases w2 : 0 ≤ g0 (wantsE f l) k
      · have m2 := (hmv k (by omega) w2).1
        have := (not_struck hC (show k < l.length by omega) w2 hi).2 (by omega)
        omega
      · have m2 := hst k (by omega) (by omega)
        exact carts_apart h (show k < l.length by omega) hi (by omega) (by omega)
  refine ⟨hlen, ?_, fun i hi => ?_, fun i hi hne => ?_, fun i k hi hk e1 e2 => ?_⟩
  · unfold cartsB
    rw [hC.fl, Bool.true_and, hlen, decide_eq_true hC.len, Bool.true_and, all_iffR]
    intro i hi
    have hc := hC.each i hi
    have c1 := hc.1
    have c2 := hc.2
    unfold cartB placeB
    rw [hget i hi]
    dsimp only
    rw [Bool.and_eq_true, Bool.and_eq_true]
    refine ⟨decide_eq_true ?_, decide_eq_true (by omega), apart_iff.2 fun k hk => ?_⟩
    · by_cases w1 : 0 ≤ g0 (wantsE f l) i
      · have m1 := hmv i hi w1
        omega
      · have m1 := hst i hi (by omega)
        omega
    · rw [hget i hi, hget k (by omega)]
      exact hap i k hi hk
  · rw [goK_moved, hget i hi]
    dsimp only
    by_cases w1 : 0 ≤ g0 (wantsE f l) i
    · have m1 := hmv i hi w1
      exact ⟨fun _ e => m1.2.1 e.symm, fun _ => ⟨hi, w1⟩⟩
    · have m1 := hst i hi (by omega)
      exact ⟨fun g => absurd g.2 w1, fun g => absurd m1.symm g⟩
  · rw [hget i hi] at hne ⊢
    dsimp only at hne ⊢
    by_cases w1 : 0 ≤ g0 (wantsE f l) i
    · exact (hmv i hi w1).2.2.2
    · exact absurd (hst i hi (by omega)).symm hne
  · rw [hget i hi] at e2 ⊢
    rw [hget k hk] at e1
    dsimp only at e1 e2 ⊢
    by_cases w1 : 0 ≤ g0 (wantsE f l) i
    · have m1 := hmv i hi w1
      have n1 := (not_struck hC hi w1 hk).2 (by omega)
      have m2 := hmv k hk n1.1
      omega
    · exact (hst i hi (by omega)).symm
theorem step_lo {f : SFloor} {d : Int} {c : List Int} {p q : Nat} (hd : 0 ≤ d) (h : -1 ≤ g0 c q) : -1 ≤ g0 (stepP f d c p) q := by
  rcases step_new (f := f) (d := d) (c := c) (p := p) (q := q) with e | e <;> omega
theorem run_lo {f : SFloor} {d : Int} {c : List Int} {q : Nat} (hd : 0 ≤ d) (h : -1 ≤ g0 c q) : ∀ k, -1 ≤ g0 (runP f d k c).2 q
  | 0 => h
  | k + 1 => step_lo hd (run_lo hd h k)
theorem lv_lo {f : SFloor} {c : List Int} {q : Nat} (h : -1 ≤ g0 c q) : ∀ k, -1 ≤ g0 (lvK f c k) q
  | 0 => h
  | k + 1 => run_lo (by omega) (lv_lo h k) _
theorem hops_lo (f : SFloor) (goal : Int) (q : Nat) : -1 ≤ (hopsL f goal).getD q 0 := by
  refine lv_lo (f := f) (q := q) ?_ f.Ways.length
  unfold start
  rw [set_get]
  split
  · omega
  · show -1 ≤ (iniK f.Ways.length f.Ways.length).getD q 0
    unfold iniK
    rw [Nat.sub_self, List.replicate_zero, List.append_nil]
    by_cases h : q < f.Ways.length
    · rw [getD_eq (by rw [List.length_replicate]; exact h), List.getElem_replicate]
      omega
    · rw [List.getD_eq_getElem?_getD, List.getElem?_eq_none (by rw [List.length_replicate]; omega)]
      decide
end Go.Sm
end

section
set_option linter.unusedSimpArgs false
set_option linter.deprecated false
set_option linter.unusedSectionVars false
set_option linter.unusedVariables false
set_option linter.unusedSimpArgs false
namespace Go.Sm
attribute [local irreducible] bd chk ix loopN
/-! ### Draws -/
structure CurOk (c : Sl1Cur) : Prop where
  i : 0 ≤ c.i ∧ c.i ≤ (c.b.length : Int)
  len : c.b.length ≤ 1048576
theorem and255 (v : Int) : 0 ≤ w64 (((BitVec.ofInt 64 v &&& BitVec.ofInt 64 (255 : Int)).toNat : Nat) : Int) ∧ w64 (((BitVec.ofInt 64 v &&& BitVec.ofInt 64 (255 : Int)).toNat : Nat) : Int) ≤ 255 := by
  have h : (BitVec.ofInt 64 v &&& BitVec.ofInt 64 (255 : Int)).toNat ≤ 255 := by
    rw [BitVec.toNat_and]
    exact Nat.and_le_right
  rw [w64_id (by omega) (by omega)]
  omega
theorem byte_ok {n : Nat} {c : Sl1Cur} (h : CurOk c) : ∃ v c', spec_l1Byte n c = some (v, c') ∧ (0 ≤ v ∧ v ≤ 255) ∧ CurOk c' := by
  have h1 := h.i
  have h2 := h.len
  unfold spec_l1Byte
  simp only [bd_eq]
  by_cases hc : c.i < (c.b.length : Int)
  · rw [decide_eq_true hc, cond_true, ix_of h1.1 hc]
    refine ⟨_, _, rfl, and255 _, ⟨?_, h2⟩⟩
    show 0 ≤ w64 (c.i + 1) ∧ w64 (c.i + 1) ≤ (c.b.length : Int)
    rw [w64_id (by omega) (by omega)]
    omega
  · rw [decide_eq_false hc, cond_false]
    exact ⟨_, _, rfl, and255 _, ⟨h1, h2⟩⟩
theorem below_ok {n : Nat} {c : Sl1Cur} (h : CurOk c) {m : Int} (hm : 1 ≤ m ∧ m ≤ 256) : ∃ v c', spec_l1Below n c m = some (v, c') ∧ (0 ≤ v ∧ v < m) ∧ CurOk c' := by
  obtain ⟨v, c', h1, h2, h3⟩ := byte_ok (n := n) h
  unfold spec_l1Below
  rw [decide_eq_false (show ¬ m ≤ 0 by omega), cond_false, decide_eq_true (show m ≤ 256 by omega), cond_true, h1, Option.bind_some, decide_eq_false (show ¬ m = 0 by omega), cond_false]
  exact ⟨_, _, rfl, ⟨Int.tmod_nonneg _ h2.1, Int.tmod_lt_of_pos _ (by omega)⟩, h3⟩
theorem new_ok {n : Nat} (code : List Int) (hc : code.length ≤ 1048576) (hn : 1000000000 < n) : ∃ c, spec_l1New n code = some c ∧ CurOk c := by
  have hw : w64 ((59059 : Int) + (code.length : Int)) = 59059 + (code.length : Int) := w64_id (by omega) (by omega)
  unfold spec_l1New
  rw [bd_eq]
  have key : ∀ m k h fu, k + m = code.length → m < fu → ∃ c, loopN (fun (x : Int × Int) J' => spec_l1New_L3 n (fun h16 => some ((⟨code, (0 : Int), h16⟩ : Sl1Cur))) (fun h17 i18 => J' (h17, i18)) code x.1 x.2) fu (h, (k : Int)) = some c ∧ CurOk c := by
    intro m
    induction m with
    | zero =>
      intro k h fu hk hfu
      obtain ⟨f, rfl⟩ : ∃ f, fu = f + 1 := ⟨fu - 1, by omega⟩
      rw [loopN_succ]
      refine ⟨⟨code, 0, h⟩, ?_, ⟨by show (0 : Int) ≤ 0 ∧ (0 : Int) ≤ (code.length : Int); omega, hc⟩⟩
      show spec_l1New_L3 n _ _ code h (k : Int) = _
      unfold spec_l1New_L3
      rw [decide_eq_false (by omega), cond_false]
    | succ m ih =>
      intro k h fu hk hfu
      obtain ⟨f, rfl⟩ : ∃ f, fu = f + 1 := ⟨fu - 1, by omega⟩
      rw [loopN_succ]
      have hstep : ∀ J : Int → Int → Option Sl1Cur, ∃ h', spec_l1New_L3 n (fun h16 => some ((⟨code, (0 : Int), h16⟩ : Sl1Cur))) J code h (k : Int) = J h' ((k + 1 : Nat) : Int) ∨ spec_l1New_L3 n (fun h16 => some ((⟨code, (0 : Int), h16⟩ : Sl1Cur))) J code h (k : Int) = some ⟨code, 0, h⟩ := by
        intro J
        unfold spec_l1New_L3 spec_l1New_k0
        rw [decide_eq_true (show (k : Int) < (code.length : Int) by omega), cond_true]
        cases decide ((k : Int) < 4000) with
        | true =>
          rw [cond_true, ix_nat (by omega), bd_eq, bd_eq, w64_succ (show k < 9223372036854775807 by omega)]
          exact ⟨_, .inl rfl⟩
        | false => exact ⟨0, .inr rfl⟩
      obtain ⟨h', e | e⟩ := hstep (fun h17 i18 => loopN (fun (x : Int × Int) J' => spec_l1New_L3 n (fun h16 => some ((⟨code, (0 : Int), h16⟩ : Sl1Cur))) (fun h17 i18 => J' (h17, i18)) code x.1 x.2) f (h17, i18))
      · obtain ⟨c, g1, g2⟩ := ih (k + 1) h' f (by omega) (by omega)
        exact ⟨c, e.trans g1, g2⟩
      · exact ⟨⟨code, 0, h⟩, e, ⟨by show (0 : Int) ≤ 0 ∧ (0 : Int) ≤ (code.length : Int); omega, hc⟩⟩
  exact key code.length 0 _ n (by omega) (by omega)
/-! ### A drawn floor, with carts -/
theorem way_cond {R : Type} {J : Int → List Int → Option R} {x : Int} {c : List Int} {v : Int} (hx : 0 ≤ x ∧ x ≤ 100) (hc : c.length ≤ 1000) : chk (decide ((c ++ [v]).length * 8 ≤ 140737488355328)) (J (w64 (x + 1)) (c ++ [v])) = J (x + 1) (c ++ [v]) := by
  rw [chk_dec (by rw [List.length_append, List.length_singleton]; omega), w64_id (by omega) (by omega)]
theorem oneWay_step {R : Type} {n : Nat} (kx : List Int → Option R) (J : Int → List Int → Option R) {wide high y x : Int} (t1 t2 : Int) (c0 : List Int) (f1 f2 : Int) {c : List Int} (hx : 0 ≤ x ∧ x < wide) (hw : wide ≤ 100) (hc : c.length ≤ 1000) :
    ∃ v, (0 ≤ v ∧ v ≤ 15) ∧ spec_OneWay_L8 n kx J wide high y x t1 t2 c0 f1 f2 c = J (x + 1) (c ++ [v]) := by
  unfold spec_OneWay_L8 spec_OneWay_k4 spec_OneWay_k3 spec_OneWay_k2 spec_OneWay_k1 spec_OneWay_k0
  simp only [bd_eq, way_cond (J := J) (c := c) (x := x) (by omega) hc]
  rw [decide_eq_true hx.2, cond_true]
  cases decide (y = 0) <;> cases decide (x < w64 (wide - 1)) <;> cases decide (x = w64 (wide - 1)) <;> cases decide (y < w64 (high - 1)) <;> cases decide (y = w64 (high - 1)) <;> cases decide (x > 0) <;> cases decide (x = 0) <;>
    first | exact ⟨1, by omega, rfl⟩ | exact ⟨2, by omega, rfl⟩ | exact ⟨4, by omega, rfl⟩ | exact ⟨8, by omega, rfl⟩ | exact ⟨15, by omega, rfl⟩
def WayIn (c : List Int) (m : Nat) : Prop := c.length = m ∧ ∀ v ∈ c, 0 ≤ v ∧ v ≤ 15
theorem wayIn_snoc {c : List Int} {m : Nat} {v : Int} (h : WayIn c m) (hv : 0 ≤ v ∧ v ≤ 15) : WayIn (c ++ [v]) (m + 1) := by
  refine ⟨by rw [List.length_append, List.length_singleton, h.1], fun y hy => ?_⟩
  rcases List.mem_append.1 hy with h1 | h1
  · exact h.2 y h1
  · rw [List.mem_singleton.1 h1]
    exact hv
theorem oneWay_ok {n : Nat} {w h : Nat} (hw : 2 ≤ w ∧ w ≤ 5) (hh : 2 ≤ h ∧ h ≤ 5) (hn : 1000000000 < n) : ∃ W, spec_OneWay n (w : Int) (h : Int) = some (⟨(w : Int), (h : Int), W⟩, true) ∧ WayIn W (h * w) := by
  unfold spec_OneWay
  rw [in_spec, Option.bind_some, decide_eq_true (by omega), Bool.not_true, cond_false, in_spec, Option.bind_some, decide_eq_true (by omega), Bool.not_true]
  unfold spec_OneWay_k5
  rw [cond_false]
  refine loopN_ind (fun (x : Int × List Int) => h - x.1.toNat) (fun x => ∃ k : Nat, k ≤ h ∧ x.1 = (k : Int) ∧ WayIn x.2 (k * w)) (fun (x : Int × List Int) (r : Option (SFloor × Bool)) => ∃ W, r = some (⟨(w : Int), (h : Int), W⟩, true) ∧ WayIn W (h * w)) ?_ n _ ⟨0, by omega, rfl, by rw [Nat.zero_mul]; rfl, fun v hv => by cases hv⟩ (by dsimp only; omega)
  rintro ⟨_, c⟩ J ⟨k, hk, rfl, hc⟩ ih
  dsimp only at hc ⊢
  unfold spec_OneWay_L5
  by_cases hlt : k < h
  · rw [decide_eq_true (show (k : Int) < (h : Int) by omega), cond_true]
    refine loopN_ind (fun (x : Int × List Int) => w - x.1.toNat) (fun x => ∃ j : Nat, j ≤ w ∧ x.1 = (j : Int) ∧ WayIn x.2 (k * w + j)) (fun (x : Int × List Int) (r : Option (SFloor × Bool)) => ∃ W, r = some (⟨(w : Int), (h : Int), W⟩, true) ∧ WayIn W (h * w)) ?_ n _ ⟨0, by omega, rfl, hc⟩ (by dsimp only; omega)
    rintro ⟨_, c2⟩ J2 ⟨j, hj, rfl, hc2⟩ ih2
    dsimp only at hc2 ⊢
    have hkw : k * w ≤ 5 * 5 := Nat.mul_le_mul (by omega) (by omega)
    by_cases hjlt : j < w
    · obtain ⟨v, hv, e⟩ := oneWay_step (n := n) (fun c118 => J (w64 ((k : Int) + 1), c118)) (fun x119 c120 => J2 (x119, c120)) (wide := (w : Int)) (high := (h : Int)) (y := (k : Int)) (x := (j : Int)) 0 0 [] (w : Int) (h : Int) (c := c2) (by omega) (by omega) (by rw [hc2.1]; omega)
      rw [e]
      exact ih2 _ ⟨j + 1, hjlt, rfl, wayIn_snoc hc2 hv⟩ (by dsimp only; omega)
    · have : j = w := by omega
      subst this
      unfold spec_OneWay_L8
      rw [decide_eq_false (Int.lt_irrefl _), cond_false, w64_succ (by omega)]
      refine ih _ ⟨k + 1, hlt, rfl, ?_⟩ (by dsimp only; omega)
      rw [Nat.succ_mul]
      exact hc2
  · have : k = h := by omega
    subst this
    rw [decide_eq_false (Int.lt_irrefl _), cond_false]
    exact ⟨c, rfl, hc⟩
theorem floor_of {w h : Nat} {W : List Int} (hw : 1 ≤ w ∧ w ≤ 10) (hh : 1 ≤ h ∧ h ≤ 10) (hW : WayIn W (h * w)) : floorB ⟨(w : Int), (h : Int), W⟩ = true := by
  have hm : h * w ≤ 10 * 10 := Nat.mul_le_mul hh.2 hw.2
  unfold floorB
  simp only [Bool.and_eq_true, decide_eq_true_eq]
  refine ⟨by omega, by omega, ?_, all_iffR.2 fun k hk => ?_⟩
  · rw [show (w : Int) * (h : Int) = ((h * w : Nat) : Int) from by rw [Int.natCast_mul, Int.mul_comm], w64_id (by omega) (by omega), hW.1]
  · unfold wayB
    exact decide_eq_true (hW.2 _ (getD_mem hk))
theorem draw_floor {n : Nat} {c : Sl1Cur} (hc : CurOk c) (hn : 1000000000 < n) : ∃ f c', spec_l19Draw n c = some (f, c') ∧ (floorB f = true ∧ 1 ≤ f.Ways.length ∧ f.Ways.length ≤ 25) ∧ CurOk c' := by
  obtain ⟨v1, c1, e1, a1, q1⟩ := below_ok (n := n) hc (m := 4) (by omega)
  obtain ⟨v2, c2, e2, a2, q2⟩ := below_ok (n := n) q1 (m := 4) (by omega)
  obtain ⟨v3, c3, e3, a3, q3⟩ := below_ok (n := n) q2 (m := 2) (by omega)
  obtain ⟨w, hw⟩ : ∃ w : Nat, 2 + v1 = (w : Int) := ⟨(2 + v1).toNat, by omega⟩
  obtain ⟨h, hh⟩ : ∃ h : Nat, 2 + v2 = (h : Int) := ⟨(2 + v2).toNat, by omega⟩
  obtain ⟨W, e4, hW⟩ := oneWay_ok (n := n) (w := w) (h := h) (by omega) (by omega) hn
  unfold spec_l19Draw spec_l1Once
  rw [e1, Option.bind_some]
  dsimp only
  rw [e2, Option.bind_some, w64_id (x := 2 + v1) (by omega) (by omega), w64_id (x := 2 + v2) (by omega) (by omega), hw, hh, e4, Option.bind_some]
  dsimp only
  rw [e3, Option.bind_some, Option.bind_some]
  dsimp only
  cases decide (v3 = 0) with
  | false =>
    have h1 : h * w ≤ 5 * 5 := Nat.mul_le_mul (by omega) (by omega)
    have h2 : 0 < h * w := Nat.mul_pos (by omega) (by omega)
    exact ⟨_, _, rfl, ⟨floor_of (by omega) (by omega) hW, by show 1 ≤ W.length; rw [hW.1]; omega, by show W.length ≤ 25; rw [hW.1]; omega⟩, q3⟩
  | true =>
    rw [cond_true]
    obtain ⟨v5, c5, e5, a5, q5⟩ := below_ok (n := n) q3 (m := 5) (by omega)
    obtain ⟨v6, c6, e6, a6, q6⟩ := below_ok (n := n) q5 (m := 5) (by omega)
    rw [e5, Option.bind_some]
    dsimp only
    obtain ⟨w2, hw2⟩ : ∃ w : Nat, 1 + v5 = (w : Int) := ⟨(1 + v5).toNat, by omega⟩
    obtain ⟨h2, hh2⟩ : ∃ h : Nat, 1 + v6 = (h : Int) := ⟨(1 + v6).toNat, by omega⟩
    rw [e6, Option.bind_some, w64_id (x := 1 + v5) (by omega) (by omega), w64_id (x := 1 + v6) (by omega) (by omega), hw2, hh2]
    have g1 : h2 * w2 ≤ 5 * 5 := Nat.mul_le_mul (by omega) (by omega)
    have g2 : 0 < h2 * w2 := Nat.mul_pos (by omega) (by omega)
    have g3 : w64 ((w2 : Int) * (h2 : Int)) = ((h2 * w2 : Nat) : Int) := by
      rw [show (w2 : Int) * (h2 : Int) = ((h2 * w2 : Nat) : Int) from by rw [Int.natCast_mul, Int.mul_comm], w64_id (by omega) (by omega)]
    refine loopN_ind (fun (x : Int × Sl1Cur × List Int) => h2 * w2 - x.1.toNat) (fun x => ∃ k : Nat, k ≤ h2 * w2 ∧ x.1 = (k : Int) ∧ CurOk x.2.1 ∧ WayIn x.2.2 k) (fun (x : Int × Sl1Cur × List Int) (r : Option (SFloor × Sl1Cur)) => ∃ f c', r = some (f, c') ∧ (floorB f = true ∧ 1 ≤ f.Ways.length ∧ f.Ways.length ≤ 25) ∧ CurOk c') ?_ n _
      ⟨0, by omega, rfl, q6, rfl, fun v hv => by cases hv⟩ (by dsimp only; omega)
    rintro ⟨_, p, W2⟩ J ⟨k, hk, rfl, hp, hW2⟩ ih
    dsimp only at hp hW2 ⊢
    unfold spec_l19Draw_L7
    rw [g3]
    by_cases hlt : k < h2 * w2
    · obtain ⟨v7, c7, e7, a7, q7⟩ := below_ok (n := n) hp (m := 16) (by omega)
      rw [decide_eq_true (by omega), cond_true, e7, Option.bind_some]
      dsimp only
      rw [chk_dec (by rw [List.length_append, List.length_singleton, hW2.1]; omega), w64_succ (by omega)]
      exact ih _ ⟨k + 1, hlt, rfl, q7, wayIn_snoc hW2 (by omega)⟩ (by dsimp only; omega)
    · have : k = h2 * w2 := by omega
      subst this
      rw [decide_eq_false (Int.lt_irrefl _), cond_false]
      exact ⟨_, _, rfl, ⟨floor_of (by omega) (by omega) hW2, by show 1 ≤ W2.length; rw [hW2.1]; omega, by show W2.length ≤ 25; rw [hW2.1]; omega⟩, hp⟩
theorem carts_snoc {f : SFloor} {l : List SCart} {c : SCart} (h : cartsB f l = true) (hl : l.length ≤ 11) (hc : (0 ≤ c.At ∧ c.At < (f.Ways.length : Int)) ∧ (-1 ≤ c.Goal ∧ c.Goal < (f.Ways.length : Int))) (hn : ∀ k, k < l.length → (ct l k).At ≠ c.At) : cartsB f (l ++ [c]) = true := by
  unfold cartsB at h ⊢
  rw [Bool.and_eq_true, Bool.and_eq_true] at h ⊢
  refine ⟨h.1, decide_eq_true (by rw [List.length_append, List.length_singleton]; omega), all_iffR.2 fun i hi => ?_⟩
  rw [List.length_append, List.length_singleton] at hi
  have hold : ∀ k, k < l.length → ct (l ++ [c]) k = ct l k := fun k hk => by
    show (l ++ [c]).getD k dSCart = l.getD k dSCart
    rw [getD_eq hk, getD_eq (by rw [List.length_append, List.length_singleton]; omega), List.getElem_append_left hk]
  have hnew : ct (l ++ [c]) l.length = c := by
    show (l ++ [c]).getD l.length dSCart = c
    rw [getD_eq (by rw [List.length_append, List.length_singleton]; omega), List.getElem_append_right (Nat.le_refl _)]
    simp
  by_cases e : i < l.length
  · have h1 := all_iffR.1 h.2.2 i e
    unfold cartB at h1 ⊢
    rw [Bool.and_eq_true, Bool.and_eq_true] at h1 ⊢
    rw [hold i e]
    refine ⟨h1.1, h1.2.1, apart_iff.2 fun k hk => ?_⟩
    rw [hold i e, hold k (by omega)]
    exact apart_iff.1 h1.2.2 k hk
  · have : i = l.length := by omega
    subst this
    unfold cartB placeB
    rw [Bool.and_eq_true, Bool.and_eq_true, hnew]
    refine ⟨decide_eq_true (by omega), decide_eq_true (by omega), apart_iff.2 fun k hk => ?_⟩
    rw [hnew, hold k hk]
    exact hn k hk
theorem draw_carts {n : Nat} {c : Sl1Cur} (hc : CurOk c) {f : SFloor} (hf : floorB f = true) (hw : 1 ≤ f.Ways.length ∧ f.Ways.length ≤ 25) (hn : 1000000000 < n) : ∃ l c', spec_l19DrawCarts n c f = some (l, c') ∧ cartsB f l = true := by
  obtain ⟨v1, c1, e1, a1, q1⟩ := below_ok (n := n) hc (m := 8) (by omega)
  unfold spec_l19DrawCarts
  rw [e1, Option.bind_some]
  refine loopN_ind (fun (x : Int × Sl1Cur × List SCart) => x.1.toNat) (fun x => ∃ k : Nat, x.1 = (k : Int) ∧ CurOk x.2.1 ∧ x.2.2.length + k ≤ 8 ∧ cartsB f x.2.2 = true) (fun (x : Int × Sl1Cur × List SCart) (r : Option (List SCart × Sl1Cur)) => ∃ l c', r = some (l, c') ∧ cartsB f l = true) ?_ n _
    ⟨v1.toNat, by dsimp only; omega, q1, by dsimp only; rw [List.length_nil]; omega, by unfold cartsB; rw [hf]; rfl⟩ (by dsimp only; omega)
  rintro ⟨_, p, l⟩ J ⟨k, rfl, hp, hl, hl2⟩ ih
  dsimp only at hp hl hl2 ⊢
  unfold spec_l19DrawCarts_L3
  cases k with
  | zero =>
    rw [decide_eq_false (by omega), cond_false]
    exact ⟨_, _, rfl, hl2⟩
  | succ k =>
    rw [decide_eq_true (by omega), cond_true]
    unfold spec_l19DrawCarts_k0
    obtain ⟨v2, c2, e2, a2, q2⟩ := below_ok (n := n) hp (m := (f.Ways.length : Int)) (by omega)
    obtain ⟨v3, c3, e3, a3, q3⟩ := below_ok (n := n) q2 (m := (f.Ways.length : Int) + 1) (by omega)
    rw [e2, Option.bind_some, bd_eq, w64_id (x := (f.Ways.length : Int) + 1) (by omega) (by omega)]
    dsimp only
    rw [e3, Option.bind_some, bd_eq, w64_id (x := v3 - 1) (by omega) (by omega), show w64 (((k + 1 : Nat) : Int) - 1) = (k : Int) from by rw [w64_id (by omega) (by omega)]; omega]
    refine loopN_ind (fun (x : Bool × Int) => l.length - x.2.toNat) (fun x => ∃ m : Nat, m ≤ l.length ∧ x.2 = (m : Int) ∧ (x.1 = true → ∀ j, j < m → (ct l j).At ≠ v2)) (fun (x : Bool × Int) (r : Option (List SCart × Sl1Cur)) => ∃ l c', r = some (l, c') ∧ cartsB f l = true) ?_ n _
      ⟨0, by omega, rfl, fun _ j hj => absurd hj (Nat.not_lt_zero _)⟩ (by dsimp only; omega)
    rintro ⟨fr, _⟩ J2 ⟨m, hm, rfl, hfr⟩ ih2
    dsimp only at hfr ⊢
    unfold spec_l19DrawCarts_L8
    by_cases hlt : m < l.length
    · rw [decide_eq_true (show (m : Int) < (l.length : Int) by omega), cond_true, w64_succ (by omega)]
      cases fr with
      | false =>
        rw [cond_false]
        exact ih2 _ ⟨m + 1, hlt, rfl, fun h => by cases h⟩ (by dsimp only; omega)
      | true =>
        rw [cond_true, ix_nat hlt, Int.toNat_natCast, chk_dec hlt]
        refine ih2 _ ⟨m + 1, hlt, rfl, fun h j hj => ?_⟩ (by dsimp only; omega)
        by_cases e : j = m
        · rw [e]
          dsimp only at h
          rw [Bool.not_eq_true', decide_eq_false_iff_not] at h
          exact h
        · exact hfr rfl j (by omega)
    · have : m = l.length := by omega
      subst this
      rw [decide_eq_false (Int.lt_irrefl _), cond_false]
      dsimp only
      cases fr with
      | false =>
        rw [cond_false]
        exact ih _ ⟨k, rfl, q3, by dsimp only; omega, hl2⟩ (by dsimp only; omega)
      | true =>
        rw [cond_true, bd_eq, chk_dec (by rw [List.length_append, List.length_singleton]; omega)]
        exact ih _ ⟨k, rfl, q3, by dsimp only; rw [List.length_append, List.length_singleton]; omega, carts_snoc hl2 (by omega) (by dsimp only; omega) (hfr rfl)⟩ (by dsimp only; omega)
theorem draw_all {n : Nat} (code : List Int) (hc : code.length ≤ 1048576) (hn : 1000000000 < n) : ∃ f l, spec_DrawFloor n code = some (f, l) ∧ cartsB f l = true ∧ f.Ways.length ≤ 25 := by
  obtain ⟨c0, e0, q0⟩ := new_ok (n := n) code hc hn
  obtain ⟨f, c1, e1, ⟨g1, g2⟩, q1⟩ := draw_floor (n := n) q0 hn
  obtain ⟨l, c2, e2, g3⟩ := draw_carts (n := n) q1 g1 g2 hn
  unfold spec_DrawFloor
  rw [e0, Option.bind_some, e1, Option.bind_some]
  dsimp only
  rw [e2, Option.bind_some]
  exact ⟨_, _, rfl, g3, g2.2⟩
end Go.Sm
end

section
set_option linter.unusedSimpArgs false
set_option linter.deprecated false
set_option linter.unusedSectionVars false
set_option linter.unusedVariables false
set_option linter.unusedSimpArgs false
namespace Go.Sm
attribute [local irreducible] bd chk ix loopN
theorem within_ok {n : Nat} (l : List Int) (x : Int) (hl : l.length ≤ 1048576) (hn : 1000000000 < n) : laws_within n l x = some (decide (x ∈ l)) := by
  unfold laws_within
  refine loopN_ind (fun (i : Int) => l.length - i.toNat) (fun i => ∃ k : Nat, k ≤ l.length ∧ i = (k : Int) ∧ ∀ j, j < k → l.getD j 0 ≠ x) (fun (i : Int) r => r = some (decide (x ∈ l))) ?_ n _ ⟨0, by omega, rfl, fun j hj => absurd hj (Nat.not_lt_zero _)⟩ (by simp; omega)
  rintro _ J ⟨k, hk, rfl, hg⟩ ih
  unfold laws_within_L2
  by_cases h : k < l.length
  · rw [decide_eq_true (show (k : Int) < (l.length : Int) by omega), cond_true, ix_nat h, Int.toNat_natCast, w64_succ (by omega)]
    by_cases e : l.getD k 0 = x
    · rw [decide_eq_true e, cond_true, decide_eq_true (show x ∈ l by rw [← e]; exact getD_mem h)]
    · rw [decide_eq_false e, cond_false]
      exact ih _ ⟨k + 1, h, rfl, fun j hj => by
        by_cases q : j = k
        · rw [q]; exact e
        · exact hg j (by omega)⟩ (by simp; omega)
  · have : k = l.length := by omega
    subst this
    rw [decide_eq_false (Int.lt_irrefl _), cond_false, decide_eq_false (fun hx => by
      obtain ⟨j, hj, e⟩ := List.getElem_of_mem hx
      exact hg j hj (by rw [getD_eq hj]; exact e))]
theorem swap_loop {R : Type} {n : Nat} (Z : Option R) (kr : Bool → Option R) (x1 : List SCart) (x2 : Int) (f : SFloor) (mv st : List Int) {l l' : List SCart} {i : Nat} (hi : i < l.length) (hlen : l'.length = l.length) (hl : l.length ≤ 12)
    (hs : ∀ k, k < l.length → (ct l i).At = (ct l' k).At → (ct l k).At = (ct l' i).At → (ct l i).At = (ct l' i).At) (hn : 1000000000 < n) :
    loopN (fun (x : Int) J' => laws_FnRounds_L24 n Z kr J' x1 l x2 (i : Int) x f l' mv st) n (0 : Int) = Z := by
  refine loopN_ind (fun (x : Int) => i - x.toNat) (fun x => ∃ k : Nat, k ≤ i ∧ x = (k : Int)) (fun (x : Int) r => r = Z) ?_ n _ ⟨0, by omega, rfl⟩ (by simp; omega)
  rintro _ J ⟨k, hk, rfl⟩ ih
  unfold laws_FnRounds_L24
  by_cases h : k < i
  · have hJ : J ((k + 1 : Nat) : Int) = Z := ih _ ⟨k + 1, h, rfl⟩ (by simp; omega)
    rw [decide_eq_true (show (k : Int) < (i : Int) by omega), cond_true]
    unfold laws_FnRounds_k0
    simp only [bd_eq, Int.toNat_natCast, ix_nat hi, ix_nat (show k < l'.length by omega), ix_nat (show k < l.length by omega), ix_nat (show i < l'.length by omega), chk_dec (show k < l'.length by omega), chk_dec (show i < l'.length by omega)]
    rw [w64_succ (by omega), hJ]
    by_cases e1 : (l.getD i dSCart).At = (l'.getD k dSCart).At
    · by_cases e2 : (l.getD k dSCart).At = (l'.getD i dSCart).At
      · rw [decide_eq_true e1, decide_eq_true e2, decide_eq_true (hs k (by omega) e1 e2)]
        rfl
      · rw [decide_eq_true e1, decide_eq_false e2]
        rfl
    · rw [decide_eq_false e1]
      rfl
  · have : k = i := by omega
    subst this
    rw [decide_eq_false (Int.lt_irrefl _), cond_false]
theorem stuck_mem {f : SFloor} {l : List SCart} {i : Nat} {mv : List Int} (hm : (i : Int) ∈ mv) : (i : Int) ∉ stuckK f l mv l.length := fun h => by
  unfold stuckK at h
  obtain ⟨j, hj, e⟩ := List.mem_map.1 h
  have hj2 := (List.mem_filter.1 hj).2
  have : j = i := by omega
  subst this
  unfold stuckAt at hj2
  rw [Bool.and_eq_true, Bool.not_eq_true'] at hj2
  have h1 := hj2.2
  unfold hasB at h1
  rw [List.any_eq_false] at h1
  obtain ⟨q, hq, e2⟩ := List.getElem_of_mem hm
  exact h1 q (List.mem_range.2 hq) (decide_eq_true (by rw [getD_eq hq]; exact e2))
theorem round_loop {n : Nat} (Z : Option Bool) (kr : Bool → Option Bool) (x1 : List SCart) (x2 : Int) {f : SFloor} {l l' : List SCart} {mv : List Int} (hc : cartsB f l = true) (hw : f.Ways.length ≤ 25) (hR : Rnd f l l' mv) (hmv : mv.length ≤ 12) (hn : 1000000000 < n) :
    loopN (fun (x : Int) J' => laws_FnRounds_L15 n Z kr J' x1 l x2 x f l' mv (stuckK f l mv l.length)) n (0 : Int) = Z := by
  have hC := csOk hc
  have hl := hC.len
  have hlen := hR.len
  have hst := stuckK_len f l mv l.length
  refine loopN_ind (fun (x : Int) => l.length - x.toNat) (fun x => ∃ k : Nat, k ≤ l.length ∧ x = (k : Int)) (fun (x : Int) r => r = Z) ?_ n _ ⟨0, by omega, rfl⟩ (by simp; omega)
  rintro _ J ⟨i, hi0, rfl⟩ ih
  unfold laws_FnRounds_L15
  by_cases hi : i < l.length
  · have hJ : J ((i + 1 : Nat) : Int) = Z := ih _ ⟨i + 1, hi, rfl⟩ (by simp; omega)
    have hmm := hR.mov i hi
    have hsw := swap_loop (n := n) Z kr x1 x2 f mv (stuckK f l mv l.length) hi hlen hl (fun k hk => hR.swap i k hi hk) hn
    have hk1 : laws_FnRounds_k1 n Z kr J x1 l x2 (i : Int) f l' mv (stuckK f l mv l.length) = Z := by
      unfold laws_FnRounds_k1
      rw [ix_nat hi, bd_eq, ix_nat (show i < l'.length by omega), Int.toNat_natCast, chk_dec (by omega), w64_succ (by omega), hJ, hsw]
      by_cases e : (ct l i).At = (ct l' i).At
      · have e' : (l.getD i dSCart).At = (l'.getD i dSCart).At := e
        rw [decide_eq_true e', Bool.not_true, cond_false]
      · have e' : ¬ (l.getD i dSCart).At = (l'.getD i dSCart).At := e
        obtain ⟨g1, g2⟩ := hR.hops i hi e
        have c1 := (hC.each i hi).1
        have c2 := ((csOk hR.ok).each i (by omega)).1
        have hh : hopsB f (l.getD i dSCart).Goal = (hopsL f (l.getD i dSCart).Goal, true) := by
          have g1' : 0 ≤ (l.getD i dSCart).Goal ∧ (l.getD i dSCart).Goal < (f.Ways.length : Int) := g1
          unfold hopsB placeB
          rw [hC.fl, decide_eq_true (by omega)]
          rfl
        have hL := hopsL_len f (l.getD i dSCart).Goal
        rw [decide_eq_false e', Bool.not_false, cond_true, ix_nat hi, bd_eq, hops_spec f _ (by omega) hn, Option.bind_some, hh, ix_nat (show i < l'.length by omega), chk_dec (by omega)]
        dsimp only
        have d1 : 0 ≤ (l'.getD i dSCart).At ∧ (l'.getD i dSCart).At < (f.Ways.length : Int) := c2
        have d2 : 0 ≤ (l.getD i dSCart).At ∧ (l.getD i dSCart).At < (f.Ways.length : Int) := c1
        rw [ix_of (by omega) (by omega), chk_dec (by omega), bd_eq, ix_nat hi, bd_eq, ix_of (by omega) (by omega), chk_dec (by omega), bd_eq]
        have hu := lvK_under (f := f) (start_under (m := f.Ways.length) (goal := (l.getD i dSCart).Goal) g1.1 g1.2) f.Ways.length (l.getD i dSCart).At.toNat
        have hu2 : (hopsL f (l.getD i dSCart).Goal).getD (l.getD i dSCart).At.toNat 0 ≤ (f.Ways.length : Int) := hu
        have g2' : (hopsL f (l.getD i dSCart).Goal).getD (l'.getD i dSCart).At.toNat 0 = (hopsL f (l.getD i dSCart).Goal).getD (l.getD i dSCart).At.toNat 0 - 1 := g2
        have lo : -1 ≤ (hopsL f (l.getD i dSCart).Goal).getD (l.getD i dSCart).At.toNat 0 := hops_lo f _ _
        rw [w64_id (by omega) (by omega), decide_eq_true g2', Bool.not_true, cond_false]
    rw [decide_eq_true (show (i : Int) < (l.length : Int) by omega), cond_true]
    unfold laws_FnRounds_k2
    rw [ix_nat hi, bd_eq, ix_nat (show i < l'.length by omega), Int.toNat_natCast, chk_dec (by omega), within_ok mv _ (by omega) hn, Option.bind_some, Option.bind_some, within_ok (stuckK f l mv l.length) _ (by omega) hn, Option.bind_some, hk1]
    by_cases e : (ct l i).At = (ct l' i).At
    · have e' : (l.getD i dSCart).At = (l'.getD i dSCart).At := e
      rw [decide_eq_true e', decide_eq_false (fun q => hmm.1 q e)]
      rfl
    · have e' : ¬ (l.getD i dSCart).At = (l'.getD i dSCart).At := e
      rw [decide_eq_false e', decide_eq_true (hmm.2 e), decide_eq_false (stuck_mem (hmm.2 e))]
      rfl
  · have : i = l.length := by omega
    subst this
    rw [decide_eq_false (Int.lt_irrefl _), cond_false]
def rnds (f : SFloor) (l : List SCart) : Nat → List SCart
  | 0 => l
  | k + 1 => (roundB f (rnds f l k)).1
theorem rnds_ok {f : SFloor} {l : List SCart} (h : cartsB f l = true) : ∀ k, cartsB f (rnds f l k) = true
  | 0 => h
  | k + 1 => (round_rnd (rnds_ok h k)).ok
theorem runC_at {f : SFloor} {l : List SCart} {r : Nat} (hs : ∀ j, j < r → stillB f (rnds f l j) = false) (he : stillB f (rnds f l r) = true) : ∀ m k, r ≤ k + m → k ≤ r → runC f m k (rnds f l k) = (rnds f l r, r)
  | 0, k, h1, h2 => by
    have : k = r := by omega
    subst this
    rfl
  | m + 1, k, h1, h2 => by
    unfold runC
    by_cases e : k = r
    · subst e
      rw [he]
      rfl
    · rw [hs k (by omega), cond_false]
      exact runC_at hs he m (k + 1) (by omega) (by omega)
theorem end_loop {R : Type} {n : Nat} (Z : Option R) (kr : Bool → Option R) (x1 x2 : Int) {l : List SCart} (hl : l.length ≤ 12) (hn : 1000000000 < n) :
    loopN (fun (x : Int) J' => laws_FnRounds_L31 n Z kr J' l x1 x2 x l) n (0 : Int) = Z := by
  refine loopN_ind (fun (x : Int) => l.length - x.toNat) (fun x => ∃ k : Nat, k ≤ l.length ∧ x = (k : Int)) (fun (x : Int) r => r = Z) ?_ n _ ⟨0, by omega, rfl⟩ (by simp; omega)
  rintro _ J ⟨k, hk, rfl⟩ ih
  unfold laws_FnRounds_L31
  by_cases h : k < l.length
  · rw [decide_eq_true (show (k : Int) < (l.length : Int) by omega), cond_true]
    unfold laws_FnRounds_k3
    rw [ix_nat h, Int.toNat_natCast, chk_dec h, bd_eq, ix_nat h, bd_eq, decide_eq_true rfl, decide_eq_true rfl, Bool.and_self, Bool.not_true, cond_false, w64_succ (by omega)]
    exact ih _ ⟨k + 1, h, rfl⟩ (by simp; omega)
  · have : k = l.length := by omega
    subst this
    rw [decide_eq_false (Int.lt_irrefl _), cond_false]
theorem laws_FnRounds_true (code0 : List Int) (h0 : (code0.length ≤ 9223372036854775807 ∧ ∀ y ∈ code0, rng 0 255 y)) : ∃ n, laws_FnRounds n code0 = some true := by
  refine ⟨1000000001, ?_⟩
  generalize hN : (1000000001 : Nat) = n
  have hn : 1000000000 < n := by omega
  unfold laws_FnRounds laws_big
  rw [Option.bind_some]
  by_cases hb : (code0.length : Int) > 1048576
  · rw [decide_eq_true hb]
    rfl
  rw [decide_eq_false hb, cond_false]
  unfold laws_FnRounds_k6
  obtain ⟨f, l, e0, hc, hw⟩ := draw_all (n := n) code0 (by omega) hn
  have hl := (csOk hc).len
  rw [e0, Option.bind_some, floor_impl f (by omega) hn, Option.bind_some, (csOk hc).fl, Bool.not_true, cond_false, carts_impl f l (by omega) (by omega) hn, Option.bind_some, hc, Bool.not_true, cond_false]
  refine loopN_ind (fun (x : List SCart × Int) => 40 - x.2.toNat) (fun x => ∃ k : Nat, k ≤ 40 ∧ x = (rnds f l k, (k : Int)) ∧ ∀ j, j < k → stillB f (rnds f l j) = false) (fun (x : List SCart × Int) r => r = some true) ?_ n _ ⟨0, by omega, rfl, fun j hj => absurd hj (Nat.not_lt_zero _)⟩ (by dsimp only; omega)
  rintro _ J ⟨k, hk, rfl, hs⟩ ih
  dsimp only at ih ⊢
  unfold laws_FnRounds_L8
  by_cases hlt : k < 40
  · have hk1 := rnds_ok hc k
    have hR := round_rnd hk1
    have hl1 := (csOk hk1).len
    have hf1 := (csOk hk1).fl
    rw [decide_eq_true (show (k : Int) < 40 by omega), cond_true]
    unfold laws_FnRounds_k5
    have hst : stuckB f (rnds f l k) = (stuckK f (rnds f l k) (roundB f (rnds f l k)).2.1 (rnds f l k).length, true) := by
      unfold stuckB
      rw [hk1]
      rfl
    have hmv : (roundB f (rnds f l k)).2.1.length ≤ 12 := by
      have := (goK_len (rnds f l k) (wantsE f (rnds f l k)) (rnds f l k).length).2
      unfold roundB
      rw [hk1, cond_true]
      dsimp only
      omega
    rw [round_impl f _ (by omega) (by omega) hn, Option.bind_some, stuck_impl f _ (by omega) (by omega) hn, Option.bind_some, hst, round_ok, hk1, Bool.not_true, cond_false, cond_false, carts_impl f _ (by omega) (by rw [hR.len]; omega) hn, Option.bind_some, hR.ok, Bool.not_true, cond_false, hR.len, decide_eq_true rfl, Bool.not_true, cond_false]
    unfold laws_FnRounds_k4
    rw [round_loop _ _ _ _ hk1 hw hR hmv hn]
    by_cases hz : ((roundB f (rnds f l k)).2.1.length : Int) = 0
    · have he : stillB f (rnds f l k) = true := decide_eq_true hz
      rw [decide_eq_true hz, cond_true, settle_impl f l 200 (by omega) (by omega) hn, Option.bind_some]
      have hrun := runC_at hs he 200 0 (by omega) (by omega)
      have hse : settleB f l 200 = (rnds f l k, (k : Int), restsB (rnds f l k)) := by
        have hrun2 : runC f (200 : Int).toNat 0 l = (rnds f l k, k) := hrun
        unfold settleB
        rw [hc, hrun2]
        rfl
      rw [hse]
      dsimp only
      rw [end_loop _ _ _ _ hl1 hn, decide_eq_true rfl]
    · rw [decide_eq_false hz, cond_false, w64_succ (by omega)]
      refine ih _ ⟨k + 1, hlt, rfl, fun j hj => ?_⟩ (by dsimp only; omega)
      by_cases e : j = k
      · rw [e]
        exact decide_eq_false hz
      · exact hs j (by omega)
  · have : k = 40 := by omega
    subst this
    rw [decide_eq_false (by omega), cond_false]
end Go.Sm
end
