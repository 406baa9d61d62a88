import Derived.Test.YtjilmfkglikoeaaEngE
import Derived.Test.YtjilmfkglikoeaaEngA
/- The functions as plain functions over data, and that the law answers true for all arguments. FnShoals: the shoals of a drawn chart are the places that are not deep enough, and no more; features told near are near, each once. -/
set_option linter.unusedSimpArgs false
set_option linter.deprecated false
set_option linter.unusedSectionVars false
set_option linter.unusedVariables false
noncomputable section
namespace Go.Sm
structure SFeature where
  Id : Int
  Kind : Int
  X : Int
  Y : Int
  Text : ByteArray
structure SChart where
  Wide : Int
  High : Int
  Depths : List Int
  Features : List SFeature
  Edition : Int
structure Sl1Cur where
  b : List Int
  i : Int
  h : Int
structure SArr2_Int where
  x0 : Int
  x1 : Int
def dSFeature : SFeature := ⟨(0 : Int), (0 : Int), (0 : Int), (0 : Int), str []⟩
def dSChart : SChart := ⟨(0 : Int), (0 : Int), [], [], (0 : Int)⟩
def dSl1Cur : Sl1Cur := ⟨[], (0 : Int), (0 : Int)⟩
def dSArr2_Int : SArr2_Int := ⟨(0 : Int), (0 : Int)⟩
def laws_big (n : Nat) (code0 : List Int) : Option Bool :=
  some ((decide ((code0.length : Int) > (1048576 : Int))))
def spec_l1New_k0 {R : Type} (n : Nat) (kx0 : Int → Option R) (J : Int → Int → Option R) (code2 : List Int) (h8 : Int) (i9 : Int) : Option R :=
  ix i9 code2.length ((bd (w64 ((w64 (h8 * (131 : Int))) + (w64 (code2.getD i9.toNat (0 : Int))))) fun (v10 : Int) => (bd (w64 (((BitVec.ofInt 64 (w64 (v10 + (7 : Int))) &&& BitVec.ofInt 64 (1073741823 : Int)).toNat : Nat) : Int)) fun (v11 : Int) => J v11 (w64 (i9 + (1 : Int))))))
def spec_l1New_L3 {R : Type} (n : Nat) (kx0 : Int → Option R) (J : Int → Int → Option R) (code2 : List Int) (h3 : Int) (i4 : Int) : Option R :=
  (bif (decide (i4 < (code2.length : Int))) then (bif (decide (i4 < (4000 : Int))) then spec_l1New_k0 n kx0 J code2 h3 i4 else kx0 h3) else kx0 h3)
def spec_l1New (n : Nat) (code0 : List Int) : Option Sl1Cur :=
  (bd (w64 ((59059 : Int) + (code0.length : Int))) fun (v1 : Int) => loopN (fun (x : Int × Int) J' => spec_l1New_L3 n (fun h16 => some ((⟨code0, (0 : Int), h16⟩ : Sl1Cur))) (fun h17 i18 => J' (h17, i18)) code0 x.1 x.2) n (v1, (0 : Int)))
def spec_l1Byte (n : Nat) (c0 : Sl1Cur) : Option (Int × Sl1Cur) :=
  (bd (w64 (c0.h * (6364136223846793005 : Int))) fun (v1 : Int) => (bd (w64 (v1 + (1442695040888963407 : Int))) fun (v2 : Int) => (bd (Int.fdiv v2 (2 ^ (min (33 : Int).toNat 64))) fun (v3 : Int) => (bd (Int.fdiv v2 (2 ^ (min (45 : Int).toNat 64))) fun (v4 : Int) => (bd (w64 (((BitVec.ofInt 64 v3 ^^^ BitVec.ofInt 64 v4).toNat : Nat) : Int)) fun (v5 : Int) => (bd (w64 (((BitVec.ofInt 64 v5 &&& BitVec.ofInt 64 (255 : Int)).toNat : Nat) : Int)) fun (v6 : Int) => (bif (decide (c0.i < (c0.b.length : Int))) then ix c0.i c0.b.length ((bd (w64 (v6 + (w64 (c0.b.getD c0.i.toNat (0 : Int))))) fun (v7 : Int) => (bd (w64 (((BitVec.ofInt 64 v7 &&& BitVec.ofInt 64 (255 : Int)).toNat : Nat) : Int)) fun (v8 : Int) => some (v8, (⟨c0.b, (w64 (c0.i + (1 : Int))), v2⟩ : Sl1Cur))))) else some (v6, (⟨c0.b, c0.i, v2⟩ : Sl1Cur)))))))))
def spec_l1Below_k0 (n : Nat)  (n1 : Int) (p3 : Sl1Cur) : Option (Int × Sl1Cur) :=
  (spec_l1Byte n p3).bind fun r4 => (spec_l1Byte n r4.2).bind fun r5 => (spec_l1Byte n r5.2).bind fun r6 => (spec_l1Byte n r6.2).bind fun r7 => (bd (w64 (r4.1 * (16777216 : Int))) fun (v8 : Int) => (bd (w64 (r5.1 * (65536 : Int))) fun (v9 : Int) => (bd (w64 (r6.1 * (256 : Int))) fun (v10 : Int) => (bd (w64 ((w64 (v8 + v9)) + v10)) fun (v11 : Int) => (bif decide (n1 = 0) then none else (bd (Int.tmod (w64 (v11 + r7.1)) n1) fun (v12 : Int) => some (v12, r7.2)))))))
def spec_l1Below (n : Nat) (c0 : Sl1Cur) (n1 : Int) : Option (Int × Sl1Cur) :=
  (bif (decide (n1 ≤ (0 : Int))) then some ((0 : Int), c0) else (bif (decide (n1 ≤ (256 : Int))) then (spec_l1Byte n c0).bind fun r13 => (bif decide (n1 = 0) then none else some ((Int.tmod r13.1 n1), r13.2)) else spec_l1Below_k0 n  n1 c0))
def spec_l1Pick (n : Nat) (c0 : Sl1Cur) (list1 : List ByteArray) : Option (ByteArray × Sl1Cur) :=
  (spec_l1Below n c0 (list1.length : Int)).bind fun r1 => ix r1.1 list1.length (some ((list1.getD r1.1.toNat (str [])), r1.2))
def spec_l6Draw_L3 {R : Type} (n : Nat) (kx0 : Sl1Cur → List Int → Option R) (J : Int → Sl1Cur → List Int → Option R) (i4 : Int) (p5 : Sl1Cur) (t6 : Int) (t7 : Int) (t8 : Int) (c9 : List Int) (c10 : List SFeature) (out11 : Int) (out12 : Int) (out13 : Int) (c14 : List Int) (c15 : List SFeature) : Option R :=
  (bif (decide (i4 < (w64 (out11 * out12)))) then (spec_l1Below n p5 (60 : Int)).bind fun r21 => (bd (w64 (r21.1 - (10 : Int))) fun (v22 : Int) => chk (decide ((c14 ++ [v22]).length * 8 ≤ 140737488355328)) (J (w64 (i4 + (1 : Int))) r21.2 (c14 ++ [v22]))) else kx0 p5 c14)
def spec_l6Draw_k0 {R : Type} (n : Nat) (kx2 : List SFeature → Sl1Cur → Option R) (J : Int → Int → Sl1Cur → List SFeature → Option R) (id39 : Int) (i40 : Int) (p41 : Sl1Cur) (t29 : Int) (t30 : Int) (t31 : Int) (c32 : List Int) (c33 : List SFeature) (out34 : Int) (out35 : Int) (out36 : Int) (c37 : List Int) (c42 : List SFeature) : Option R :=
  (spec_l1Below n p41 (3 : Int)).bind fun r43 => (bd (w64 ((w64 (id39 + (1 : Int))) + r43.1)) fun (v44 : Int) => (spec_l1Below n r43.2 (9 : Int)).bind fun r45 => (bd (w64 ((1 : Int) + r45.1)) fun (v46 : Int) => (spec_l1Below n r45.2 out34).bind fun r47 => (spec_l1Below n r47.2 out35).bind fun r48 => (spec_l1Pick n r48.2 [str [], str [98, 117, 111, 121], str [119, 114, 101, 99, 107]]).bind fun r49 => (bd (c42 ++ [(⟨v44, v46, r47.1, r48.1, r49.1⟩ : SFeature)]) fun (l50 : List SFeature) => chk (decide (l50.length * 48 ≤ 140737488355328)) (J v44 (w64 (i40 - (1 : Int))) r49.2 l50))))
def spec_l6Draw_L8 {R : Type} (n : Nat) (kx2 : List SFeature → Sl1Cur → Option R) (J : Int → Int → Sl1Cur → List SFeature → Option R) (id26 : Int) (i27 : Int) (p28 : Sl1Cur) (t29 : Int) (t30 : Int) (t31 : Int) (c32 : List Int) (c33 : List SFeature) (out34 : Int) (out35 : Int) (out36 : Int) (c37 : List Int) (c38 : List SFeature) : Option R :=
  (bif (decide (i27 > (0 : Int))) then spec_l6Draw_k0 n kx2 J id26 i27 p28 t29 t30 t31 c32 c33 out34 out35 out36 c37 c38 else kx2 c38 p28)
def spec_l6Draw (n : Nat) (c0 : Sl1Cur) : Option (SChart × Sl1Cur) :=
  (spec_l1Below n c0 (5 : Int)).bind fun r1 => (spec_l1Below n r1.2 (5 : Int)).bind fun r2 => (spec_l1Below n r2.2 (4 : Int)).bind fun r3 => loopN (fun (x : Int × Sl1Cur × List Int) J' => spec_l6Draw_L3 n (fun p23 c24 => (spec_l1Below n p23 (5 : Int)).bind fun r25 => loopN (fun (x : Int × Int × Sl1Cur × List SFeature) J' => spec_l6Draw_L8 n (fun c51 p52 => some ((⟨(w64 ((1 : Int) + r1.1)), (w64 ((1 : Int) + r2.1)), c24, c51, r3.1⟩ : SChart), p52)) (fun id53 i54 p55 c56 => J' (id53, i54, p55, c56)) x.1 x.2.1 x.2.2.1 (0 : Int) (0 : Int) (0 : Int) [] [] (w64 ((1 : Int) + r1.1)) (w64 ((1 : Int) + r2.1)) r3.1 c24 x.2.2.2) n ((0 : Int), r25.1, r25.2, [])) (fun i57 p58 c59 => J' (i57, p58, c59)) x.1 x.2.1 (0 : Int) (0 : Int) (0 : Int) [] [] (w64 ((1 : Int) + r1.1)) (w64 ((1 : Int) + r2.1)) r3.1 x.2.2 []) n ((0 : Int), r3.2, [])
def spec_l1PickInt (n : Nat) (c0 : Sl1Cur) (list1 : List Int) : Option (Int × Sl1Cur) :=
  (spec_l1Below n c0 (list1.length : Int)).bind fun r1 => ix r1.1 list1.length (some ((list1.getD r1.1.toNat (0 : Int)), r1.2))
def spec_l6DrawAny_L15 {R : Type} (n : Nat) (kx1 : List SFeature → Sl1Cur → Option R) (J : Int → Sl1Cur → List SFeature → Option R) (i41 : Int) (p42 : Sl1Cur) (t43 : Int) (t44 : Int) (t45 : Int) (c46 : List Int) (c47 : List SFeature) (out48 : Int) (out49 : Int) (out50 : Int) (c51 : List Int) (c52 : List SFeature) : Option R :=
  (spec_l1Below n p42 (2 : Int)).bind fun r53 => (bd (w64 ((30 : Int) - r53.1)) fun (v54 : Int) => (bif (decide (i41 < v54)) then (bd (w64 ((100 : Int) + i41)) fun (v60 : Int) => (bd (c52 ++ [(⟨v60, (1 : Int), (0 : Int), (0 : Int), str []⟩ : SFeature)]) fun (l61 : List SFeature) => chk (decide (l61.length * 48 ≤ 140737488355328)) (J (w64 (i41 + (1 : Int))) r53.2 l61))) else kx1 c52 r53.2))
def spec_l6DrawAny (n : Nat) (c0 : Sl1Cur) : Option (SChart × Sl1Cur) :=
  (spec_l6Draw n c0).bind fun r1 => (spec_l1Below n r1.2 (25 : Int)).bind fun r2 => (bif (decide (r2.1 = (0 : Int))) then (spec_l1PickInt n r2.2 [(0 : Int), (12 : Int), (13 : Int)]).bind fun r3 => some ((⟨r3.1, r1.1.High, r1.1.Depths, r1.1.Features, r1.1.Edition⟩ : SChart), r3.2) else (bif (decide (r2.1 = (1 : Int))) then (spec_l1PickInt n r2.2 [(-1000 : Int), (-1001 : Int), (10000 : Int), (10001 : Int)]).bind fun r10 => ix (0 : Int) r1.1.Depths.length (chk (decide (0 < r1.1.Depths.length)) (some ((⟨r1.1.Wide, r1.1.High, (r1.1.Depths.set 0 r10.1), r1.1.Features, r1.1.Edition⟩ : SChart), r10.2))) else (bif (decide (r2.1 = (2 : Int))) then chk (decide ((r1.1.Depths ++ [(3 : Int)]).length * 8 ≤ 140737488355328)) (some ((⟨r1.1.Wide, r1.1.High, (r1.1.Depths ++ [(3 : Int)]), r1.1.Features, r1.1.Edition⟩ : SChart), r2.2)) else (bif (decide (r2.1 = (3 : Int))) then (spec_l1PickInt n r2.2 [(-1 : Int), (1000000 : Int), (1000001 : Int)]).bind fun r23 => some ((⟨r1.1.Wide, r1.1.High, r1.1.Depths, r1.1.Features, r23.1⟩ : SChart), r23.2) else (bif (decide (r2.1 = (4 : Int))) then (spec_l1PickInt n r2.2 [(0 : Int), (1 : Int), (1000000 : Int), (1000001 : Int)]).bind fun r30 => (spec_l1PickInt n r30.2 [(0 : Int), (9 : Int), (10 : Int), (1 : Int)]).bind fun r31 => (spec_l1Below n r31.2 (3 : Int)).bind fun r32 => (bd (w64 (r32.1 - (1 : Int))) fun (v33 : Int) => (bd (r1.1.Features ++ [(⟨r30.1, r31.1, v33, (0 : Int), str []⟩ : SFeature)]) fun (l34 : List SFeature) => chk (decide (l34.length * 48 ≤ 140737488355328)) (some ((⟨r1.1.Wide, r1.1.High, r1.1.Depths, l34, r1.1.Edition⟩ : SChart), r32.2)))) else (bif (decide (r2.1 = (5 : Int))) then loopN (fun (x : Int × Sl1Cur × List SFeature) J' => spec_l6DrawAny_L15 n (fun c62 p63 => some ((⟨r1.1.Wide, r1.1.High, r1.1.Depths, c62, r1.1.Edition⟩ : SChart), p63)) (fun i70 p71 c72 => J' (i70, p71, c72)) x.1 x.2.1 (0 : Int) (0 : Int) (0 : Int) [] [] r1.1.Wide r1.1.High r1.1.Edition r1.1.Depths x.2.2) n ((r1.1.Features.length : Int), r2.2, r1.1.Features) else some (r1.1, r2.2)))))))
def spec_DrawShoals (n : Nat) (code0 : List Int) : Option (SChart × Int) :=
  (spec_l1New n code0).bind fun r1 => (spec_l6DrawAny n r1).bind fun r2 => (spec_l1Below n r2.2 (60 : Int)).bind fun r3 => (bd (w64 (r3.1 - (10 : Int))) fun (v4 : Int) => some (r2.1, v4))
def spec_l1In (n : Nat) (x0 : Int) (a1 : Int) (b2 : Int) : Option Bool :=
  (bif (decide (x0 ≥ a1)) then some ((decide (x0 ≤ b2))) else some (false))
def spec_l6Depth (n : Nat) (d0 : Int) : Option Bool :=
  (spec_l1In n d0 (-1000 : Int) (10000 : Int)).bind fun r1 => some (r1)
def spec_l6Place (n : Nat) (c0 : SChart) (x1 : Int) (y2 : Int) : Option Bool :=
  (bd (w64 (c0.Wide - (1 : Int))) fun (v1 : Int) => (spec_l1In n x1 (0 : Int) v1).bind fun r2 => (bif r2 then (bd (w64 (c0.High - (1 : Int))) fun (v3 : Int) => (spec_l1In n y2 (0 : Int) v3).bind fun r4 => some (r4)) else some (false)))
def spec_l6Feature (n : Nat) (c0 : SChart) (f1 : SFeature) : Option Bool :=
  (spec_l1In n f1.Id (1 : Int) (1000000 : Int)).bind fun r1 => (bif r1 then (spec_l1In n f1.Kind (1 : Int) (9 : Int)).bind fun r2 => (bif r2 then (spec_l6Place n c0 f1.X f1.Y).bind fun r3 => (bif r3 then some ((decide ((f1.Text.size : Int) ≤ (40 : Int)))) else some (false)) else some (false)) else some (false))
def spec_ChartOk_L4 {R : Type} (n : Nat) (kx0 : Option R) (kxr : Bool → Option R) (J : Int → Option R) (i12 : Int) (c13 : SChart) : Option R :=
  (bif (decide (i12 < (c13.Depths.length : Int))) then ix i12 c13.Depths.length ((spec_l6Depth n (c13.Depths.getD i12.toNat (0 : Int))).bind fun r17 => (bif (!r17) then kxr false else J (w64 (i12 + (1 : Int))))) else kx0)
def spec_ChartOk_k0 {R : Type} (n : Nat) (kx2 : Option R) (kxr : Bool → Option R) (J : Int → Option R) (i21 : Int) (c20 : SChart) : Option R :=
  ix i21 c20.Features.length ((bd (c20.Features.getD i21.toNat dSFeature) fun (e22 : SFeature) => (spec_l6Feature n c20 e22).bind fun r23 => (bif (!r23) then kxr false else (bif (decide (i21 > (0 : Int))) then ix (w64 (i21 - (1 : Int))) c20.Features.length ((bd (c20.Features.getD ((w64 (i21 - (1 : Int))).toNat) dSFeature) fun (e25 : SFeature) => ix i21 c20.Features.length ((bd (c20.Features.getD i21.toNat dSFeature) fun (e26 : SFeature) => (bif (decide (e25.Id ≥ e26.Id)) then kxr false else J (w64 (i21 + (1 : Int)))))))) else J (w64 (i21 + (1 : Int)))))))
def spec_ChartOk_L9 {R : Type} (n : Nat) (kx2 : Option R) (kxr : Bool → Option R) (J : Int → Option R) (i19 : Int) (c20 : SChart) : Option R :=
  (bif (decide (i19 < (c20.Features.length : Int))) then spec_ChartOk_k0 n kx2 kxr J i19 c20 else kx2)
def spec_ChartOk (n : Nat) (c0 : SChart) : Option Bool :=
  (spec_l1In n c0.Wide (1 : Int) (12 : Int)).bind fun r1 => (bif (!r1) then some (false) else (spec_l1In n c0.High (1 : Int) (12 : Int)).bind fun r3 => (bif (!r3) then some (false) else (bd (w64 (c0.Wide * c0.High)) fun (v5 : Int) => (bif (!(decide ((c0.Depths.length : Int) = v5))) then some (false) else (bif (decide ((c0.Features.length : Int) > (30 : Int))) then some (false) else (spec_l1In n c0.Edition (0 : Int) (1000000 : Int)).bind fun r8 => (bif (!r8) then some (false) else loopN (fun (x : Int) J' => spec_ChartOk_L4 n (loopN (fun (x : Int) J' => spec_ChartOk_L9 n (some (true)) (fun t43 => some (t43)) J' x c0) n ((0 : Int))) (fun t45 => some (t45)) J' x c0) n ((0 : Int))))))))
def impl_in (n : Nat) (n0 : Int) (least1 : Int) (most2 : Int) : Option Bool :=
  (bif (decide (n0 ≥ least1)) then some ((decide (n0 ≤ most2))) else some (false))
def impl_all_1 (n : Nat) (n0 : Int) (a1 : Int) (a2 : Int) : Option Bool :=
  (impl_in n n0 a1 a2).bind fun r1 => some ((!r1))
def slices_IndexFunc_int_int__impl_all_1_L2 {R : Type} (n : Nat) (kx0 : Option R) (kxr : Int → Option R) (J : Int → Option R) (s1 : List Int) (f2 : Int) (f3 : Int) (t4 : Int) (t5 : Int) : Option R :=
  (bif (decide (t5 < t4)) then ix t5 s1.length ((impl_all_1 n (s1.getD t5.toNat (0 : Int)) f2 f3).bind fun r9 => (bif r9 then kxr t5 else J (w64 (t5 + (1 : Int))))) else kx0)
def slices_IndexFunc_int_int__impl_all_1 (n : Nat) (s0 : List Int) (f1c0 : Int) (f1c1 : Int) : Option Int :=
  loopN (fun (x : Int) J' => slices_IndexFunc_int_int__impl_all_1_L2 n (some ((-1 : Int))) (fun t11 => some (t11)) J' s0 f1c0 f1c1 (s0.length : Int) x) n ((0 : Int))
def slices_ContainsFunc_int_int__impl_all_1 (n : Nat) (s0 : List Int) (f1c0 : Int) (f1c1 : Int) : Option Bool :=
  (slices_IndexFunc_int_int__impl_all_1 n s0 f1c0 f1c1).bind fun r1 => some ((decide (r1 ≥ (0 : Int))))
def impl_all (n : Nat) (l0 : List Int) (least1 : Int) (most2 : Int) : Option Bool :=
  (slices_ContainsFunc_int_int__impl_all_1 n l0 least1 most2).bind fun r1 => some ((!r1))
def impl_Chart_place (n : Nat) (c0 : SChart) (x1 : Int) (y2 : Int) : Option Bool :=
  (bd (w64 (c0.Wide - (1 : Int))) fun (v1 : Int) => (impl_in n x1 (0 : Int) v1).bind fun r2 => (bif r2 then (bd (w64 (c0.High - (1 : Int))) fun (v3 : Int) => (impl_in n y2 (0 : Int) v3).bind fun r4 => some (r4)) else some (false)))
def impl_Chart_featureOk (n : Nat) (c0 : SChart) (f1 : SFeature) : Option Bool :=
  (impl_in n f1.Id (1 : Int) (1000000 : Int)).bind fun r1 => (bif r1 then (impl_in n f1.Kind (1 : Int) (9 : Int)).bind fun r2 => (bif r2 then (impl_Chart_place n c0 f1.X f1.Y).bind fun r3 => (bif r3 then some ((decide ((f1.Text.size : Int) ≤ (40 : Int)))) else some (false)) else some (false)) else some (false))
def impl_ChartOk_k0 {R : Type} (n : Nat) (kx0 : Option R) (kxr : Bool → Option R) (J : Int → Option R) (t14 : List SFeature) (t15 : Int) (t18 : Int) (c17 : SChart) : Option R :=
  ix t18 t14.length ((bd (t14.getD t18.toNat dSFeature) fun (e19 : SFeature) => (impl_Chart_featureOk n c17 e19).bind fun r20 => (bif (!r20) then kxr false else (bif (decide (t18 > (0 : Int))) then ix (w64 (t18 - (1 : Int))) c17.Features.length ((bd (c17.Features.getD ((w64 (t18 - (1 : Int))).toNat) dSFeature) fun (e22 : SFeature) => (bif (decide (e22.Id ≥ e19.Id)) then kxr false else J (w64 (t18 + (1 : Int)))))) else J (w64 (t18 + (1 : Int)))))))
def impl_ChartOk_L4 {R : Type} (n : Nat) (kx0 : Option R) (kxr : Bool → Option R) (J : Int → Option R) (t14 : List SFeature) (t15 : Int) (t16 : Int) (c17 : SChart) : Option R :=
  (bif (decide (t16 < t15)) then impl_ChartOk_k0 n kx0 kxr J t14 t15 t16 c17 else kx0)
def impl_ChartOk (n : Nat) (c0 : SChart) : Option Bool :=
  (impl_in n c0.Wide (1 : Int) (12 : Int)).bind fun r1 => (bif (!r1) then some (false) else (impl_in n c0.High (1 : Int) (12 : Int)).bind fun r3 => (bif (!r3) then some (false) else (bd (w64 (c0.Wide * c0.High)) fun (v5 : Int) => (bif (!(decide ((c0.Depths.length : Int) = v5))) then some (false) else (impl_all n c0.Depths (-1000 : Int) (10000 : Int)).bind fun r7 => (bif (!r7) then some (false) else (bif (decide ((c0.Features.length : Int) > (30 : Int))) then some (false) else (impl_in n c0.Edition (0 : Int) (1000000 : Int)).bind fun r10 => (bif (!r10) then some (false) else loopN (fun (x : Int) J' => impl_ChartOk_L4 n (some (true)) (fun t35 => some (t35)) J' c0.Features (c0.Features.length : Int) x c0) n ((0 : Int)))))))))
def impl_own_int (n : Nat) (l0 : List Int) : Option (List Int) :=
  chk (decide ((0 : Int) ≤ (l0.length : Int))) (chk (decide ((l0.length : Int) ≤ 9223372036854775807 ∧ (l0.length : Int) * (8 : Int) ≤ 281474976710656)) (chk (decide (l0.length * 8 ≤ 140737488355328)) (some (l0))))
def impl_Shoals_L5 {R : Type} (n : Nat) (kx0 : List Int → Option R) (J : Int → List Int → Option R) (need3 : Int) (t4 : List Int) (t5 : Int) (t6 : Int) (out7 : List Int) : Option R :=
  (bif (decide (t6 < t5)) then ix t6 t4.length ((bif (decide ((t4.getD t6.toNat (0 : Int)) < need3)) then chk (decide ((out7 ++ [t6]).length * 8 ≤ 140737488355328)) (J (w64 (t6 + (1 : Int))) (out7 ++ [t6])) else J (w64 (t6 + (1 : Int))) out7)) else kx0 out7)
def impl_Shoals (n : Nat) (c0 : SChart) (need1 : Int) : Option (List Int) :=
  (impl_ChartOk n c0).bind fun r1 => (bif (!r1) then some ([]) else loopN (fun (x : Int × List Int) J' => impl_Shoals_L5 n (fun out22 => (impl_own_int n out22).bind fun r23 => some (r23)) (fun t24 out25 => J' (t24, out25)) need1 c0.Depths (c0.Depths.length : Int) x.1 x.2) n ((0 : Int), []))
def impl_DepthAt (n : Nat) (c0 : SChart) (x1 : Int) (y2 : Int) : Option (Int × Bool) :=
  (impl_ChartOk n c0).bind fun r1 => (bif (!r1) then some ((0 : Int), false) else (impl_Chart_place n c0 x1 y2).bind fun r3 => (bif (!r3) then some ((0 : Int), false) else (bd (w64 ((w64 (y2 * c0.Wide)) + x1)) fun (v10 : Int) => ix v10 c0.Depths.length (some ((c0.Depths.getD v10.toNat (0 : Int)), true)))))
def laws_within_L2 {R : Type} (n : Nat) (kx0 : Option R) (kxr : Bool → Option R) (J : Int → Option R) (list1 : List Int) (x2 : Int) (i3 : Int) : Option R :=
  (bif (decide (i3 < (list1.length : Int))) then ix i3 list1.length ((bif (decide ((list1.getD i3.toNat (0 : Int)) = x2)) then kxr true else J (w64 (i3 + (1 : Int))))) else kx0)
def laws_within (n : Nat) (list0 : List Int) (x1 : Int) : Option Bool :=
  loopN (fun (x : Int) J' => laws_within_L2 n (some (false)) (fun t7 => some (t7)) J' list0 x1 x) n ((0 : Int))
def impl_size (n : Nat) (n0 : Int) : Option Int :=
  (bif (decide (n0 < (0 : Int))) then some ((w64 (0 - n0))) else some (n0))
def cmp_isNaN_int (n : Nat) (x0 : Int) : Option Bool :=
  some ((!(decide (x0 = x0))))
def cmp_Compare_int (n : Nat) (x0 : Int) (y1 : Int) : Option Int :=
  (cmp_isNaN_int n x0).bind fun r1 => (cmp_isNaN_int n y1).bind fun r2 => (bif r1 then (bif r2 then some ((0 : Int)) else some ((-1 : Int))) else (bif r2 then some ((1 : Int)) else (bif (decide (x0 < y1)) then some ((-1 : Int)) else (bif (decide (x0 > y1)) then some ((1 : Int)) else some ((0 : Int))))))
def slices_Compare_int_int_k0 {R : Type} (n : Nat) (kx0 : Option R) (kxr : Int → Option R) (J : Int → Option R) (s11 : List Int) (s22 : List Int) (t3 : List Int) (t4 : Int) (t6 : Int) : Option R :=
  ix t6 t3.length ((bif (decide (t6 ≥ (s22.length : Int))) then kxr (1 : Int) else ix t6 s22.length ((cmp_Compare_int n (t3.getD t6.toNat (0 : Int)) (s22.getD t6.toNat (0 : Int))).bind fun r12 => (bif (!(decide (r12 = (0 : Int)))) then kxr r12 else J (w64 (t6 + (1 : Int)))))))
def slices_Compare_int_int_L2 {R : Type} (n : Nat) (kx0 : Option R) (kxr : Int → Option R) (J : Int → Option R) (s11 : List Int) (s22 : List Int) (t3 : List Int) (t4 : Int) (t5 : Int) : Option R :=
  (bif (decide (t5 < t4)) then slices_Compare_int_int_k0 n kx0 kxr J s11 s22 t3 t4 t5 else kx0)
def slices_Compare_int_int (n : Nat) (s10 : List Int) (s21 : List Int) : Option Int :=
  loopN (fun (x : Int) J' => slices_Compare_int_int_L2 n ((bif (decide ((s10.length : Int) < (s21.length : Int))) then some ((-1 : Int)) else some ((0 : Int)))) (fun t14 => some (t14)) J' s10 s21 s10 (s10.length : Int) x) n ((0 : Int))
def impl_Near6_1 (n : Nat) (a0 : SArr2_Int) (b1 : SArr2_Int) : Option Int :=
  (slices_Compare_int_int n [a0.x0, a0.x1] [b1.x0, b1.x1]).bind fun r1 => some (r1)
def slices_SortFunc_2_int_2_int__impl_Near6_1 (n : Nat) (l0 : List SArr2_Int) : Option (List SArr2_Int) :=
  sortL dSArr2_Int (fun a b => impl_Near6_1 n a b) l0
def impl_Near6_k0 {R : Type} (n : Nat) (kx0 : List SArr2_Int → Option R) (J : Int → List SArr2_Int → Option R) (x9 : Int) (y10 : Int) (far11 : Int) (t12 : List SFeature) (t13 : Int) (t16 : Int) (l17 : List SArr2_Int) : Option R :=
  ix t16 t12.length ((bd (t12.getD t16.toNat dSFeature) fun (e18 : SFeature) => (impl_size n (w64 (e18.X - x9))).bind fun r19 => (impl_size n (w64 (e18.Y - y10))).bind fun r20 => (bif (decide ((w64 (r19 + r20)) ≤ far11)) then (bd (l17 ++ [(⟨(w64 (r19 + r20)), e18.Id⟩ : SArr2_Int)]) fun (l21 : List SArr2_Int) => chk (decide (l21.length * 16 ≤ 140737488355328)) (J (w64 (t16 + (1 : Int))) l21)) else J (w64 (t16 + (1 : Int))) l17)))
def impl_Near6_L5 {R : Type} (n : Nat) (kx0 : List SArr2_Int → Option R) (J : Int → List SArr2_Int → Option R) (x9 : Int) (y10 : Int) (far11 : Int) (t12 : List SFeature) (t13 : Int) (t14 : Int) (l15 : List SArr2_Int) : Option R :=
  (bif (decide (t14 < t13)) then impl_Near6_k0 n kx0 J x9 y10 far11 t12 t13 t14 l15 else kx0 l15)
def impl_Near6_L14 {R : Type} (n : Nat) (kx2 : List Int → Option R) (J : Int → List Int → Option R) (t28 : Int) (t29 : Int) (out30 : List Int) (t31 : List SArr2_Int) : Option R :=
  (bif (decide (t29 < t28)) then ix t29 t31.length (chk (decide (t29.toNat < t31.length)) ((bd (t31.getD t29.toNat dSArr2_Int) fun (e35 : SArr2_Int) => chk (decide ((out30 ++ [e35.x1]).length * 8 ≤ 140737488355328)) (J (w64 (t29 + (1 : Int))) (out30 ++ [e35.x1]))))) else kx2 out30)
def impl_Near6_k1 (n : Nat)  (x1 : Int) (y2 : Int) (far3 : Int) (c8 : SChart) : Option (List Int) :=
  loopN (fun (x : Int × List SArr2_Int) J' => impl_Near6_L5 n (fun l26 => (slices_SortFunc_2_int_2_int__impl_Near6_1 n l26).bind fun r27 => loopN (fun (x : Int × List Int) J' => impl_Near6_L14 n (fun out36 => (impl_own_int n out36).bind fun r37 => some (r37)) (fun t38 out39 => J' (t38, out39)) (r27.length : Int) x.1 x.2 r27) n ((0 : Int), [])) (fun t40 l41 => J' (t40, l41)) x1 y2 far3 c8.Features (c8.Features.length : Int) x.1 x.2) n ((0 : Int), [])
def impl_Near6 (n : Nat) (c0 : SChart) (x1 : Int) (y2 : Int) (far3 : Int) : Option (List Int) :=
  (impl_ChartOk n c0).bind fun r1 => (bif (!r1) then some ([]) else (impl_Chart_place n c0 x1 y2).bind fun r3 => (bif (!r3) then some ([]) else (impl_in n far3 (0 : Int) (100 : Int)).bind fun r5 => (bif (!r5) then some ([]) else impl_Near6_k1 n  x1 y2 far3 c0)))
def laws_FnShoals_k0 {R : Type} (n : Nat) (kx0 : Int → Option R) (kxr : Bool → Option R) (J : Int → Int → Option R) (need14 : Int) (many23 : Int) (p24 : Int) (c17 : Int) (c18 : Int) (c19 : Int) (c20 : List Int) (c21 : List SFeature) (list22 : List Int) : Option R :=
  (bif decide (c17 = 0) then none else (bif decide (c17 = 0) then none else (impl_DepthAt n (⟨c17, c18, c20, c21, c19⟩ : SChart) (Int.tmod p24 c17) (w64 (Int.tdiv p24 c17))).bind fun r25 => (bif (!r25.2) then kxr false else (laws_within n list22 p24).bind fun r29 => (bif (!((decide (r25.1 < need14)) == r29)) then kxr false else (bif (decide (r25.1 < need14)) then (bd (w64 (many23 + (1 : Int))) fun (v50 : Int) => J v50 (w64 (p24 + (1 : Int)))) else J many23 (w64 (p24 + (1 : Int))))))))
def laws_FnShoals_L9 {R : Type} (n : Nat) (kx0 : Int → Option R) (kxr : Bool → Option R) (J : Int → Int → Option R) (need14 : Int) (many15 : Int) (p16 : Int) (c17 : Int) (c18 : Int) (c19 : Int) (c20 : List Int) (c21 : List SFeature) (list22 : List Int) : Option R :=
  (bif (decide (p16 < (c20.length : Int))) then laws_FnShoals_k0 n kx0 kxr J need14 many15 p16 c17 c18 c19 c20 c21 list22 else kx0 many15)
def laws_FnShoals_k1 {R : Type} (n : Nat) (kx2 : Option R) (kxr : Bool → Option R) (J : Int → Option R) (many57 : Int) (i66 : Int) (c59 : Int) (c60 : Int) (c61 : Int) (c62 : List Int) (c63 : List SFeature) (list64 : List Int) (near65 : List Int) : Option R :=
  chk (decide ((0 : Int) ≤ i66)) (chk (decide (i66 ≤ (near65.length : Int))) (ix i66 near65.length (chk (decide (i66.toNat < near65.length)) (chk (decide ((0 + (i66.toNat - 0)) ≤ near65.length)) ((laws_within n ((near65.drop 0).take (i66.toNat - 0)) (near65.getD i66.toNat (0 : Int))).bind fun r67 => (bif r67 then kxr false else J (w64 (i66 + (1 : Int)))))))))
def laws_FnShoals_L18 {R : Type} (n : Nat) (kx2 : Option R) (kxr : Bool → Option R) (J : Int → Option R) (many57 : Int) (i58 : Int) (c59 : Int) (c60 : Int) (c61 : Int) (c62 : List Int) (c63 : List SFeature) (list64 : List Int) (near65 : List Int) : Option R :=
  (bif (decide (i58 < (near65.length : Int))) then laws_FnShoals_k1 n kx2 kxr J many57 i58 c59 c60 c61 c62 c63 list64 near65 else kx2)
def laws_FnShoals_k2 (n : Nat)  (need7 : Int) (c8 : Int) (c9 : Int) (c10 : Int) (t11 : List Int) (t12 : List SFeature) : Option Bool :=
  (impl_Shoals n (⟨c8, c9, t11, t12, c10⟩ : SChart) need7).bind fun r13 => loopN (fun (x : Int × Int) J' => laws_FnShoals_L9 n (fun many55 => (impl_Near6 n (⟨c8, c9, t11, t12, c10⟩ : SChart) (0 : Int) (0 : Int) (100 : Int)).bind fun r56 => loopN (fun (x : Int) J' => laws_FnShoals_L18 n ((bif (decide (many55 = (r13.length : Int))) then (bif (decide ((r56.length : Int) = (t12.length : Int))) then (impl_ChartOk n (⟨c8, c9, t11, t12, c10⟩ : SChart)).bind fun r69 => some (r69) else some (false)) else some (false))) (fun t71 => some (t71)) J' many55 x c8 c9 c10 t11 t12 r13 r56) n ((0 : Int))) (fun t73 => some (t73)) (fun many74 p75 => J' (many74, p75)) need7 x.1 x.2 c8 c9 c10 t11 t12 r13) n ((0 : Int), (0 : Int))
def laws_FnShoals_k3 (n : Nat)  (code0 : List Int) : Option Bool :=
  (spec_DrawShoals n code0).bind fun r2 => (spec_ChartOk n r2.1).bind fun r3 => (bif (!r3) then (impl_ChartOk n r2.1).bind fun r4 => (bif (!r4) then (impl_Shoals n r2.1 r2.2).bind fun r5 => some ((decide ((r5.length : Int) = (0 : Int)))) else some (false)) else laws_FnShoals_k2 n  r2.2 r2.1.Wide r2.1.High r2.1.Edition r2.1.Depths r2.1.Features)
def laws_FnShoals (n : Nat) (code0 : List Int) : Option Bool :=
  (laws_big n code0).bind fun r1 => (bif r1 then some (true) else laws_FnShoals_k3 n  code0)
def rng (a b x : Int) : Prop := a ≤ x ∧ x ≤ b
def wfSFeature (x : SFeature) : Prop := rng (-9223372036854775808) 9223372036854775807 x.Id ∧ rng (-9223372036854775808) 9223372036854775807 x.Kind ∧ rng (-9223372036854775808) 9223372036854775807 x.X ∧ rng (-9223372036854775808) 9223372036854775807 x.Y ∧ x.Text.size ≤ 9223372036854775807
def wfSChart (x : SChart) : Prop := rng (-9223372036854775808) 9223372036854775807 x.Wide ∧ rng (-9223372036854775808) 9223372036854775807 x.High ∧ (x.Depths.length ≤ 9223372036854775807 ∧ ∀ y ∈ x.Depths, rng (-9223372036854775808) 9223372036854775807 y) ∧ (x.Features.length ≤ 9223372036854775807 ∧ ∀ y ∈ x.Features, wfSFeature y) ∧ rng (-9223372036854775808) 9223372036854775807 x.Edition
def wfSl1Cur (x : Sl1Cur) : Prop := (x.b.length ≤ 9223372036854775807 ∧ ∀ y ∈ x.b, rng 0 255 y) ∧ rng (-9223372036854775808) 9223372036854775807 x.i ∧ rng (-9223372036854775808) 9223372036854775807 x.h
def wfSArr2_Int (x : SArr2_Int) : Prop := rng (-9223372036854775808) 9223372036854775807 x.x0 ∧ rng (-9223372036854775808) 9223372036854775807 x.x1
end Go.Sm

section
set_option linter.unusedSimpArgs false
set_option linter.deprecated false
set_option linter.unusedSectionVars false
set_option linter.unusedVariables false
namespace Go.Sm
/-! ### Of the words that printed functions are made of -/
theorem w64_id {x : Int} (h1 : -9223372036854775808 ≤ x) (h2 : x ≤ 9223372036854775807) : w64 x = x := by
  show (let m := x % (2 ^ 64 : Int); if (true && decide ((2 : Int) ^ 63 ≤ m)) = true then m - 2 ^ 64 else m) = x
  simp only [Bool.true_and, decide_eq_true_eq]
  split <;> omega
theorem w64_rng (x : Int) : -9223372036854775808 ≤ w64 x ∧ w64 x ≤ 9223372036854775807 := by
  show -9223372036854775808 ≤ (let m := x % (2 ^ 64 : Int); if (true && decide ((2 : Int) ^ 63 ≤ m)) = true then m - 2 ^ 64 else m) ∧ (let m := x % (2 ^ 64 : Int); if (true && decide ((2 : Int) ^ 63 ≤ m)) = true then m - 2 ^ 64 else m) ≤ 9223372036854775807
  simp only [Bool.true_and, decide_eq_true_eq]
  split <;> omega
theorem chk_of {R : Type} {b : Bool} {x : Option R} (h : b = true) : chk b x = x := by rw [h]; rfl
theorem chk_true {R : Type} {x : Option R} : chk true x = x := rfl
theorem chk_dec {R : Type} {p : Prop} [Decidable p] {x : Option R} (h : p) : chk (decide p) x = x := chk_of (decide_eq_true h)
theorem ix_of {R : Type} {i : Int} {len : Nat} {x : Option R} (h0 : 0 ≤ i) (h1 : i < (len : Int)) : ix i len x = x := by
  unfold ix
  rw [decide_eq_true h0, decide_eq_true h1]
  rfl
theorem ix_nat {R : Type} {i len : Nat} {x : Option R} (h1 : i < len) : ix (i : Int) len x = x := ix_of (by omega) (by omega)
theorem bif_dec {α : Type} {p : Prop} [Decidable p] {x y : α} : (bif decide p then x else y) = if p then x else y := by
  by_cases h : p <;> simp [h]
theorem bif_not {α : Type} {b : Bool} {x y : α} : (bif !b then x else y) = bif b then y else x := by cases b <;> rfl
theorem bif_and {α : Type} {a b : Bool} {x y : α} : (bif a && b then x else y) = bif a then (bif b then x else y) else y := by cases a <;> rfl
theorem loopN_succ {X R : Type} (b : X → (X → Option R) → Option R) (m : Nat) (x : X) : loopN b (m + 1) x = b x (loopN b m) := rfl
/-- What holds of a loop: by what is left to go. -/
theorem loopN_ind {X R : Type} {b : X → (X → Option R) → Option R} (μ : X → Nat) (I : X → Prop) (Q : X → Option R → Prop)
    (h : ∀ x J, I x → (∀ y, I y → μ y < μ x → Q y (J y)) → Q x (b x J)) : ∀ n x, I x → μ x < n → Q x (loopN b n x)
  | 0, x, hi, hm => absurd hm (Nat.not_lt_zero _)
  | n + 1, x, hi, hm => h x (loopN b n) hi fun y hy hl => loopN_ind μ I Q h n y hy (by omega)
theorem getD_eq {α : Type} {l : List α} {i : Nat} {d : α} (h : i < l.length) : l.getD i d = l[i] := by
  simp [List.getD, h]
theorem w64_succ {k : Nat} (h : k < 9223372036854775807) : w64 ((k : Int) + 1) = ((k + 1 : Nat) : Int) := by
  rw [w64_id (by omega) (by omega)]
  rfl
theorem take_succ_getD {α : Type} {l : List α} {i : Nat} {d : α} (h : i < l.length) : l.take (i + 1) = l.take i ++ [l.getD i d] := by
  rw [List.take_succ, getD_eq h, List.getElem?_eq_getElem h]
  rfl
theorem drop_getD {α : Type} {l : List α} {i : Nat} {d : α} (h : i < l.length) : l.drop i = l.getD i d :: l.drop (i + 1) := by
  rw [getD_eq h]
  exact List.drop_eq_getElem_cons h
theorem bd_eq {α β : Type} (e : α) (f : α → β) : bd e f = f e := rfl
theorem bd_set {α β : Type} {Q : β → Prop} {F : List α → β} {p : List α} {i : Nat} {x : α} (h : ∀ l : List α, l.length = p.length → Q (F l)) : Q (bd (p.set i x) F) := h _ (by simp)
theorem bd_is {α β : Type} {Q : β → Prop} {F : α → β} {e : α} (h : ∀ v : α, v = e → Q (F v)) : Q (bd e F) := h _ rfl
theorem bd_val {α β : Type} {Q : β → Prop} {F : α → β} {e : α} (h : ∀ v : α, Q (F v)) : Q (bd e F) := h _
theorem chk_q {R : Type} {Q : Option R → Prop} {b : Bool} {x : Option R} (h : b = true) (hx : Q x) : Q (chk b x) := by rw [chk_of h]; exact hx
theorem ix_q {R : Type} {Q : Option R → Prop} {i : Int} {len : Nat} {x : Option R} (h0 : 0 ≤ i) (h1 : i < (len : Int)) (hx : Q x) : Q (ix i len x) := by rw [ix_of h0 h1]; exact hx
theorem bd_upd {α β : Type} {Q : β → Prop} {F : List α → β} {p : List α} {i : Nat} {x d : α} (hi : i < p.length) (h : ∀ l : List α, l.length = p.length → l.getD i d = x → (∀ j, j ≠ i → l.getD j d = p.getD j d) → Q (F l)) : Q (bd (p.set i x) F) :=
  h _ (by simp) (by simp [List.getD, hi]) (fun j hj => by simp [List.getD, List.getElem?_set, Ne.symm hj])
/-- A list written from the front. -/
theorem set_take {α : Type} {a : List α} {d : α} {m k : Nat} (h : k < a.length) (hm : m = a.length := by rfl) : (a.take k ++ (List.replicate m d).drop k).set k (a.getD k d) = a.take (k + 1) ++ (List.replicate m d).drop (k + 1) := by
  subst hm
  have h1 : (a.take k).length = k := by simp; omega
  rw [List.set_append_right _ _ (by omega), h1, Nat.sub_self, take_succ_getD h, List.append_assoc]
  congr 1
  rw [List.drop_eq_getElem_cons (by simp; exact h)]
  rfl
/-! ### Loops over 0 .. len, by what is left -/
/-- Steps k, k+1, .. told one after the other; J: what comes behind a step. -/
def forK {S R : Type} (step : Nat → S → (S → Option R) → Option R) (fin : S → Option R) : Nat → Nat → S → Option R
  | 0, _, s => fin s
  | m + 1, k, s => step k s fun s' => forK step fin m (k + 1) s'
theorem loop_forK {X S R : Type} {b : X → (X → Option R) → Option R} {enc : Nat → S → X} {len : Nat} {step : Nat → S → (S → Option R) → Option R} {fin : S → Option R} (I : Nat → S → Prop)
    (hstep : ∀ k s J J', k < len → I k s → (∀ s', I (k + 1) s' → J (enc (k + 1) s') = J' s') → b (enc k s) J = step k s J') (hfin : ∀ s J, I len s → b (enc len s) J = fin s) :
    ∀ m k s n, k + m = len → m < n → I k s → loopN b n (enc k s) = forK step fin m k s
  | 0, k, s, 0, _, h, _ => absurd h (Nat.lt_irrefl _)
  | 0, k, s, n + 1, hk, _, hi => by
    have hk : k = len := by omega
    subst hk
    exact hfin s _ hi
  | m + 1, k, s, 0, _, h, _ => absurd h (Nat.not_lt_zero _)
  | m + 1, k, s, n + 1, hk, hn, hi => by
    show b (enc k s) (loopN b n) = step k s fun s' => forK step fin m (k + 1) s'
    exact hstep k s _ _ (by omega) hi fun s' hi' => loop_forK I hstep hfin m (k + 1) s' n (by omega) (by omega) hi'
/-- The first k at which f answers; at none: z. -/
def scanK {R : Type} (f : Nat → Option (Option R)) (z : Option R) : Nat → Nat → Option R
  | 0, _ => z
  | m + 1, k => match f k with
    | some r => r
    | none => scanK f z m (k + 1)
theorem loop_scan {X R : Type} {b : X → (X → Option R) → Option R} {enc : Nat → X} {len : Nat} {f : Nat → Option (Option R)} {z : Option R}
    (hstep : ∀ k J, k < len → b (enc k) J = match f k with | some r => r | none => J (enc (k + 1))) (hfin : ∀ J, b (enc len) J = z) :
    ∀ m k n, k + m = len → m < n → loopN b n (enc k) = scanK f z m k
  | 0, k, 0, _, h => absurd h (Nat.lt_irrefl _)
  | 0, k, n + 1, hk, _ => by
    have hk : k = len := by omega
    subst hk
    exact hfin _
  | m + 1, k, 0, _, h => absurd h (Nat.not_lt_zero _)
  | m + 1, k, n + 1, hk, hn => by
    show b (enc k) (loopN b n) = _
    rw [hstep k _ (by omega)]
    unfold scanK
    cases f k with
    | some r => rfl
    | none => exact loop_scan hstep hfin m (k + 1) n (by omega) (by omega)
/-- Is p so of all of k, .. k + m - 1? -/
theorem scan_all {R : Type} {p : Nat → Bool} {r z : Option R} : ∀ m k, scanK (fun k => bif p k then none else some r) z m k = bif (List.range' k m).all p then z else r
  | 0, k => rfl
  | m + 1, k => by
    rw [scanK, List.range'_succ, List.all_cons]
    cases h : p k with
    | true => simp only [cond_true, Bool.true_and]; exact scan_all m (k + 1)
    | false => rfl
theorem scan_any {R : Type} {p : Nat → Bool} {r z : Option R} : ∀ m k, scanK (fun k => bif p k then some r else none) z m k = bif (List.range' k m).any p then r else z
  | 0, k => rfl
  | m + 1, k => by
    rw [scanK, List.range'_succ, List.any_cons]
    cases h : p k with
    | false => simp only [cond_false, Bool.false_or]; exact scan_any m (k + 1)
    | true => rfl
theorem mgetI_mputI {β : Type} (l : List (Int × β)) (n m : Int) (v : β) : mgetI (mputI l n v) m = if m = n then some v else mgetI l m := by
  unfold mgetI mputI
  induction l with
  | nil =>
    by_cases h : m = n <;> simp [h]
  | cons a l ih =>
    rw [List.findIdx?_cons]
    by_cases h : n = a.1
    · simp only [h, decide_true, if_true, Option.elim_some, List.set_cons_zero, List.find?_cons]
      by_cases h2 : m = a.1
      · simp [h2]
      · simp [h2]
    · simp only [h, decide_false, Bool.false_eq_true, if_false]
      cases hf : l.findIdx? (fun e => decide (n = e.1)) with
      | none =>
        rw [hf] at ih
        simp only [Option.elim_none] at ih
        simp only [Option.map_none, Option.elim_none, List.cons_append, List.find?_cons]
        by_cases h2 : m = a.1
        · have : m ≠ n := fun e => h (e ▸ h2)
          simp [h2]
          simp [h2] at this
          simp [this]
        · simp only [h2, decide_false]
          exact ih
      | some i =>
        rw [hf] at ih
        simp only [Option.elim_some] at ih
        simp only [Option.map_some, Option.elim_some, List.set_cons_succ, List.find?_cons]
        by_cases h2 : m = a.1
        · have : m ≠ n := fun e => h (e ▸ h2)
          simp [h2]
          simp [h2] at this
          simp [this]
        · simp only [h2, decide_false]
          exact ih
theorem mgetI_nil {β : Type} (m : Int) : mgetI ([] : List (Int × β)) m = none := rfl
/-! ### Chains of tests -/
theorem bif_and' {α : Type} {a b : Bool} {x y : α} : (bif a then (bif b then x else y) else y) = bif a && b then x else y := by cases a <;> rfl
theorem bif_or' {α : Type} {a b : Bool} {x y : α} : (bif a then y else (bif b then x else y)) = bif !a && b then x else y := by cases a <;> rfl
theorem bif_and2 {α : Type} {a b : Bool} {x y : α} : (bif a then (bif b then y else x) else y) = bif a && !b then x else y := by cases a <;> cases b <;> rfl
theorem bif_or2 {α : Type} {a b : Bool} {x y : α} : (bif a then y else (bif b then y else x)) = bif !a && !b then x else y := by cases a <;> cases b <;> rfl
theorem bif_some {α β : Type} {a : Bool} {x y : α} {f : α → Option β} : (bif a then some x else some y).bind f = bif a then f x else f y := by cases a <;> rfl
theorem bif_tf {a : Bool} : (bif a then some true else some false) = some a := by cases a <;> rfl
theorem bif_ft {a : Bool} : (bif a then some false else some true) = some (!a) := by cases a <;> rfl
theorem bif_sf {a b : Bool} : (bif a then some b else some false) = some (a && b) := by cases a <;> rfl
theorem all_range_succ {p : Nat → Bool} {k : Nat} : (List.range (k + 1)).all p = ((List.range k).all p && p k) := by
  rw [List.range_succ, List.all_append]
  simp
theorem any_range_succ {p : Nat → Bool} {k : Nat} : (List.range (k + 1)).any p = ((List.range k).any p || p k) := by
  rw [List.range_succ, List.any_append]
  simp
theorem all_range_not {p : Nat → Bool} {k m : Nat} (hk : k < m) (h : p k = false) : (List.range m).all p = false := by
  rw [Bool.eq_false_iff]
  intro e
  rw [List.all_eq_true] at e
  rw [e k (List.mem_range.2 hk)] at h
  cases h
theorem any_range_of {p : Nat → Bool} {k m : Nat} (hk : k < m) (h : p k = true) : (List.range m).any p = true := by
  rw [List.any_eq_true]
  exact ⟨k, List.mem_range.2 hk, h⟩
/-- A loop that looks at k = 0, 1, .. and leaves at the first that is not so. -/
theorem loop_all {R : Type} {b : Int → (Int → Option R) → Option R} {len : Nat} {p : Nat → Bool} {no yes : Option R} (hlen : len ≤ 9223372036854775807)
    (hstep : ∀ (k : Nat) (J : Int → Option R), k < len → (∀ j, j < k → p j = true) → b (k : Int) J = bif p k then J ((k + 1 : Nat) : Int) else no) (hfin : ∀ J, (∀ j, j < len → p j = true) → b (len : Int) J = yes) {n : Nat} (hn : len < n) :
    loopN b n (0 : Int) = bif (List.range len).all p then yes else no := by
  refine loopN_ind (fun x => len - x.toNat) (fun x => ∃ k : Nat, k ≤ len ∧ x = (k : Int) ∧ (List.range k).all p = true) (fun x r => r = bif (List.range len).all p then yes else no) ?_ n _ ⟨0, by omega, rfl, rfl⟩ (by simp; omega)
  rintro _ J ⟨k, hk, rfl, hb⟩ ih
  have hb' : ∀ j, j < k → p j = true := fun j hj => List.all_eq_true.1 hb j (List.mem_range.2 hj)
  by_cases h : k < len
  · rw [hstep k J h hb']
    cases hp : p k with
    | true => exact ih _ ⟨k + 1, h, rfl, by rw [all_range_succ, hb, hp]; rfl⟩ (by simp; omega)
    | false => rw [all_range_not h hp]; rfl
  · have : k = len := by omega
    subst this
    rw [hfin _ hb', hb]
    rfl
/-- The same, a state turned on the way (its invariant: I). -/
theorem loop_allS {S R : Type} {X : Type} {enc : Int → S → X} {b : X → (X → Option R) → Option R} {len : Nat} {p : Nat → Bool} {I : Nat → S → Prop} {no yes : Option R}
    (hstep : ∀ (k : Nat) (s : S) (J : X → Option R), k < len → I k s → (∀ j, j < k → p j = true) → ∃ s', (p k = true → I (k + 1) s') ∧ b (enc (k : Int) s) J = bif p k then J (enc ((k + 1 : Nat) : Int) s') else no) (hfin : ∀ s J, I len s → (∀ j, j < len → p j = true) → b (enc (len : Int) s) J = yes) {n : Nat} (hn : len < n) {s0 : S} (h0 : I 0 s0) :
    loopN b n (enc (0 : Int) s0) = bif (List.range len).all p then yes else no := by
  have key : ∀ m (k : Nat) (s : S) n, k + m = len → m < n → I k s → (List.range k).all p = true → loopN b n (enc (k : Int) s) = bif (List.range len).all p then yes else no := by
    intro m
    induction m with
    | zero =>
      intro k s n hk hn hi hb
      have hb' : ∀ j, j < k → p j = true := fun j hj => List.all_eq_true.1 hb j (List.mem_range.2 hj)
      have hk : k = len := by omega
      subst hk
      cases n with
      | zero => omega
      | succ n => rw [loopN_succ, hfin s _ hi hb', hb]; rfl
    | succ m ih =>
      intro k s n hk hn hi hb
      have hb' : ∀ j, j < k → p j = true := fun j hj => List.all_eq_true.1 hb j (List.mem_range.2 hj)
      cases n with
      | zero => omega
      | succ n =>
        rw [loopN_succ]
        obtain ⟨s', h1, h2⟩ := hstep k s (loopN b n) (by omega) hi hb'
        rw [h2]
        cases hp : p k with
        | true => exact ih (k + 1) s' n (by omega) (by omega) (h1 hp) (by rw [all_range_succ, hb, hp]; rfl)
        | false => rw [all_range_not (by omega : k < len) hp]; rfl
  exact key len 0 s0 n (by omega) hn h0 rfl
/-- A loop over 0 .. len that never leaves early; its state: I. -/
theorem loop_runS {S R : Type} {X : Type} {enc : Int → S → X} {b : X → (X → Option R) → Option R} {len : Nat} {I : Nat → S → Prop} {Q : Option R → Prop}
    (hstep : ∀ (k : Nat) (s : S) (J : X → Option R), k < len → I k s → ∃ s', I (k + 1) s' ∧ b (enc (k : Int) s) J = J (enc ((k + 1 : Nat) : Int) s')) (hfin : ∀ s J, I len s → Q (b (enc (len : Int) s) J)) {n : Nat} (hn : len < n) {s0 : S} (h0 : I 0 s0) :
    Q (loopN b n (enc (0 : Int) s0)) := by
  have key : ∀ m (k : Nat) (s : S) n, k + m = len → m < n → I k s → Q (loopN b n (enc (k : Int) s)) := by
    intro m
    induction m with
    | zero =>
      intro k s n hk hn hi
      have hk : k = len := by omega
      subst hk
      cases n with
      | zero => omega
      | succ n => rw [loopN_succ]; exact hfin s _ hi
    | succ m ih =>
      intro k s n hk hn hi
      cases n with
      | zero => omega
      | succ n =>
        rw [loopN_succ]
        obtain ⟨s', h1, h2⟩ := hstep k s (loopN b n) (by omega) hi
        rw [h2]
        exact ih (k + 1) s' n (by omega) (by omega) h1
  exact key len 0 s0 n (by omega) hn h0
/-! ### Sums over lists -/
def sumOf {α : Type} (f : α → Nat) : List α → Nat
  | [] => 0
  | a :: l => f a + sumOf f l
theorem sumOf_append {α : Type} (f : α → Nat) : ∀ a b : List α, sumOf f (a ++ b) = sumOf f a + sumOf f b
  | [], b => by simp [sumOf]
  | x :: a, b => by simp only [List.cons_append, sumOf, sumOf_append f a b]; omega
theorem sumOf_take_succ {α : Type} {f : α → Nat} {l : List α} {k : Nat} {d : α} (h : k < l.length) : sumOf f (l.take (k + 1)) = sumOf f (l.take k) + f (l.getD k d) := by
  rw [take_succ_getD (d := d) h, sumOf_append]
  simp [sumOf]
theorem sumOf_take_le {α : Type} (f : α → Nat) (l : List α) (k : Nat) : sumOf f (l.take k) ≤ sumOf f l := by
  have := sumOf_append f (l.take k) (l.drop k)
  rw [List.take_append_drop] at this
  omega
theorem sumOf_mem {α : Type} {f : α → Nat} {l : List α} {k : Nat} {d : α} (h : k < l.length) : f (l.getD k d) ≤ sumOf f l := by
  have h1 := sumOf_take_succ (f := f) (d := d) h
  have h2 := sumOf_take_le f l (k + 1)
  omega
theorem sumOf_lin {α : Type} {f g : α → Nat} {c s : Nat} (h : ∀ y, f y ≤ c * g y + s) : ∀ l : List α, sumOf f l ≤ c * sumOf g l + s * l.length
  | [] => by simp [sumOf]
  | a :: l => by
    have h1 := h a
    have h2 := sumOf_lin h l
    simp only [sumOf, List.length_cons, Nat.mul_add, Nat.mul_succ]
    omega
theorem sumOf_const {α : Type} (c : Nat) : ∀ l : List α, sumOf (fun _ => c) l = c * l.length
  | [] => by simp [sumOf]
  | a :: l => by simp only [sumOf, sumOf_const c l, List.length_cons, Nat.mul_succ]; omega
theorem getD_set {α : Type} {l : List α} {k : Nat} {x d : α} (h : k < l.length) : (l.set k x).getD k d = x := by simp [List.getD, h]
theorem getD_set_ne {α : Type} {l : List α} {k j : Nat} {x d : α} (h : j ≠ k) : (l.set k x).getD j d = l.getD j d := by simp [List.getD, List.getElem?_set, Ne.symm h]
theorem getD_mem {α : Type} {l : List α} {k : Nat} {d : α} (h : k < l.length) : l.getD k d ∈ l := by rw [getD_eq h]; exact List.getElem_mem h
theorem take_drop_set {α : Type} {a : List α} {d : α} {m k : Nat} {x : α} (h : k < a.length) (hm : m = a.length) (hx : x = a.getD k d) : (a.take k ++ (List.replicate m d).drop k).set k x = a.take (k + 1) ++ (List.replicate m d).drop (k + 1) := by
  subst hx
  exact set_take h hm
/-! ### The first that is so -/
def idxOf (p : Nat → Bool) (m : Nat) : Int := match (List.range m).find? p with
  | some k => (k : Int)
  | none => -1
theorem find_range_none {p : Nat → Bool} {m : Nat} (h : ∀ j, j < m → p j = false) : (List.range m).find? p = none := by
  rw [List.find?_eq_none]
  intro x hx
  rw [h x (List.mem_range.1 hx)]
  simp
theorem find_range_some {p : Nat → Bool} {m k : Nat} (hk : k < m) (hp : p k = true) (h : ∀ j, j < k → p j = false) : (List.range m).find? p = some k := by
  have e : m = k + (m - k) := by omega
  rw [e, List.range_add, List.find?_append, find_range_none h, Option.none_or]
  obtain ⟨r, hr⟩ : ∃ r, m - k = r + 1 := ⟨m - k - 1, by omega⟩
  rw [hr, List.range_succ_eq_map]
  simp [hp]
theorem idxOf_ge (p : Nat → Bool) (m : Nat) : decide (idxOf p m ≥ 0) = (List.range m).any p := by
  unfold idxOf
  cases h : (List.range m).find? p with
  | none =>
    rw [List.find?_eq_none] at h
    rw [show (List.range m).any p = false from by rw [List.any_eq_false]; exact h]
    rfl
  | some k =>
    have h1 := List.find?_some h
    rw [show (List.range m).any p = true from List.any_eq_true.2 ⟨k, List.mem_of_find?_eq_some h, h1⟩]
    exact decide_eq_true (by show (0 : Int) ≤ (k : Int); omega)
theorem idxOf_lt (p : Nat → Bool) (m : Nat) : decide (idxOf p m < 0) = !(List.range m).any p := by
  rw [← idxOf_ge]
  by_cases h : idxOf p m < 0
  · rw [decide_eq_true h, decide_eq_false (by omega)]; rfl
  · rw [decide_eq_false h, decide_eq_true (by omega)]; rfl
theorem find_range (p : Nat → Bool) : ∀ m, ((List.range m).find? p = none ∧ ∀ j, j < m → p j = false) ∨ ∃ k, (List.range m).find? p = some k ∧ k < m ∧ p k = true ∧ ∀ j, j < k → p j = false
  | 0 => .inl ⟨rfl, fun j hj => absurd hj (Nat.not_lt_zero _)⟩
  | m + 1 => by
    rcases find_range p m with ⟨h1, h2⟩ | ⟨k, h1, h2, h3, h4⟩
    · cases hp : p m with
      | true => exact .inr ⟨m, find_range_some (by omega) hp h2, by omega, hp, h2⟩
      | false =>
        have : ∀ j, j < m + 1 → p j = false := fun j hj => by
          by_cases e : j = m
          · rw [e]; exact hp
          · exact h2 j (by omega)
        exact .inl ⟨find_range_none this, this⟩
    · exact .inr ⟨k, find_range_some (by omega) h3 h4, by omega, h3, h4⟩
theorem idxOf_spec (p : Nat → Bool) (m : Nat) : (idxOf p m = -1 ∧ ∀ j, j < m → p j = false) ∨ ∃ k : Nat, idxOf p m = (k : Int) ∧ k < m ∧ p k = true ∧ ∀ j, j < k → p j = false := by
  unfold idxOf
  rcases find_range p m with ⟨h1, h2⟩ | ⟨k, h1, h2, h3, h4⟩
  · rw [h1]; exact .inl ⟨rfl, h2⟩
  · rw [h1]; exact .inr ⟨k, rfl, h2, h3, h4⟩
/-- A loop that looks at k = 0, 1, .. and leaves at the first that is so. -/
theorem loop_find {R : Type} {b : Int → (Int → Option R) → Option R} {len : Nat} {p : Nat → Bool} {yes : Nat → Option R} {no : Option R} (hlen : len ≤ 9223372036854775807)
    (hstep : ∀ (k : Nat) (J : Int → Option R), k < len → (∀ j, j < k → p j = false) → b (k : Int) J = bif p k then yes k else J ((k + 1 : Nat) : Int)) (hfin : ∀ J, (∀ j, j < len → p j = false) → b (len : Int) J = no) {n : Nat} (hn : len < n) :
    loopN b n (0 : Int) = match (List.range len).find? p with | some k => yes k | none => no := by
  refine loopN_ind (fun x => len - x.toNat) (fun x => ∃ k : Nat, k ≤ len ∧ x = (k : Int) ∧ ∀ j, j < k → p j = false) (fun x r => r = match (List.range len).find? p with | some k => yes k | none => no) ?_ n _ ⟨0, by omega, rfl, fun j hj => absurd hj (Nat.not_lt_zero _)⟩ (by simp; omega)
  rintro _ J ⟨k, hk, rfl, hb⟩ ih
  by_cases h : k < len
  · rw [hstep k J h hb]
    cases hp : p k with
    | false => exact ih _ ⟨k + 1, h, rfl, fun j hj => by
        by_cases e : j = k
        · rw [e]; exact hp
        · exact hb j (by omega)⟩ (by simp; omega)
    | true => rw [find_range_some h hp hb]; rfl
  · have : k = len := by omega
    subst this
    rw [hfin _ hb, find_range_none hb]
theorem loop_idx {b : Int → (Int → Option Int) → Option Int} {len : Nat} {p : Nat → Bool} (hlen : len ≤ 9223372036854775807)
    (hstep : ∀ (k : Nat) (J : Int → Option Int), k < len → (∀ j, j < k → p j = false) → b (k : Int) J = bif p k then some (k : Int) else J ((k + 1 : Nat) : Int)) (hfin : ∀ J, (∀ j, j < len → p j = false) → b (len : Int) J = some (-1)) {n : Nat} (hn : len < n) :
    loopN b n (0 : Int) = some (idxOf p len) := by
  rw [loop_find (yes := fun k => some (k : Int)) (no := some (-1)) hlen hstep hfin hn]
  unfold idxOf
  cases (List.range len).find? p <;> rfl
theorem byteAt_rng (s : ByteArray) (k : Nat) : 0 ≤ byteAt s k ∧ byteAt s k ≤ 255 := by
  unfold byteAt
  have := (s.data.getD k 0).toNat_lt
  omega
theorem range_any {α : Type} {l : List α} {d : α} {f : α → Bool} : (List.range l.length).any (fun k => f (l.getD k d)) = l.any f := by
  induction l with
  | nil => rfl
  | cons a l ih =>
    rw [List.length_cons, List.range_succ_eq_map, List.any_cons, List.any_map, List.any_cons, ← ih]
    rfl
theorem range_all {α : Type} {l : List α} {d : α} {f : α → Bool} : (List.range l.length).all (fun k => f (l.getD k d)) = l.all f := by
  induction l with
  | nil => rfl
  | cons a l ih =>
    rw [List.length_cons, List.range_succ_eq_map, List.all_cons, List.all_map, List.all_cons, ← ih]
    rfl
theorem all_congr_lt {p q : Nat → Bool} {m : Nat} (h : ∀ k, k < m → p k = q k) : (List.range m).all p = (List.range m).all q := by
  rw [Bool.eq_iff_iff, List.all_eq_true, List.all_eq_true]
  constructor
  · intro g x hx; rw [← h x (List.mem_range.1 hx)]; exact g x hx
  · intro g x hx; rw [h x (List.mem_range.1 hx)]; exact g x hx
theorem any_congr_lt {p q : Nat → Bool} {m : Nat} (h : ∀ k, k < m → p k = q k) : (List.range m).any p = (List.range m).any q := by
  rw [Bool.eq_iff_iff, List.any_eq_true, List.any_eq_true]
  constructor
  · rintro ⟨x, hx, g⟩; exact ⟨x, hx, by rw [← h x (List.mem_range.1 hx)]; exact g⟩
  · rintro ⟨x, hx, g⟩; exact ⟨x, hx, by rw [h x (List.mem_range.1 hx)]; exact g⟩
theorem guard_sz {w : Nat} {x : Option Bool} (h : w ≤ 1048576 → x = some true) : (bif decide ((if (w : Int) ≤ 1048576 then 1048576 - (w : Int) else -1) < 0) then some true else x) = some true := by
  by_cases c : (w : Int) ≤ 1048576
  · rw [if_pos c, decide_eq_false (by omega), cond_false]
    exact h (by omega)
  · rw [if_neg c]
    rfl
end Go.Sm
end

section
set_option linter.unusedSimpArgs false
set_option linter.deprecated false
set_option linter.unusedSectionVars false
set_option linter.unusedVariables false
set_option linter.unusedSimpArgs false
namespace Go.Sm
attribute [local irreducible] bd chk ix loopN
end Go.Sm
end

section
set_option linter.unusedSimpArgs false
set_option linter.deprecated false
set_option linter.unusedSectionVars false
set_option linter.unusedVariables false
set_option linter.unusedSimpArgs false
namespace Go.Sm
attribute [local irreducible] bd chk ix loopN
/-! ### Draws -/
structure CurOk (c : Sl1Cur) : Prop where
  i : 0 ≤ c.i ∧ c.i ≤ (c.b.length : Int)
  len : c.b.length ≤ 1048576
theorem and255 (v : Int) : 0 ≤ w64 (((BitVec.ofInt 64 v &&& BitVec.ofInt 64 (255 : Int)).toNat : Nat) : Int) ∧ w64 (((BitVec.ofInt 64 v &&& BitVec.ofInt 64 (255 : Int)).toNat : Nat) : Int) ≤ 255 := by
  have h : (BitVec.ofInt 64 v &&& BitVec.ofInt 64 (255 : Int)).toNat ≤ 255 := by
    rw [BitVec.toNat_and]
    exact Nat.and_le_right
  rw [w64_id (by omega) (by omega)]
  omega
theorem byte_ok {n : Nat} {c : Sl1Cur} (h : CurOk c) : ∃ v c', spec_l1Byte n c = some (v, c') ∧ (0 ≤ v ∧ v ≤ 255) ∧ CurOk c' := by
  have h1 := h.i
  have h2 := h.len
  unfold spec_l1Byte
  simp only [bd_eq]
  by_cases hc : c.i < (c.b.length : Int)
  · rw [decide_eq_true hc, cond_true, ix_of h1.1 hc]
    refine ⟨_, _, rfl, and255 _, ⟨?_, h2⟩⟩
    show 0 ≤ w64 (c.i + 1) ∧ w64 (c.i + 1) ≤ (c.b.length : Int)
    rw [w64_id (by omega) (by omega)]
    omega
  · rw [decide_eq_false hc, cond_false]
    exact ⟨_, _, rfl, and255 _, ⟨h1, h2⟩⟩
theorem below_ok {n : Nat} {c : Sl1Cur} (h : CurOk c) {m : Int} (hm : 1 ≤ m ∧ m ≤ 256) : ∃ v c', spec_l1Below n c m = some (v, c') ∧ (0 ≤ v ∧ v < m) ∧ CurOk c' := by
  obtain ⟨v, c', h1, h2, h3⟩ := byte_ok (n := n) h
  unfold spec_l1Below
  rw [decide_eq_false (show ¬ m ≤ 0 by omega), cond_false, decide_eq_true (show m ≤ 256 by omega), cond_true, h1, Option.bind_some, decide_eq_false (show ¬ m = 0 by omega), cond_false]
  exact ⟨_, _, rfl, ⟨Int.tmod_nonneg _ h2.1, Int.tmod_lt_of_pos _ (by omega)⟩, h3⟩
theorem new_ok {n : Nat} (code : List Int) (hc : code.length ≤ 1048576) (hn : 1000000000 < n) : ∃ c, spec_l1New n code = some c ∧ CurOk c := by
  have hw : w64 ((59059 : Int) + (code.length : Int)) = 59059 + (code.length : Int) := w64_id (by omega) (by omega)
  unfold spec_l1New
  rw [bd_eq]
  have key : ∀ m k h fu, k + m = code.length → m < fu → ∃ c, loopN (fun (x : Int × Int) J' => spec_l1New_L3 n (fun h16 => some ((⟨code, (0 : Int), h16⟩ : Sl1Cur))) (fun h17 i18 => J' (h17, i18)) code x.1 x.2) fu (h, (k : Int)) = some c ∧ CurOk c := by
    intro m
    induction m with
    | zero =>
      intro k h fu hk hfu
      obtain ⟨f, rfl⟩ : ∃ f, fu = f + 1 := ⟨fu - 1, by omega⟩
      rw [loopN_succ]
      refine ⟨⟨code, 0, h⟩, ?_, ⟨by show (0 : Int) ≤ 0 ∧ (0 : Int) ≤ (code.length : Int); omega, hc⟩⟩
      show spec_l1New_L3 n _ _ code h (k : Int) = _
      unfold spec_l1New_L3
      rw [decide_eq_false (by omega), cond_false]
    | succ m ih =>
      intro k h fu hk hfu
      obtain ⟨f, rfl⟩ : ∃ f, fu = f + 1 := ⟨fu - 1, by omega⟩
      rw [loopN_succ]
      have hstep : ∀ J : Int → Int → Option Sl1Cur, ∃ h', spec_l1New_L3 n (fun h16 => some ((⟨code, (0 : Int), h16⟩ : Sl1Cur))) J code h (k : Int) = J h' ((k + 1 : Nat) : Int) ∨ spec_l1New_L3 n (fun h16 => some ((⟨code, (0 : Int), h16⟩ : Sl1Cur))) J code h (k : Int) = some ⟨code, 0, h⟩ := by
        intro J
        unfold spec_l1New_L3 spec_l1New_k0
        rw [decide_eq_true (show (k : Int) < (code.length : Int) by omega), cond_true]
        cases decide ((k : Int) < 4000) with
        | true =>
          rw [cond_true, ix_nat (by omega), bd_eq, bd_eq, w64_succ (show k < 9223372036854775807 by omega)]
          exact ⟨_, .inl rfl⟩
        | false => exact ⟨0, .inr rfl⟩
      obtain ⟨h', e | e⟩ := hstep (fun h17 i18 => loopN (fun (x : Int × Int) J' => spec_l1New_L3 n (fun h16 => some ((⟨code, (0 : Int), h16⟩ : Sl1Cur))) (fun h17 i18 => J' (h17, i18)) code x.1 x.2) f (h17, i18))
      · obtain ⟨c, g1, g2⟩ := ih (k + 1) h' f (by omega) (by omega)
        exact ⟨c, e.trans g1, g2⟩
      · exact ⟨⟨code, 0, h⟩, e, ⟨by show (0 : Int) ≤ 0 ∧ (0 : Int) ≤ (code.length : Int); omega, hc⟩⟩
  exact key code.length 0 _ n (by omega) (by omega)
theorem pick_ok {n : Nat} {c : Sl1Cur} (h : CurOk c) {l : List ByteArray} (hl : 1 ≤ l.length ∧ l.length ≤ 256) : ∃ v c', spec_l1Pick n c l = some (v, c') ∧ CurOk c' := by
  obtain ⟨v, c', h1, h2, h3⟩ := below_ok (n := n) h (m := (l.length : Int)) (by omega)
  unfold spec_l1Pick
  rw [h1, Option.bind_some, ix_of h2.1 h2.2]
  exact ⟨_, _, rfl, h3⟩
theorem pickInt_ok {n : Nat} {c : Sl1Cur} (h : CurOk c) {l : List Int} (hl : 1 ≤ l.length ∧ l.length ≤ 256) : ∃ v c', spec_l1PickInt n c l = some (v, c') ∧ CurOk c' := by
  obtain ⟨v, c', h1, h2, h3⟩ := below_ok (n := n) h (m := (l.length : Int)) (by omega)
  unfold spec_l1PickInt
  rw [h1, Option.bind_some, ix_of h2.1 h2.2]
  exact ⟨_, _, rfl, h3⟩
structure ChDrawn (c : SChart) : Prop where
  d : 1 ≤ c.Depths.length ∧ c.Depths.length ≤ 100
  f : c.Features.length ≤ 100
structure ChSmall (c : SChart) : Prop where
  d : 1 ≤ c.Depths.length ∧ c.Depths.length ≤ 25
  f : c.Features.length ≤ 10
theorem draw_ch {n : Nat} {c : Sl1Cur} (hc : CurOk c) (hn : 1000000000 < n) : ∃ h c', spec_l6Draw n c = some (h, c') ∧ ChSmall h ∧ CurOk c' := by
  obtain ⟨v1, c1, e1, a1, q1⟩ := below_ok (n := n) hc (m := 5) (by omega)
  obtain ⟨v2, c2, e2, a2, q2⟩ := below_ok (n := n) q1 (m := 5) (by omega)
  obtain ⟨v3, c3, e3, a3, q3⟩ := below_ok (n := n) q2 (m := 4) (by omega)
  have w1 : w64 ((1 : Int) + v1) = 1 + v1 := w64_id (by omega) (by omega)
  have w2 : w64 ((1 : Int) + v2) = 1 + v2 := w64_id (by omega) (by omega)
  obtain ⟨m1, hm1⟩ : ∃ m1 : Nat, 1 + v1 = (m1 : Int) := ⟨(1 + v1).toNat, by omega⟩
  obtain ⟨m2, hm2⟩ : ∃ m2 : Nat, 1 + v2 = (m2 : Int) := ⟨(1 + v2).toNat, by omega⟩
  have hmul : m1 * m2 ≤ 5 * 5 := Nat.mul_le_mul (by omega) (by omega)
  have hpos : 0 < m1 * m2 := Nat.mul_pos (by omega) (by omega)
  have w3 : w64 ((m1 : Int) * (m2 : Int)) = ((m1 * m2 : Nat) : Int) := by
    rw [show (m1 : Int) * (m2 : Int) = ((m1 * m2 : Nat) : Int) from (Int.natCast_mul ..).symm, w64_id (by omega) (by omega)]
  unfold spec_l6Draw
  rw [e1, Option.bind_some]
  dsimp only
  rw [e2, Option.bind_some]
  dsimp only
  rw [e3, Option.bind_some, w1, w2, hm1, hm2]
  refine loop_runS (S := Sl1Cur × List Int) (X := Int × Sl1Cur × List Int) (enc := fun k s => (k, s.1, s.2)) (len := m1 * m2) (I := fun k s => CurOk s.1 ∧ s.2.length = k)
    (Q := fun r => ∃ h c', r = some (h, c') ∧ ChSmall h ∧ CurOk c') (fun k s J hk hI => ?_) (fun s J hI => ?_) (by omega) (s0 := (c3, [])) ⟨q3, rfl⟩
  · obtain ⟨i1, i2⟩ := hI
    obtain ⟨a, p1, e4, a4, q4⟩ := below_ok (n := n) i1 (m := 60) (by omega)
    refine ⟨(p1, s.2 ++ [w64 (a - 10)]), ⟨q4, by rw [List.length_append, List.length_singleton, i2]⟩, ?_⟩
    show spec_l6Draw_L3 n _ _ (k : Int) s.1 _ _ _ _ _ (m1 : Int) (m2 : Int) _ s.2 _ = _
    unfold spec_l6Draw_L3
    rw [w3, decide_eq_true (by omega), cond_true, e4, Option.bind_some]
    simp only [bd_eq]
    rw [chk_dec (by rw [List.length_append, List.length_singleton, i2]; omega), w64_succ (by omega)]
  · obtain ⟨i1, i2⟩ := hI
    show ∃ h c', spec_l6Draw_L3 n _ _ ((m1 * m2 : Nat) : Int) s.1 _ _ _ _ _ (m1 : Int) (m2 : Int) _ s.2 _ = _ ∧ _
    unfold spec_l6Draw_L3
    rw [w3, decide_eq_false (by omega), cond_false]
    obtain ⟨a, p1, e4, a4, q4⟩ := below_ok (n := n) i1 (m := 5) (by omega)
    dsimp only
    rw [e4, Option.bind_some]
    refine loopN_ind (fun x => x.2.1.toNat) (fun x => ∃ k : Nat, x.2.1 = (k : Int) ∧ CurOk x.2.2.1 ∧ x.2.2.2.length + k ≤ 10) (fun x r => ∃ h c', r = some (h, c') ∧ ChSmall h ∧ CurOk c') ?_ n _ ⟨a.toNat, by dsimp only; omega, q4, by dsimp only; rw [List.length_nil]; omega⟩ (by dsimp only; omega)
    rintro ⟨id, _, p, F⟩ J ⟨k, rfl, hp, hF⟩ ih
    dsimp only at hp hF
    show ∃ h c', spec_l6Draw_L8 n _ _ id (k : Int) p _ _ _ _ _ (m1 : Int) (m2 : Int) _ _ F = _ ∧ _
    unfold spec_l6Draw_L8
    cases k with
    | zero =>
      rw [decide_eq_false (by omega), cond_false]
      exact ⟨_, _, rfl, ⟨by dsimp only; rw [i2]; omega, by dsimp only; omega⟩, hp⟩
    | succ k =>
      rw [decide_eq_true (by omega), cond_true]
      unfold spec_l6Draw_k0
      obtain ⟨b1, d1, f1, g1, r1⟩ := below_ok (n := n) hp (m := 3) (by omega)
      obtain ⟨b2, d2, f2, g2, r2⟩ := below_ok (n := n) r1 (m := 9) (by omega)
      obtain ⟨b3, d3, f3, g3, r3⟩ := below_ok (n := n) r2 (m := (m1 : Int)) (by omega)
      obtain ⟨b4, d4, f4, g4, r4⟩ := below_ok (n := n) r3 (m := (m2 : Int)) (by omega)
      obtain ⟨b5, d5, f5, r5⟩ := pick_ok (n := n) r4 (l := [str [], str [98, 117, 111, 121], str [119, 114, 101, 99, 107]]) (by simp)
      simp only [f1, f2, f3, f4, f5, Option.bind_some, bd_eq]
      rw [chk_dec (by rw [List.length_append, List.length_singleton]; omega), show w64 (((k + 1 : Nat) : Int) - 1) = (k : Int) from by rw [w64_id (by omega) (by omega)]; omega]
      exact ih _ ⟨k, rfl, r5, by rw [List.length_append, List.length_singleton]; omega⟩ (by dsimp only; omega)
theorem drawAny_ch {n : Nat} {c : Sl1Cur} (hc : CurOk c) (hn : 1000000000 < n) : ∃ h c', spec_l6DrawAny n c = some (h, c') ∧ ChDrawn h ∧ CurOk c' := by
  obtain ⟨h, c1, e1, hd, q1⟩ := draw_ch hc hn
  obtain ⟨v, c2, e2, a2, q2⟩ := below_ok (n := n) q1 (m := 25) (by omega)
  have h1 := hd.d
  have h2 := hd.f
  have h3 : ChDrawn h := ⟨by omega, by omega⟩
  unfold spec_l6DrawAny
  rw [e1, Option.bind_some, e2, Option.bind_some]
  dsimp only
  cases decide (v = 0) with
  | true =>
    rw [cond_true]
    obtain ⟨a, p, f, r⟩ := pickInt_ok (n := n) q2 (l := [(0 : Int), (12 : Int), (13 : Int)]) (by simp)
    rw [f, Option.bind_some]
    exact ⟨_, _, rfl, ⟨h3.d, h3.f⟩, r⟩
  | false =>
    rw [cond_false]
    cases decide (v = 1) with
    | true =>
      rw [cond_true]
      obtain ⟨a, p, f, r⟩ := pickInt_ok (n := n) q2 (l := [(-1000 : Int), (-1001 : Int), (10000 : Int), (10001 : Int)]) (by simp)
      rw [f, Option.bind_some, ix_of (by omega) (by omega), chk_dec (by omega)]
      exact ⟨_, _, rfl, ⟨by dsimp only; rw [List.length_set]; omega, h3.f⟩, r⟩
    | false =>
      rw [cond_false]
      cases decide (v = 2) with
      | true =>
        rw [cond_true, chk_dec (by rw [List.length_append, List.length_singleton]; omega)]
        exact ⟨_, _, rfl, ⟨by dsimp only; rw [List.length_append, List.length_singleton]; omega, h3.f⟩, q2⟩
      | false =>
        rw [cond_false]
        cases decide (v = 3) with
        | true =>
          rw [cond_true]
          obtain ⟨a, p, f, r⟩ := pickInt_ok (n := n) q2 (l := [(-1 : Int), (1000000 : Int), (1000001 : Int)]) (by simp)
          rw [f, Option.bind_some]
          exact ⟨_, _, rfl, ⟨h3.d, h3.f⟩, r⟩
        | false =>
          rw [cond_false]
          cases decide (v = 4) with
          | true =>
            rw [cond_true]
            obtain ⟨a, p, f, r⟩ := pickInt_ok (n := n) q2 (l := [(0 : Int), (1 : Int), (1000000 : Int), (1000001 : Int)]) (by simp)
            obtain ⟨a', p', f', r'⟩ := pickInt_ok (n := n) r (l := [(0 : Int), (9 : Int), (10 : Int), (1 : Int)]) (by simp)
            obtain ⟨b1, d1, g1, _, k1⟩ := below_ok (n := n) r' (m := 3) (by omega)
            rw [f, Option.bind_some]
            dsimp only
            rw [f', Option.bind_some]
            dsimp only
            rw [g1, Option.bind_some]
            simp only [bd_eq]
            rw [chk_dec (by rw [List.length_append, List.length_singleton]; omega)]
            exact ⟨_, _, rfl, ⟨h3.d, by dsimp only; rw [List.length_append, List.length_singleton]; omega⟩, k1⟩
          | false =>
            rw [cond_false]
            cases decide (v = 5) with
            | false => exact ⟨_, _, rfl, h3, q2⟩
            | true =>
              rw [cond_true]
              refine loopN_ind (fun x => 30 - x.1.toNat) (fun x => ∃ k : Nat, x.1 = (k : Int) ∧ CurOk x.2.1 ∧ x.2.2.length ≤ k ∧ k ≤ 30) (fun x r => ∃ h c', r = some (h, c') ∧ ChDrawn h ∧ CurOk c') ?_ n _ ⟨h.Features.length, rfl, q2, Nat.le_refl _, by omega⟩ (by dsimp only; omega)
              rintro ⟨_, p, F⟩ J ⟨k, rfl, hp, hF, hk⟩ ih
              dsimp only at hp hF
              show ∃ h' c', spec_l6DrawAny_L15 n _ _ (k : Int) p _ _ _ _ _ _ _ _ _ F = some (h', c') ∧ _
              unfold spec_l6DrawAny_L15
              obtain ⟨b1, d1, g1, l1, k1⟩ := below_ok (n := n) hp (m := 2) (by omega)
              rw [g1, Option.bind_some]
              simp only [bd_eq]
              rw [w64_id (x := 30 - b1) (by omega) (by omega)]
              by_cases hlt : (k : Int) < 30 - b1
              · rw [decide_eq_true hlt, cond_true, chk_dec (by rw [List.length_append, List.length_singleton]; omega), w64_succ (by omega)]
                exact ih _ ⟨k + 1, rfl, k1, by rw [List.length_append, List.length_singleton]; omega, by omega⟩ (by dsimp only; omega)
              · rw [decide_eq_false hlt, cond_false]
                exact ⟨_, _, rfl, ⟨h3.d, by dsimp only; omega⟩, k1⟩
theorem drawShoals_ok {n : Nat} (code : List Int) (hc : code.length ≤ 1048576) (hn : 1000000000 < n) : ∃ h v, spec_DrawShoals n code = some (h, v) ∧ ChDrawn h := by
  obtain ⟨c, e1, q1⟩ := new_ok code hc hn
  obtain ⟨h, c2, e2, hd, q2⟩ := drawAny_ch q1 hn
  obtain ⟨v, c3, e3, _, _⟩ := below_ok (n := n) q2 (m := 60) (by omega)
  unfold spec_DrawShoals
  rw [e1, Option.bind_some, e2, Option.bind_some]
  dsimp only
  rw [e3, Option.bind_some, bd_eq]
  exact ⟨_, _, rfl, hd⟩
end Go.Sm
end

section
set_option linter.unusedSimpArgs false
set_option linter.deprecated false
set_option linter.unusedSectionVars false
set_option linter.unusedVariables false
set_option linter.unusedSimpArgs false
namespace Go.Sm
attribute [local irreducible] bd chk ix loopN
theorem in_spec5 (n : Nat) (x a b : Int) : spec_l1In n x a b = some (decide (a ≤ x ∧ x ≤ b)) := by
  unfold spec_l1In
  by_cases h0 : a ≤ x <;> by_cases h1 : x ≤ b <;> simp [h0, h1]
theorem in_impl5 (n : Nat) (x a b : Int) : impl_in n x a b = some (decide (a ≤ x ∧ x ≤ b)) := by
  unfold impl_in
  by_cases h0 : a ≤ x <;> by_cases h1 : x ≤ b <;> simp [h0, h1]
def placeOk (c : SChart) (x y : Int) : Bool := decide (0 ≤ x ∧ x ≤ w64 (c.Wide - 1)) && decide (0 ≤ y ∧ y ≤ w64 (c.High - 1))
theorem place_spec (n : Nat) (c : SChart) (x y : Int) : spec_l6Place n c x y = some (placeOk c x y) := by
  unfold spec_l6Place placeOk
  simp only [in_spec5, bd_eq, Option.bind_some]
  cases decide (0 ≤ x ∧ x ≤ w64 (c.Wide - 1)) <;> rfl
theorem place_impl (n : Nat) (c : SChart) (x y : Int) : impl_Chart_place n c x y = some (placeOk c x y) := by
  unfold impl_Chart_place placeOk
  simp only [in_impl5, bd_eq, Option.bind_some]
  cases decide (0 ≤ x ∧ x ≤ w64 (c.Wide - 1)) <;> rfl
def featOk (c : SChart) (f : SFeature) : Bool := decide (1 ≤ f.Id ∧ f.Id ≤ 1000000) && (decide (1 ≤ f.Kind ∧ f.Kind ≤ 9) && (placeOk c f.X f.Y && decide ((f.Text.size : Int) ≤ 40)))
theorem feat_spec (n : Nat) (c : SChart) (f : SFeature) : spec_l6Feature n c f = some (featOk c f) := by
  unfold spec_l6Feature featOk
  simp only [in_spec5, place_spec, Option.bind_some]
  cases decide (1 ≤ f.Id ∧ f.Id ≤ 1000000) <;> cases decide (1 ≤ f.Kind ∧ f.Kind ≤ 9) <;> cases placeOk c f.X f.Y <;> rfl
theorem feat_impl (n : Nat) (c : SChart) (f : SFeature) : impl_Chart_featureOk n c f = some (featOk c f) := by
  unfold impl_Chart_featureOk featOk
  simp only [in_impl5, place_impl, Option.bind_some]
  cases decide (1 ≤ f.Id ∧ f.Id ≤ 1000000) <;> cases decide (1 ≤ f.Kind ∧ f.Kind ≤ 9) <;> cases placeOk c f.X f.Y <;> rfl
/-- The feature at i is right, and above the one before. -/
def featAt (c : SChart) (i : Nat) : Prop := featOk c (c.Features.getD i dSFeature) = true ∧ (0 < i → ¬ (c.Features.getD (i - 1) dSFeature).Id ≥ (c.Features.getD i dSFeature).Id)
instance (c : SChart) (i : Nat) : Decidable (featAt c i) := by unfold featAt; exact inferInstance
def featsOk (c : SChart) : Prop := ∀ i, i < c.Features.length → featAt c i
instance (c : SChart) : Decidable (featsOk c) := Nat.decidableBallLT _ _
def depthOk (d : Int) : Bool := decide (-1000 ≤ d ∧ d ≤ 10000)
def depthsOk (c : SChart) : Prop := ∀ i, i < c.Depths.length → depthOk (c.Depths.getD i 0) = true
instance (c : SChart) : Decidable (depthsOk c) := Nat.decidableBallLT _ _
theorem feats_spec {n : Nat} (c : SChart) (kr : Bool → Option Bool) (hk : kr = fun t => some t) (hl : c.Features.length ≤ 1048576) (hn : 1000000000 < n) :
    loopN (fun (x : Int) J' => spec_ChartOk_L9 n (some true) kr J' x c) n (0 : Int) = some (decide (featsOk c)) := by
  subst hk
  refine loopN_ind (fun x => c.Features.length - x.toNat) (fun x => ∃ k : Nat, k ≤ c.Features.length ∧ x = (k : Int) ∧ ∀ i, i < k → featAt c i) (fun x r => r = some (decide (featsOk c))) ?_ n _ ⟨0, by omega, rfl, by omega⟩ (by simp; omega)
  rintro _ J ⟨k, hk, rfl, hg⟩ ih
  unfold spec_ChartOk_L9
  by_cases h : k < c.Features.length
  · simp only [Int.ofNat_lt, h, decide_true, cond_true]
    unfold spec_ChartOk_k0
    simp only [ix_nat h, Int.toNat_natCast, bd_eq, feat_spec, Option.bind_some, bif_not]
    have hbad : ¬ featAt c k → some (decide (featsOk c)) = some false := fun hb => by rw [decide_eq_false (fun hf : featsOk c => hb (hf k h))]
    have hgo : featAt c k → J ((k + 1 : Nat) : Int) = some (decide (featsOk c)) := fun hf => ih _ ⟨k + 1, h, rfl, fun i hi => by
      by_cases e : i = k
      · rw [e]; exact hf
      · exact hg i (by omega)⟩ (by simp; omega)
    cases h1 : featOk c (c.Features.getD k dSFeature) with
    | false =>
      rw [hbad (fun hf => by rw [hf.1] at h1; cases h1)]
      rfl
    | true =>
      rw [cond_true]
      by_cases h0 : 0 < k
      · have e0 : decide ((k : Int) > 0) = true := decide_eq_true (by omega)
        have e1 : w64 ((k : Int) - 1) = ((k - 1 : Nat) : Int) := by rw [w64_id (by omega) (by omega)]; omega
        rw [e0, cond_true, e1, ix_nat (by omega), Int.toNat_natCast, bif_dec, w64_succ (by omega)]
        split
        · rename_i h2
          rw [hbad (fun hf => hf.2 h0 h2)]
        · rename_i h2
          exact hgo ⟨h1, fun _ => h2⟩
      · have e0 : decide ((k : Int) > 0) = false := decide_eq_false (by omega)
        rw [e0, cond_false, w64_succ (by omega)]
        exact hgo ⟨h1, fun h => absurd h h0⟩
  · have : k = c.Features.length := by omega
    subst this
    simp only [Int.lt_irrefl, decide_false, cond_false]
    rw [decide_eq_true (show featsOk c from hg)]
theorem feats_impl {n : Nat} (c : SChart) (hl : c.Features.length ≤ 1048576) (hn : 1000000000 < n) :
    loopN (fun (x : Int) J' => impl_ChartOk_L4 n (some true) (fun t => some t) J' c.Features (c.Features.length : Int) x c) n (0 : Int) = some (decide (featsOk c)) := by
  refine loopN_ind (fun x => c.Features.length - x.toNat) (fun x => ∃ k : Nat, k ≤ c.Features.length ∧ x = (k : Int) ∧ ∀ i, i < k → featAt c i) (fun x r => r = some (decide (featsOk c))) ?_ n _ ⟨0, by omega, rfl, by omega⟩ (by simp; omega)
  rintro _ J ⟨k, hk, rfl, hg⟩ ih
  unfold impl_ChartOk_L4
  by_cases h : k < c.Features.length
  · simp only [Int.ofNat_lt, h, decide_true, cond_true]
    unfold impl_ChartOk_k0
    simp only [ix_nat h, Int.toNat_natCast, bd_eq, feat_impl, Option.bind_some, bif_not]
    have hbad : ¬ featAt c k → some (decide (featsOk c)) = some false := fun hb => by rw [decide_eq_false (fun hf : featsOk c => hb (hf k h))]
    have hgo : featAt c k → J ((k + 1 : Nat) : Int) = some (decide (featsOk c)) := fun hf => ih _ ⟨k + 1, h, rfl, fun i hi => by
      by_cases e : i = k
      · rw [e]; exact hf
      · exact hg i (by omega)⟩ (by simp; omega)
    cases h1 : featOk c (c.Features.getD k dSFeature) with
    | false =>
      rw [hbad (fun hf => by rw [hf.1] at h1; cases h1)]
      rfl
    | true =>
      rw [cond_true]
      by_cases h0 : 0 < k
      · have e0 : decide ((k : Int) > 0) = true := decide_eq_true (by omega)
        have e1 : w64 ((k : Int) - 1) = ((k - 1 : Nat) : Int) := by rw [w64_id (by omega) (by omega)]; omega
        rw [e0, cond_true, e1, ix_nat (by omega), Int.toNat_natCast, bif_dec, w64_succ (by omega)]
        split
        · rename_i h2
          rw [hbad (fun hf => hf.2 h0 h2)]
        · rename_i h2
          exact hgo ⟨h1, fun _ => h2⟩
      · have e0 : decide ((k : Int) > 0) = false := decide_eq_false (by omega)
        rw [e0, cond_false, w64_succ (by omega)]
        exact hgo ⟨h1, fun h => absurd h h0⟩
  · have : k = c.Features.length := by omega
    subst this
    simp only [Int.lt_irrefl, decide_false, cond_false]
    rw [decide_eq_true (show featsOk c from hg)]
theorem depths_spec {n : Nat} (c : SChart) (kx : Option Bool) (hl : c.Depths.length ≤ 1048576) (hn : 1000000000 < n) :
    loopN (fun (x : Int) J' => spec_ChartOk_L4 n kx (fun t => some t) J' x c) n (0 : Int) = if depthsOk c then kx else some false := by
  refine loopN_ind (fun x => c.Depths.length - x.toNat) (fun x => ∃ k : Nat, k ≤ c.Depths.length ∧ x = (k : Int) ∧ ∀ i, i < k → depthOk (c.Depths.getD i 0) = true) (fun x r => r = if depthsOk c then kx else some false) ?_ n _ ⟨0, by omega, rfl, by omega⟩ (by simp; omega)
  rintro _ J ⟨k, hk, rfl, hg⟩ ih
  unfold spec_ChartOk_L4 spec_l6Depth
  by_cases h : k < c.Depths.length
  · simp only [Int.ofNat_lt, h, decide_true, cond_true, ix_nat h, Int.toNat_natCast, bd_eq, in_spec5, Option.bind_some, bif_not]
    cases h1 : depthOk (c.Depths.getD k 0) with
    | false =>
      rw [if_neg (fun hf : depthsOk c => by rw [hf k h] at h1; cases h1)]
      rw [depthOk] at h1
      rw [h1]
      rfl
    | true =>
      have h1' := h1
      rw [depthOk] at h1'
      rw [h1', cond_true, w64_succ (by omega)]
      exact ih _ ⟨k + 1, h, rfl, fun i hi => by
        by_cases e : i = k
        · rw [e]; exact h1
        · exact hg i (by omega)⟩ (by simp; omega)
  · have : k = c.Depths.length := by omega
    subst this
    simp only [Int.lt_irrefl, decide_false, cond_false]
    rw [if_pos (show depthsOk c from hg)]
theorem all_impl {n : Nat} (c : SChart) (hl : c.Depths.length ≤ 1048576) (hn : 1000000000 < n) : impl_all n c.Depths (-1000) 10000 = some (decide (depthsOk c)) := by
  unfold impl_all slices_ContainsFunc_int_int__impl_all_1
  have : ∃ r, slices_IndexFunc_int_int__impl_all_1 n c.Depths (-1000) 10000 = some r ∧ decide (r ≥ 0) = !decide (depthsOk c) := by
    unfold slices_IndexFunc_int_int__impl_all_1
    refine loopN_ind (fun x => c.Depths.length - x.toNat) (fun x => ∃ k : Nat, k ≤ c.Depths.length ∧ x = (k : Int) ∧ ∀ i, i < k → depthOk (c.Depths.getD i 0) = true) (fun x r => ∃ r', r = some r' ∧ decide (r' ≥ 0) = !decide (depthsOk c)) ?_ n _ ⟨0, by omega, rfl, by omega⟩ (by simp; omega)
    rintro _ J ⟨k, hk, rfl, hg⟩ ih
    unfold slices_IndexFunc_int_int__impl_all_1_L2 impl_all_1
    by_cases h : k < c.Depths.length
    · simp only [Int.ofNat_lt, h, decide_true, cond_true, ix_nat h, Int.toNat_natCast, in_impl5, Option.bind_some, bif_not]
      cases h1 : depthOk (c.Depths.getD k 0) with
      | false =>
        have h2 : decide (depthsOk c) = false := decide_eq_false (fun hf : depthsOk c => by rw [hf k h] at h1; cases h1)
        rw [depthOk] at h1
        rw [h1, h2]
        exact ⟨_, rfl, by simp⟩
      | true =>
        have h1' := h1
        rw [depthOk] at h1'
        rw [h1', cond_true, w64_succ (by omega)]
        exact ih _ ⟨k + 1, h, rfl, fun i hi => by
          by_cases e : i = k
          · rw [e]; exact h1
          · exact hg i (by omega)⟩ (by simp; omega)
    · have : k = c.Depths.length := by omega
      subst this
      simp only [Int.lt_irrefl, decide_false, cond_false]
      exact ⟨_, rfl, by rw [decide_eq_true (show depthsOk c from hg)]; rfl⟩
  obtain ⟨r, h1, h2⟩ := this
  rw [h1]
  simp only [Option.bind_some, h2, Bool.not_not]
def chOk (c : SChart) : Prop := (1 ≤ c.Wide ∧ c.Wide ≤ 12) ∧ (1 ≤ c.High ∧ c.High ≤ 12) ∧ (c.Depths.length : Int) = w64 (c.Wide * c.High) ∧ (c.Features.length : Int) ≤ 30 ∧ (0 ≤ c.Edition ∧ c.Edition ≤ 1000000) ∧ depthsOk c ∧ featsOk c
instance (c : SChart) : Decidable (chOk c) := by unfold chOk; exact inferInstance
theorem ch_spec {n : Nat} (c : SChart) (h1 : c.Depths.length ≤ 1048576) (h2 : c.Features.length ≤ 1048576) (hn : 1000000000 < n) : spec_ChartOk n c = some (decide (chOk c)) := by
  unfold spec_ChartOk
  simp only [in_spec5, Option.bind_some, bif_not, bd_eq, bif_dec, feats_spec c _ rfl h2 hn, depths_spec c _ h1 hn]
  by_cases a1 : 1 ≤ c.Wide ∧ c.Wide ≤ 12
  · by_cases a2 : 1 ≤ c.High ∧ c.High ≤ 12
    · by_cases a3 : (c.Depths.length : Int) = w64 (c.Wide * c.High)
      · by_cases a4 : (c.Features.length : Int) ≤ 30
        · by_cases a5 : 0 ≤ c.Edition ∧ c.Edition ≤ 1000000
          · by_cases a6 : depthsOk c
            · rw [if_pos a1, if_pos a2, if_pos a3, if_neg (by omega), if_pos a5, if_pos a6]
              exact congrArg some (decide_eq_decide.2 ⟨fun h => ⟨a1, a2, a3, a4, a5, a6, h⟩, fun h => h.2.2.2.2.2.2⟩)
            · rw [if_pos a1, if_pos a2, if_pos a3, if_neg (by omega), if_pos a5, if_neg a6, decide_eq_false (fun h : chOk c => a6 h.2.2.2.2.2.1)]
          · rw [if_pos a1, if_pos a2, if_pos a3, if_neg (by omega), if_neg a5, decide_eq_false (fun h : chOk c => a5 h.2.2.2.2.1)]
        · rw [if_pos a1, if_pos a2, if_pos a3, if_pos (by omega), decide_eq_false (fun h : chOk c => a4 h.2.2.2.1)]
      · rw [if_pos a1, if_pos a2, if_neg a3, decide_eq_false (fun h : chOk c => a3 h.2.2.1)]
    · rw [if_pos a1, if_neg a2, decide_eq_false (fun h : chOk c => a2 h.2.1)]
  · rw [if_neg a1, decide_eq_false (fun h : chOk c => a1 h.1)]
theorem ch_impl {n : Nat} (c : SChart) (h1 : c.Depths.length ≤ 1048576) (h2 : c.Features.length ≤ 1048576) (hn : 1000000000 < n) : impl_ChartOk n c = some (decide (chOk c)) := by
  unfold impl_ChartOk
  simp only [in_impl5, Option.bind_some, bif_not, bd_eq, bif_dec, feats_impl c h2 hn, all_impl c h1 hn]
  by_cases a1 : 1 ≤ c.Wide ∧ c.Wide ≤ 12
  · by_cases a2 : 1 ≤ c.High ∧ c.High ≤ 12
    · by_cases a3 : (c.Depths.length : Int) = w64 (c.Wide * c.High)
      · by_cases a6 : depthsOk c
        · by_cases a4 : (c.Features.length : Int) ≤ 30
          · by_cases a5 : 0 ≤ c.Edition ∧ c.Edition ≤ 1000000
            · rw [if_pos a1, if_pos a2, if_pos a3, if_pos a6, if_neg (by omega), if_pos a5]
              exact congrArg some (decide_eq_decide.2 ⟨fun h => ⟨a1, a2, a3, a4, a5, a6, h⟩, fun h => h.2.2.2.2.2.2⟩)
            · rw [if_pos a1, if_pos a2, if_pos a3, if_pos a6, if_neg (by omega), if_neg a5, decide_eq_false (fun h : chOk c => a5 h.2.2.2.2.1)]
          · rw [if_pos a1, if_pos a2, if_pos a3, if_pos a6, if_pos (by omega), decide_eq_false (fun h : chOk c => a4 h.2.2.2.1)]
        · rw [if_pos a1, if_pos a2, if_pos a3, if_neg a6, decide_eq_false (fun h : chOk c => a6 h.2.2.2.2.2.1)]
      · rw [if_pos a1, if_pos a2, if_neg a3, decide_eq_false (fun h : chOk c => a3 h.2.2.1)]
    · rw [if_pos a1, if_neg a2, decide_eq_false (fun h : chOk c => a2 h.2.1)]
  · rw [if_neg a1, decide_eq_false (fun h : chOk c => a1 h.1)]
end Go.Sm
end

section
set_option linter.unusedSimpArgs false
set_option linter.deprecated false
set_option linter.unusedSectionVars false
set_option linter.unusedVariables false
set_option linter.unusedSimpArgs false
namespace Go.Sm
attribute [local irreducible] bd chk ix loopN
theorem place_iff {c : SChart} {x y : Int} (hw : 1 ≤ c.Wide ∧ c.Wide ≤ 12) (hh : 1 ≤ c.High ∧ c.High ≤ 12) (h : placeOk c x y = true) : (0 ≤ x ∧ x ≤ 11) ∧ 0 ≤ y ∧ y ≤ 11 := by
  unfold placeOk at h
  rw [w64_id (by omega) (by omega), w64_id (by omega) (by omega)] at h
  simp only [Bool.and_eq_true, decide_eq_true_eq] at h
  omega
def absI (v : Int) : Int := if v < 0 then 0 - v else v
theorem absI_rng {v : Int} (h : -11 ≤ v ∧ v ≤ 11) : 0 ≤ absI v ∧ absI v ≤ 11 := by
  unfold absI; split <;> omega
theorem size_impl (n : Nat) {v : Int} (h : -100 ≤ v ∧ v ≤ 100) : impl_size n v = some (absI v) := by
  unfold impl_size absI
  rw [bif_dec]
  split
  · rw [w64_id (by omega) (by omega)]
  · rfl
def dstF (x y : Int) (f : SFeature) : Int := absI (f.X - x) + absI (f.Y - y)
def pairF (x y : Int) (f : SFeature) : SArr2_Int := ⟨dstF x y f, f.Id⟩
structure NearOk (F : List SFeature) (x y : Int) : Prop where
  len : F.length ≤ 30
  inc : F.Pairwise fun a b => a.Id < b.Id
  rng : ∀ f ∈ F, (-11 ≤ f.X - x ∧ f.X - x ≤ 11) ∧ -11 ≤ f.Y - y ∧ f.Y - y ≤ 11
theorem ids_lt {c : SChart} (h : featsOk c) : ∀ j i, i < j → j < c.Features.length → (c.Features.getD i dSFeature).Id < (c.Features.getD j dSFeature).Id
  | 0, i, hi, _ => absurd hi (Nat.not_lt_zero _)
  | j + 1, i, hi, hj => by
    have h1 := (h (j + 1) hj).2 (by omega)
    simp only [Nat.add_sub_cancel] at h1
    by_cases e : i = j
    · rw [e]; omega
    · have := ids_lt h j i (by omega) (by omega)
      omega
theorem near_ok {c : SChart} (h : chOk c) {x y : Int} (hp : placeOk c x y = true) : NearOk c.Features x y := by
  obtain ⟨h1, h2, _, h4, _, _, h7⟩ := h
  have hxy := place_iff h1 h2 hp
  refine ⟨by omega, ?_, fun f hf => ?_⟩
  · rw [List.pairwise_iff_getElem]
    intro i j hi hj hij
    have := ids_lt h7 j i hij hj
    rwa [getD_eq hi, getD_eq hj] at this
  · obtain ⟨i, hi, rfl⟩ := List.getElem_of_mem hf
    have h3 := (h7 i hi).1
    rw [getD_eq hi] at h3
    unfold featOk at h3
    simp only [Bool.and_eq_true] at h3
    have := place_iff h1 h2 h3.2.2.1
    omega
theorem dst_rng {F : List SFeature} {x y : Int} (h : NearOk F x y) {f : SFeature} (hf : f ∈ F) : 0 ≤ dstF x y f ∧ dstF x y f ≤ 22 := by
  obtain ⟨h1, h2⟩ := h.rng f hf
  have := absI_rng h1
  have := absI_rng h2
  unfold dstF
  omega
/-! ### By rings -/
def ringL (F : List SFeature) (x y : Int) (d : Nat) : List SFeature := F.filter fun f => decide (dstF x y f = (d : Int))
def ringsL (F : List SFeature) (x y : Int) : Nat → List SArr2_Int
  | 0 => []
  | d + 1 => ringsL F x y d ++ (ringL F x y d).map (pairF x y)
theorem rings_perm {F : List SFeature} {x y : Int} (h : NearOk F x y) : ∀ d : Nat, (ringsL F x y d).Perm ((F.filter fun f => decide (dstF x y f < (d : Int))).map (pairF x y))
  | 0 => by
    have : (F.filter fun f => decide (dstF x y f < ((0 : Nat) : Int))) = [] := by
      rw [List.filter_eq_nil_iff]
      intro f hf
      have := dst_rng h hf
      simp only [decide_eq_true_eq]
      omega
    rw [this]
    exact List.Perm.refl _
  | d + 1 => by
    have h1 := rings_perm h d
    have h2 : ((F.filter fun f => decide (dstF x y f < (d : Int))) ++ ringL F x y d).Perm (F.filter fun f => decide (dstF x y f < ((d + 1 : Nat) : Int))) := by
      have := List.filter_append_perm (fun f => decide (dstF x y f < (d : Int))) (F.filter fun f => decide (dstF x y f < ((d + 1 : Nat) : Int)))
      rw [List.filter_filter, List.filter_filter] at this
      have e1 : (F.filter fun f => decide (dstF x y f < (d : Int)) && decide (dstF x y f < ((d + 1 : Nat) : Int))) = F.filter fun f => decide (dstF x y f < (d : Int)) := List.filter_congr fun f _ => by
        by_cases e : dstF x y f < (d : Int)
        · rw [decide_eq_true e, decide_eq_true (by omega)]; rfl
        · rw [decide_eq_false e]; rfl
      have e2 : (F.filter fun f => !decide (dstF x y f < (d : Int)) && decide (dstF x y f < ((d + 1 : Nat) : Int))) = ringL F x y d := List.filter_congr fun f _ => by
        rw [Bool.eq_iff_iff]
        simp only [Bool.and_eq_true, Bool.not_eq_true', decide_eq_false_iff_not, decide_eq_true_eq]
        omega
      rw [e1, e2] at this
      exact this
    show (ringsL F x y d ++ (ringL F x y d).map (pairF x y)).Perm _
    refine (h1.append (List.Perm.refl _)).trans ?_
    rw [← List.map_append]
    exact h2.map _
def lexlt (a b : SArr2_Int) : Prop := a.x0 < b.x0 ∨ (a.x0 = b.x0 ∧ a.x1 < b.x1)
theorem rings_lt {F : List SFeature} {x y : Int} : ∀ (d : Nat) (a : SArr2_Int), a ∈ ringsL F x y d → a.x0 < (d : Int)
  | 0, a, h => by cases h
  | d + 1, a, h => by
    rcases List.mem_append.1 h with h | h
    · have := rings_lt d a h; omega
    · obtain ⟨f, hf, rfl⟩ := List.mem_map.1 h
      have := (List.mem_filter.1 hf).2
      simp only [decide_eq_true_eq] at this
      show dstF x y f < _
      omega
theorem rings_sorted {F : List SFeature} {x y : Int} (h : NearOk F x y) : ∀ d : Nat, (ringsL F x y d).Pairwise lexlt
  | 0 => List.Pairwise.nil
  | d + 1 => by
    refine List.pairwise_append.2 ⟨rings_sorted h d, ?_, fun a ha b hb => ?_⟩
    · rw [List.pairwise_map]
      refine List.Pairwise.imp_of_mem (fun {a b} ha hb hab => ?_) (h.inc.filter fun f => decide (dstF x y f = (d : Int)))
      have h1 := (List.mem_filter.1 ha).2
      have h2 := (List.mem_filter.1 hb).2
      simp only [decide_eq_true_eq] at h1 h2
      exact .inr ⟨by show dstF x y a = dstF x y b; omega, hab⟩
    · have h1 := rings_lt d a ha
      obtain ⟨f, hf, rfl⟩ := List.mem_map.1 hb
      have h2 := (List.mem_filter.1 hf).2
      simp only [decide_eq_true_eq] at h2
      exact .inl (by show a.x0 < dstF x y f; omega)
def cfP (a b : SArr2_Int) : Int := if a.x0 < b.x0 then -1 else if a.x0 > b.x0 then 1 else if a.x1 < b.x1 then -1 else if a.x1 > b.x1 then 1 else 0
theorem cfP_lt {a b : SArr2_Int} : cfP a b < 0 ↔ lexlt a b := by
  unfold cfP lexlt
  split
  · omega
  · split
    · omega
    · split
      · omega
      · split <;> omega
theorem compare_int (n : Nat) (x y : Int) : cmp_Compare_int n x y = some (if x < y then -1 else if x > y then 1 else 0) := by
  unfold cmp_Compare_int cmp_isNaN_int
  simp only [decide_true, Bool.not_true, Option.bind_some, cond_false, bif_dec]
  by_cases h : x < y
  · rw [if_pos h, if_pos h]
  · rw [if_neg h, if_neg h]
    split <;> rfl
theorem cmpP {n : Nat} (a b : SArr2_Int) (hn : 1000000000 < n) : impl_Near6_1 n a b = some (cfP a b) := by
  obtain ⟨m, rfl⟩ : ∃ m, n = m + 3 := ⟨n - 3, by omega⟩
  unfold impl_Near6_1 slices_Compare_int_int
  have e : loopN (fun (x : Int) J' => slices_Compare_int_int_L2 (m + 3) ((bif (decide ((([a.x0, a.x1] : List Int).length : Int) < (([b.x0, b.x1] : List Int).length : Int))) then some ((-1 : Int)) else some ((0 : Int)))) (fun t14 => some (t14)) J' [a.x0, a.x1] [b.x0, b.x1] [a.x0, a.x1] (([a.x0, a.x1] : List Int).length : Int) x) (m + 3) (0 : Int) = some (cfP a b) := by
    rw [loopN_succ]
    unfold slices_Compare_int_int_L2 slices_Compare_int_int_k0
    have i0 : ∀ {R : Type} {x : Option R}, ix (0 : Int) 2 x = x := fun {R x} => ix_of (by omega) (by omega)
    have i1 : ∀ {R : Type} {x : Option R}, ix (1 : Int) 2 x = x := fun {R x} => ix_of (by omega) (by omega)
    simp only [List.length_cons, List.length_nil, Nat.zero_add, Nat.reduceAdd, Int.ofNat_eq_natCast, Int.reduceLT, show ((0 : Int) < ((2 : Nat) : Int)) = True from by simp, decide_true, cond_true, i0, show decide ((0 : Int) ≥ ((2 : Nat) : Int)) = false from rfl, cond_false, compare_int, Option.bind_some, Int.toNat_zero, List.getD_cons_zero]
    unfold cfP
    by_cases h1 : a.x0 < b.x0
    · simp only [if_pos h1]; rfl
    · by_cases h2 : a.x0 > b.x0
      · simp only [if_neg h1, if_pos h2]; rfl
      · simp only [if_neg h1, if_neg h2, decide_true, Bool.not_true, cond_false]
        rw [show w64 ((0 : Int) + 1) = 1 from w64_id (by omega) (by omega), loopN_succ]
        simp only [show decide ((1 : Int) < ((2 : Nat) : Int)) = true from rfl, cond_true, i1, show decide ((1 : Int) ≥ ((2 : Nat) : Int)) = false from rfl, cond_false, Option.bind_some, show Int.toNat 1 = 1 from rfl, List.getD_cons_succ, List.getD_cons_zero]
        by_cases h3 : a.x1 < b.x1
        · simp only [if_pos h3]; rfl
        · by_cases h4 : a.x1 > b.x1
          · simp only [if_neg h3, if_pos h4]; rfl
          · simp only [if_neg h3, if_neg h4, decide_true, Bool.not_true, cond_false]
            rw [show w64 ((1 : Int) + 1) = 2 from w64_id (by omega) (by omega), loopN_succ]
            rfl
  rw [e]
  rfl
theorem near_sort {n : Nat} {F : List SFeature} {x y : Int} (h : NearOk F x y) {far : Nat} (hn : 1000000000 < n) :
    slices_SortFunc_2_int_2_int__impl_Near6_1 n ((F.filter fun f => decide (dstF x y f < ((far + 1 : Nat) : Int))).map (pairF x y)) = some (ringsL F x y (far + 1)) := by
  unfold slices_SortFunc_2_int_2_int__impl_Near6_1
  have hlen : ((F.filter fun f => decide (dstF x y f < ((far + 1 : Nat) : Int))).map (pairF x y)).length ≤ 30 := by
    rw [List.length_map]
    exact Nat.le_trans (List.length_filter_le _ _) h.len
  obtain ⟨l', h1, h2, h3⟩ := sortL_ok (d := dSArr2_Int) (cmp := fun a b => impl_Near6_1 n a b) (cf := cfP) (l := (F.filter fun f => decide (dstF x y f < ((far + 1 : Nat) : Int))).map (pairF x y))
    (fun a _ b _ => cmpP a b hn) (fun a _ => by rw [cfP_lt]; unfold lexlt; omega) (fun a _ b _ c _ => by simp only [cfP_lt]; unfold lexlt; omega) (fun a _ b _ c _ => by simp only [cfP_lt]; unfold lexlt; omega) (by omega)
  rw [h1]
  congr 1
  refine List.Perm.eq_of_pairwise (le := fun a b => ¬ lexlt b a) ?_ (h3.imp fun h => by rwa [cfP_lt] at h) ((rings_sorted h (far + 1)).imp fun h => by unfold lexlt at *; omega) (h2.trans (rings_perm h (far + 1)).symm)
  intro a b _ _ h4 h5
  unfold lexlt at h4 h5
  cases a
  cases b
  simp only [SArr2_Int.mk.injEq]
  dsimp only at h4 h5
  omega
end Go.Sm
end

section
set_option linter.unusedSimpArgs false
set_option linter.deprecated false
set_option linter.unusedSectionVars false
set_option linter.unusedVariables false
set_option linter.unusedSimpArgs false
namespace Go.Sm
attribute [local irreducible] bd chk ix loopN
def nearR (c : SChart) (x y far : Int) : List Int := if chOk c ∧ placeOk c x y = true ∧ (0 ≤ far ∧ far ≤ 100) then (ringsL c.Features x y (far.toNat + 1)).map (fun p => p.x1) else []
theorem rings_len {F : List SFeature} {x y : Int} (h : NearOk F x y) (d : Nat) : (ringsL F x y d).length ≤ 30 := by
  rw [(rings_perm h d).length_eq, List.length_map]
  exact Nat.le_trans (List.length_filter_le _ _) h.len
theorem filter_take_succ {α : Type} {l : List α} {p : α → Bool} {k : Nat} {d : α} (h : k < l.length) : (l.take (k + 1)).filter p = (l.take k).filter p ++ (bif p (l.getD k d) then [l.getD k d] else []) := by
  rw [take_succ_getD (d := d) h, List.filter_append]
  cases hp : p (l.getD k d) with
  | true => simp [List.filter, hp, -List.getD_eq_getElem?_getD]
  | false => simp [List.filter, hp, -List.getD_eq_getElem?_getD]
theorem filter_take_len {α : Type} (l : List α) (p : α → Bool) (k : Nat) : ((l.take k).filter p).length ≤ l.length := by
  have h1 := List.length_filter_le p (l.take k)
  have h2 : (l.take k).length ≤ l.length := by rw [List.length_take]; omega
  omega
theorem near_impl {n : Nat} (c : SChart) (x y far : Int) (h1 : c.Depths.length ≤ 1048576) (h2 : c.Features.length ≤ 1048576) (hn : 1000000000 < n) : impl_Near6 n c x y far = some (nearR c x y far) := by
  unfold impl_Near6 nearR
  rw [ch_impl c h1 h2 hn, place_impl, in_impl5]
  simp only [Option.bind_some, bif_not]
  by_cases hc : chOk c
  · rw [decide_eq_true hc, cond_true]
    cases hp : placeOk c x y with
    | false =>
      rw [if_neg (fun h => by cases h.2.1)]
      rfl
    | true =>
      rw [cond_true]
      by_cases hf : 0 ≤ far ∧ far ≤ 100
      · rw [decide_eq_true hf, cond_true, if_pos ⟨hc, rfl, hf⟩]
        obtain ⟨r, rfl⟩ : ∃ r : Nat, far = (r : Int) := ⟨far.toNat, by omega⟩
        rw [Int.toNat_natCast]
        have hN := near_ok hc hp
        unfold impl_Near6_k1
        generalize hF : c.Features = F at hN
        refine loop_runS (S := List SArr2_Int) (enc := fun d s => (d, s)) (len := F.length) (I := fun i s => s = ((F.take i).filter fun f => decide (dstF x y f < ((r + 1 : Nat) : Int))).map (pairF x y)) (Q := fun z => z = some ((ringsL F x y (r + 1)).map (fun p => p.x1))) (fun i s J2 hi hs => ?_) (fun s J hi => ?_) (by have := hN.len; omega) (s0 := []) rfl
        · refine ⟨_, rfl, ?_⟩
          subst hs
          obtain ⟨b1, b2⟩ := hN.rng _ (getD_mem (d := dSFeature) hi)
          have b3 := dst_rng hN (getD_mem (d := dSFeature) hi)
          have hlen := filter_take_len F (fun f => decide (dstF x y f < ((r + 1 : Nat) : Int))) i
          have hl := hN.len
          show impl_Near6_L5 n _ _ x y (r : Int) F (F.length : Int) (i : Int) _ = _
          unfold impl_Near6_L5 impl_Near6_k0
          rw [filter_take_succ (d := dSFeature) hi]
          simp only [Int.ofNat_lt, hi, decide_true, cond_true, ix_nat hi, Int.toNat_natCast, bd_eq]
          rw [w64_id (x := (F.getD i dSFeature).X - x) (by omega) (by omega), w64_id (x := (F.getD i dSFeature).Y - y) (by omega) (by omega), size_impl n (by omega), Option.bind_some, size_impl n (by omega), Option.bind_some]
          change (bif decide (w64 (dstF x y (F.getD i dSFeature)) ≤ (r : Int)) then chk (decide ((_ ++ [(⟨w64 (dstF x y (F.getD i dSFeature)), _⟩ : SArr2_Int)]).length * 16 ≤ _)) (J2 (_, _ ++ [(⟨w64 (dstF x y (F.getD i dSFeature)), _⟩ : SArr2_Int)])) else _) = _
          rw [w64_id (by omega) (by omega), w64_succ (by omega)]
          by_cases e : dstF x y (F.getD i dSFeature) ≤ (r : Int)
          · have e' : decide (dstF x y (F.getD i dSFeature) < ((r + 1 : Nat) : Int)) = true := decide_eq_true (by omega)
            rw [decide_eq_true e, e', cond_true, cond_true, chk_dec (by simp only [List.length_append, List.length_map, List.length_singleton]; omega)]
            simp only [List.map_append, List.map_cons, List.map_nil]
            rfl
          · have e' : decide (dstF x y (F.getD i dSFeature) < ((r + 1 : Nat) : Int)) = false := decide_eq_false (by omega)
            rw [decide_eq_false e, e', cond_false, cond_false]
            simp only [List.append_nil]
        · subst hi
          show impl_Near6_L5 n _ _ x y (r : Int) F (F.length : Int) (F.length : Int) _ = _
          unfold impl_Near6_L5
          rw [decide_eq_false (by omega), cond_false, List.take_length]
          dsimp only
          rw [near_sort hN hn, Option.bind_some]
          have hb := rings_len hN (r + 1)
          generalize ringsL F x y (r + 1) = G at *
          refine loop_runS (S := List Int) (enc := fun d s => (d, s)) (len := G.length) (I := fun i s => s = (G.take i).map (fun p => p.x1)) (Q := fun z => z = some (G.map (fun p => p.x1))) (fun i s J2 hi hs => ?_) (fun s J hi => ?_) (by omega) (s0 := []) rfl
          · refine ⟨_, rfl, ?_⟩
            subst hs
            show impl_Near6_L14 n _ _ (G.length : Int) (i : Int) _ G = _
            unfold impl_Near6_L14
            rw [take_succ_getD (d := dSArr2_Int) hi]
            simp only [Int.ofNat_lt, hi, decide_true, cond_true, ix_nat hi, Int.toNat_natCast, bd_eq, chk_true]
            rw [chk_dec (by simp only [List.length_append, List.length_map, List.length_singleton, List.length_take]; omega), w64_succ (by omega)]
            simp only [List.map_append, List.map_cons, List.map_nil]
          · subst hi
            show impl_Near6_L14 n _ _ (G.length : Int) (G.length : Int) _ G = _
            unfold impl_Near6_L14
            rw [decide_eq_false (by omega), cond_false, List.take_length]
            have : impl_own_int n (G.map fun p => p.x1) = some (G.map fun p => p.x1) := by
              unfold impl_own_int
              rw [chk_dec (by rw [List.length_map]; omega), chk_dec (by rw [List.length_map]; omega), chk_dec (by rw [List.length_map]; omega)]
            dsimp only
            rw [this, Option.bind_some]
      · rw [decide_eq_false hf, cond_false, if_neg (fun h => hf h.2.2)]
  · rw [decide_eq_false hc, cond_false, if_neg (fun h => hc h.1)]
theorem nearR_len (c : SChart) (x y far : Int) : (nearR c x y far).length ≤ 30 := by
  unfold nearR
  split
  · rename_i h
    rw [List.length_map]
    exact rings_len (near_ok h.1 h.2.1) _
  · exact Nat.zero_le _
end Go.Sm
end

section
set_option linter.unusedSimpArgs false
set_option linter.deprecated false
set_option linter.unusedSectionVars false
set_option linter.unusedVariables false
set_option linter.unusedSimpArgs false
namespace Go.Sm
attribute [local irreducible] bd chk ix loopN
def below (c : SChart) (need : Int) (k : Nat) : List Int := ((List.range k).filter fun i => decide (c.Depths.getD i 0 < need)).map fun (i : Nat) => (i : Int)
theorem below_succ (c : SChart) (need : Int) (k : Nat) : below c need (k + 1) = if c.Depths.getD k 0 < need then below c need k ++ [(k : Int)] else below c need k := by
  unfold below
  rw [List.range_succ, List.filter_append]
  by_cases h : c.Depths.getD k 0 < need <;> simp [h, -List.getD_eq_getElem?_getD]
theorem below_len (c : SChart) (need : Int) (k : Nat) : (below c need k).length ≤ k := by
  unfold below
  rw [List.length_map]
  have := List.length_filter_le (fun i => decide (c.Depths.getD i 0 < need)) (List.range k)
  simpa using this
def shoalsR (c : SChart) (need : Int) : List Int := if chOk c then below c need c.Depths.length else []
theorem own_int5 (n : Nat) (l : List Int) (h : l.length ≤ 1048576) : impl_own_int n l = some l := by
  unfold impl_own_int
  rw [chk_dec (by omega), chk_dec (by omega), chk_dec (by omega)]
theorem shoals_impl {n : Nat} (c : SChart) (need : Int) (h1 : c.Depths.length ≤ 1048576) (h2 : c.Features.length ≤ 1048576) (hn : 1000000000 < n) : impl_Shoals n c need = some (shoalsR c need) := by
  unfold impl_Shoals
  rw [ch_impl c h1 h2 hn, Option.bind_some, bif_not, bif_dec]
  by_cases hc : chOk c
  · rw [if_pos hc]
    refine loopN_ind (fun x => c.Depths.length - x.1.toNat) (fun x => ∃ k : Nat, k ≤ c.Depths.length ∧ x = ((k : Int), below c need k)) (fun x r => r = some (shoalsR c need)) ?_ n _ ⟨0, by omega, rfl⟩ (by simp; omega)
    rintro _ J ⟨k, hk, rfl⟩ ih
    unfold impl_Shoals_L5
    by_cases h : k < c.Depths.length
    · simp only [Int.ofNat_lt, h, decide_true, cond_true, ix_nat h, Int.toNat_natCast]
      have key := ih (((k + 1 : Nat) : Int), below c need (k + 1)) ⟨k + 1, h, rfl⟩ (by simp; omega)
      have hlen := below_len c need k
      rw [below_succ] at key
      rw [chk_dec (by simp; omega), w64_succ (by omega), bif_dec]
      by_cases hd : c.Depths.getD k 0 < need
      · rw [if_pos hd] at key ⊢
        exact key
      · rw [if_neg hd] at key ⊢
        exact key
    · have : k = c.Depths.length := by omega
      subst this
      have hlen := below_len c need c.Depths.length
      simp only [Int.lt_irrefl, decide_false, cond_false]
      rw [own_int5 n _ (by omega), Option.bind_some, shoalsR, if_pos hc]
  · rw [if_neg hc, shoalsR, if_neg hc]
theorem shoalsR_len (c : SChart) (need : Int) (h1 : c.Depths.length ≤ 1048576) : (shoalsR c need).length ≤ 1048576 := by
  unfold shoalsR
  split
  · exact Nat.le_trans (below_len _ _ _) h1
  · exact Nat.zero_le _
end Go.Sm
end

section
set_option linter.unusedSimpArgs false
set_option linter.deprecated false
set_option linter.unusedSectionVars false
set_option linter.unusedVariables false
set_option linter.unusedSimpArgs false
namespace Go.Sm
attribute [local irreducible] bd chk ix loopN
theorem within_ok {n : Nat} (l : List Int) (x : Int) (hl : l.length ≤ 1048576) (hn : 1000000000 < n) : laws_within n l x = some (decide (x ∈ l)) := by
  unfold laws_within
  rw [loop_find (p := fun k => decide (l.getD k 0 = x)) (yes := fun _ => some true) (no := some false) (len := l.length) (by omega) (fun k J hk _ => ?_) (fun J _ => ?_) (by omega)]
  · have e : decide (x ∈ l) = (List.range l.length).any fun k => decide (l.getD k 0 = x) := by
      rw [range_any (l := l) (d := 0) (f := fun y => decide (y = x)), Bool.eq_iff_iff]
      simp
    rw [e]
    rcases find_range (fun k => decide (l.getD k 0 = x)) l.length with ⟨h1, h2⟩ | ⟨k, h1, h2, h3, _⟩
    · rw [h1, show (List.range l.length).any (fun k => decide (l.getD k 0 = x)) = false from by rw [List.any_eq_false]; intro j hj; simp [h2 j (List.mem_range.1 hj), -List.getD_eq_getElem?_getD]]
    · rw [h1, any_range_of (p := fun k => decide (l.getD k 0 = x)) h2 h3]
  · unfold laws_within_L2
    simp only [Int.ofNat_lt, hk, decide_true, cond_true, ix_nat hk, Int.toNat_natCast, w64_succ (show k < 9223372036854775807 by omega)]
  · unfold laws_within_L2
    simp only [Int.lt_irrefl, decide_false, cond_false]
theorem mem_below (c : SChart) (need : Int) (m p : Nat) : ((p : Int) ∈ below c need m) ↔ p < m ∧ c.Depths.getD p 0 < need := by
  unfold below
  rw [List.mem_map]
  constructor
  · rintro ⟨i, hi, e⟩
    have : i = p := by omega
    subst this
    have := List.mem_filter.1 hi
    exact ⟨List.mem_range.1 this.1, by simpa [-List.getD_eq_getElem?_getD] using this.2⟩
  · rintro ⟨h1, h2⟩
    exact ⟨p, List.mem_filter.2 ⟨List.mem_range.2 h1, by simpa [-List.getD_eq_getElem?_getD] using h2⟩, rfl⟩
theorem depth_at {n : Nat} (c : SChart) (hc : chOk c) (h1 : c.Depths.length ≤ 1048576) (h2 : c.Features.length ≤ 1048576) {p : Nat} (hp : p < c.Depths.length) (hn : 1000000000 < n) :
    impl_DepthAt n c (Int.tmod (p : Int) c.Wide) (w64 (Int.tdiv (p : Int) c.Wide)) = some (c.Depths.getD p 0, true) := by
  obtain ⟨a1, a2, a3, _⟩ := hc
  obtain ⟨w, hw⟩ : ∃ w : Nat, c.Wide = (w : Int) := ⟨c.Wide.toNat, by omega⟩
  obtain ⟨h, hh⟩ : ∃ h : Nat, c.High = (h : Int) := ⟨c.High.toNat, by omega⟩
  have hmul : w * h ≤ 12 * 12 := Nat.mul_le_mul (by omega) (by omega)
  have hlen : c.Depths.length = w * h := by
    rw [hw, hh, show (w : Int) * (h : Int) = ((w * h : Nat) : Int) from (Int.natCast_mul ..).symm, w64_id (by omega) (by omega)] at a3
    omega
  have hw0 : 0 < w := by omega
  have hm : p % w < w := Nat.mod_lt _ hw0
  have hd : p / w < h := by rw [Nat.div_lt_iff_lt_mul hw0, Nat.mul_comm]; omega
  have hdm : p / w * w + p % w = p := by rw [Nat.mul_comm]; exact Nat.div_add_mod p w
  have e1 : Int.tmod (p : Int) c.Wide = ((p % w : Nat) : Int) := by rw [hw]; rfl
  have e2 : Int.tdiv (p : Int) c.Wide = ((p / w : Nat) : Int) := by rw [hw]; rfl
  rw [e1, e2]
  generalize p / w = q at *
  generalize p % w = r at *
  rw [w64_id (x := (q : Int)) (by omega) (by omega)]
  unfold impl_DepthAt
  rw [ch_impl c h1 h2 hn, place_impl]
  have hpl : placeOk c (r : Int) (q : Int) = true := by
    unfold placeOk
    rw [w64_id (by omega) (by omega), w64_id (by omega) (by omega)]
    simp only [Bool.and_eq_true, decide_eq_true_eq]
    omega
  have hck : chOk c := ⟨a1, a2, a3, by assumption⟩
  simp only [Option.bind_some, decide_eq_true hck, Bool.not_true, cond_false, hpl, bd_eq]
  have e3 : w64 (w64 ((q : Int) * c.Wide) + (r : Int)) = (p : Int) := by
    have e4 : (q : Int) * c.Wide = ((q * w : Nat) : Int) := by rw [hw]; exact (Int.natCast_mul ..).symm
    rw [e4]
    generalize q * w = z at *
    rw [w64_id (x := (z : Int)) (by omega) (by omega), w64_id (by omega) (by omega)]
    omega
  rw [e3, ix_nat hp, Int.toNat_natCast]
theorem near_all {F : List SFeature} {x y : Int} (h : NearOk F x y) : (ringsL F x y 101).length = F.length ∧ ((ringsL F x y 101).map (fun p => p.x1)).Nodup := by
  have hp := rings_perm h 101
  have hf : (F.filter fun f => decide (dstF x y f < ((101 : Nat) : Int))) = F := by
    rw [List.filter_eq_self]
    intro f hf
    have := dst_rng h hf
    simp only [decide_eq_true_eq]
    omega
  rw [hf] at hp
  refine ⟨by rw [hp.length_eq, List.length_map], ?_⟩
  have h2 : ((ringsL F x y 101).map (fun p => p.x1)).Perm (F.map fun f => f.Id) := by
    have := hp.map (fun p => p.x1)
    rw [List.map_map] at this
    exact this
  refine h2.nodup_iff.2 ?_
  unfold List.Nodup
  rw [List.pairwise_map]
  exact h.inc.imp fun h => by omega
theorem nodup_take {l : List Int} (h : l.Nodup) {k : Nat} (hk : k < l.length) : l.getD k 0 ∉ l.take k := by
  intro hm
  obtain ⟨i, hi, e⟩ := List.mem_iff_getElem.1 hm
  rw [List.getElem_take] at e
  rw [getD_eq hk] at e
  have hi' : i < k ∧ i < l.length := by simp at hi; omega
  have := (List.pairwise_iff_getElem.1 h) i k hi'.2 hk hi'.1
  exact this e
theorem shoals_core {n : Nat} {c : SChart} (hc : chOk c) {need : Int} (h1 : c.Depths.length ≤ 1048576) (h2 : c.Features.length ≤ 1048576) (hn : 1000000000 < n) :
    laws_FnShoals_k2 n need c.Wide c.High c.Edition c.Depths c.Features = some true := by
  unfold laws_FnShoals_k2
  have e0 : (⟨c.Wide, c.High, c.Depths, c.Features, c.Edition⟩ : SChart) = c := rfl
  rw [e0, shoals_impl c need h1 h2 hn, Option.bind_some]
  have hsr : shoalsR c need = below c need c.Depths.length := by rw [shoalsR, if_pos hc]
  rw [hsr]
  have hbl := below_len c need c.Depths.length
  have hw0 : decide (c.Wide = 0) = false := decide_eq_false (by have := hc.1; omega)
  refine loop_runS (S := Int) (X := Int × Int) (enc := fun k s => (s, k)) (len := c.Depths.length) (I := fun k s => s = ((below c need k).length : Int)) (Q := fun r => r = some true) (fun k s J hk hI => ?_) (fun s J hI => ?_) (by omega) (s0 := 0) rfl
  · refine ⟨_, rfl, ?_⟩
    subst hI
    have hb := below_len c need k
    show laws_FnShoals_L9 n _ _ _ need _ (k : Int) c.Wide c.High c.Edition c.Depths c.Features _ = _
    unfold laws_FnShoals_L9 laws_FnShoals_k0
    rw [decide_eq_true (by omega), cond_true, hw0, cond_false, cond_false, e0, depth_at c hc h1 h2 hk hn, Option.bind_some]
    dsimp only
    rw [Bool.not_true, cond_false, within_ok _ _ (by omega) hn, Option.bind_some]
    have e1 : decide ((k : Int) ∈ below c need c.Depths.length) = decide (c.Depths.getD k 0 < need) := by
      rw [decide_eq_decide, mem_below]
      exact ⟨fun h => h.2, fun h => ⟨hk, h⟩⟩
    rw [e1, beq_self_eq_true, Bool.not_true, cond_false, below_succ, bif_dec, w64_succ (show k < 9223372036854775807 by omega)]
    by_cases e : c.Depths.getD k 0 < need
    · rw [if_pos e, if_pos e, bd_eq, w64_succ (by omega), List.length_append, List.length_singleton]
    · rw [if_neg e, if_neg e]
  · subst hI
    show laws_FnShoals_L9 n _ _ _ need _ (c.Depths.length : Int) c.Wide c.High c.Edition c.Depths c.Features _ = _
    unfold laws_FnShoals_L9
    rw [decide_eq_false (by omega), cond_false]
    dsimp only
    rw [near_impl c 0 0 100 h1 h2 hn, Option.bind_some]
    have hpl : placeOk c 0 0 = true := by
      have := hc.1
      have := hc.2.1
      unfold placeOk
      rw [w64_id (by omega) (by omega), w64_id (by omega) (by omega)]
      simp only [Bool.and_eq_true, decide_eq_true_eq]
      omega
    have hnr : nearR c 0 0 100 = (ringsL c.Features 0 0 101).map (fun p => p.x1) := by
      unfold nearR
      rw [if_pos ⟨hc, hpl, by omega⟩]
      rfl
    obtain ⟨g1, g2⟩ := near_all (near_ok hc hpl)
    rw [hnr]
    have gl : ((ringsL c.Features 0 0 101).map (fun p => p.x1)).length = c.Features.length := by rw [List.length_map, g1]
    generalize (ringsL c.Features 0 0 101).map (fun p => p.x1) = N at *
    refine loopN_ind (fun x => N.length - x.toNat) (fun x => ∃ k : Nat, k ≤ N.length ∧ x = (k : Int)) (fun x r => r = some true) ?_ n _ ⟨0, by omega, rfl⟩ (by simp; omega)
    rintro _ J ⟨k, hk, rfl⟩ ih
    unfold laws_FnShoals_L18
    by_cases h : k < N.length
    · rw [decide_eq_true (by omega), cond_true]
      unfold laws_FnShoals_k1
      simp only [ix_nat h, Int.toNat_natCast, Nat.sub_zero, Nat.zero_add, List.drop_zero]
      rw [chk_dec (by omega), chk_dec (by omega), chk_dec (by omega), chk_dec (by omega), within_ok _ _ (by rw [List.length_take]; omega) hn, Option.bind_some, decide_eq_false (nodup_take g2 h), cond_false, w64_succ (by omega)]
      exact ih _ ⟨k + 1, h, rfl⟩ (by simp; omega)
    · rw [decide_eq_false (by omega), cond_false, decide_eq_true rfl, cond_true, gl, decide_eq_true rfl, cond_true, ch_impl c h1 h2 hn, Option.bind_some, decide_eq_true hc]
theorem laws_FnShoals_true (code0 : List Int) (h0 : (code0.length ≤ 9223372036854775807 ∧ ∀ y ∈ code0, rng 0 255 y)) : ∃ n, laws_FnShoals n code0 = some true := by
  refine ⟨1000000001, ?_⟩
  generalize hN : (1000000001 : Nat) = n
  have hn : 1000000000 < n := by omega
  unfold laws_FnShoals laws_big
  rw [Option.bind_some, bif_dec]
  split
  · rfl
  · obtain ⟨c, need, e1, hd⟩ := drawShoals_ok (n := n) code0 (by omega) hn
    have d1 := hd.d
    have d2 := hd.f
    unfold laws_FnShoals_k3
    rw [e1, Option.bind_some]
    dsimp only
    rw [ch_spec c (by omega) (by omega) hn, Option.bind_some]
    by_cases hc : chOk c
    · rw [decide_eq_true hc, Bool.not_true, cond_false]
      exact shoals_core hc (by omega) (by omega) hn
    · rw [decide_eq_false hc, Bool.not_false, cond_true, ch_impl c (by omega) (by omega) hn, Option.bind_some, decide_eq_false hc, Bool.not_false, cond_true, shoals_impl c need (by omega) (by omega) hn, Option.bind_some, shoalsR, if_neg hc]
      rfl
end Go.Sm
end
