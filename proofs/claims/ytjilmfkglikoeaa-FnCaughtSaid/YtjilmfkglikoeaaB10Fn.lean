import Derived.Test.YtjilmfkglikoeaaEngE
import Derived.Test.YtjilmfkglikoeaaEngA
/- The functions as plain functions over data, and that the law answers true for all arguments. Caught: drawn editions taken in any order come to the one chart, with one left over; a gap is refused and changes nothing. -/
set_option linter.unusedSimpArgs false
set_option linter.deprecated false
set_option linter.unusedSectionVars false
set_option linter.unusedVariables false
noncomputable section
namespace Go.Sm
structure SFeature where
  Id : Int
  Kind : Int
  X : Int
  Y : Int
  Text : ByteArray
structure SChart where
  Wide : Int
  High : Int
  Depths : List Int
  Features : List SFeature
  Edition : Int
structure SNote where
  Kind : Int
  Id : Int
  X : Int
  Y : Int
  Depth : Int
  Text : ByteArray
  Sort_ : Int
structure SUpdate where
  Edition : Int
  Notes : List SNote
structure Sl1Cur where
  b : List Int
  i : Int
  h : Int
def dSFeature : SFeature := ⟨(0 : Int), (0 : Int), (0 : Int), (0 : Int), str []⟩
def dSChart : SChart := ⟨(0 : Int), (0 : Int), [], [], (0 : Int)⟩
def dSNote : SNote := ⟨(0 : Int), (0 : Int), (0 : Int), (0 : Int), (0 : Int), str [], (0 : Int)⟩
def dSUpdate : SUpdate := ⟨(0 : Int), []⟩
def dSl1Cur : Sl1Cur := ⟨[], (0 : Int), (0 : Int)⟩
def laws_big (n : Nat) (code0 : List Int) : Option Bool :=
  some ((decide ((code0.length : Int) > (1048576 : Int))))
def spec_l1New_k0 {R : Type} (n : Nat) (kx0 : Int → Option R) (J : Int → Int → Option R) (code2 : List Int) (h8 : Int) (i9 : Int) : Option R :=
  ix i9 code2.length ((bd (w64 ((w64 (h8 * (131 : Int))) + (w64 (code2.getD i9.toNat (0 : Int))))) fun (v10 : Int) => (bd (w64 (((BitVec.ofInt 64 (w64 (v10 + (7 : Int))) &&& BitVec.ofInt 64 (1073741823 : Int)).toNat : Nat) : Int)) fun (v11 : Int) => J v11 (w64 (i9 + (1 : Int))))))
def spec_l1New_L3 {R : Type} (n : Nat) (kx0 : Int → Option R) (J : Int → Int → Option R) (code2 : List Int) (h3 : Int) (i4 : Int) : Option R :=
  (bif (decide (i4 < (code2.length : Int))) then (bif (decide (i4 < (4000 : Int))) then spec_l1New_k0 n kx0 J code2 h3 i4 else kx0 h3) else kx0 h3)
def spec_l1New (n : Nat) (code0 : List Int) : Option Sl1Cur :=
  (bd (w64 ((59059 : Int) + (code0.length : Int))) fun (v1 : Int) => loopN (fun (x : Int × Int) J' => spec_l1New_L3 n (fun h16 => some ((⟨code0, (0 : Int), h16⟩ : Sl1Cur))) (fun h17 i18 => J' (h17, i18)) code0 x.1 x.2) n (v1, (0 : Int)))
def spec_l1Byte (n : Nat) (c0 : Sl1Cur) : Option (Int × Sl1Cur) :=
  (bd (w64 (c0.h * (6364136223846793005 : Int))) fun (v1 : Int) => (bd (w64 (v1 + (1442695040888963407 : Int))) fun (v2 : Int) => (bd (Int.fdiv v2 (2 ^ (min (33 : Int).toNat 64))) fun (v3 : Int) => (bd (Int.fdiv v2 (2 ^ (min (45 : Int).toNat 64))) fun (v4 : Int) => (bd (w64 (((BitVec.ofInt 64 v3 ^^^ BitVec.ofInt 64 v4).toNat : Nat) : Int)) fun (v5 : Int) => (bd (w64 (((BitVec.ofInt 64 v5 &&& BitVec.ofInt 64 (255 : Int)).toNat : Nat) : Int)) fun (v6 : Int) => (bif (decide (c0.i < (c0.b.length : Int))) then ix c0.i c0.b.length ((bd (w64 (v6 + (w64 (c0.b.getD c0.i.toNat (0 : Int))))) fun (v7 : Int) => (bd (w64 (((BitVec.ofInt 64 v7 &&& BitVec.ofInt 64 (255 : Int)).toNat : Nat) : Int)) fun (v8 : Int) => some (v8, (⟨c0.b, (w64 (c0.i + (1 : Int))), v2⟩ : Sl1Cur))))) else some (v6, (⟨c0.b, c0.i, v2⟩ : Sl1Cur)))))))))
def spec_l1Below_k0 (n : Nat)  (n1 : Int) (p3 : Sl1Cur) : Option (Int × Sl1Cur) :=
  (spec_l1Byte n p3).bind fun r4 => (spec_l1Byte n r4.2).bind fun r5 => (spec_l1Byte n r5.2).bind fun r6 => (spec_l1Byte n r6.2).bind fun r7 => (bd (w64 (r4.1 * (16777216 : Int))) fun (v8 : Int) => (bd (w64 (r5.1 * (65536 : Int))) fun (v9 : Int) => (bd (w64 (r6.1 * (256 : Int))) fun (v10 : Int) => (bd (w64 ((w64 (v8 + v9)) + v10)) fun (v11 : Int) => (bif decide (n1 = 0) then none else (bd (Int.tmod (w64 (v11 + r7.1)) n1) fun (v12 : Int) => some (v12, r7.2)))))))
def spec_l1Below (n : Nat) (c0 : Sl1Cur) (n1 : Int) : Option (Int × Sl1Cur) :=
  (bif (decide (n1 ≤ (0 : Int))) then some ((0 : Int), c0) else (bif (decide (n1 ≤ (256 : Int))) then (spec_l1Byte n c0).bind fun r13 => (bif decide (n1 = 0) then none else some ((Int.tmod r13.1 n1), r13.2)) else spec_l1Below_k0 n  n1 c0))
def spec_l1Pick (n : Nat) (c0 : Sl1Cur) (list1 : List ByteArray) : Option (ByteArray × Sl1Cur) :=
  (spec_l1Below n c0 (list1.length : Int)).bind fun r1 => ix r1.1 list1.length (some ((list1.getD r1.1.toNat (str [])), r1.2))
def spec_l6Draw_L3 {R : Type} (n : Nat) (kx0 : Sl1Cur → List Int → Option R) (J : Int → Sl1Cur → List Int → Option R) (i4 : Int) (p5 : Sl1Cur) (t6 : Int) (t7 : Int) (t8 : Int) (c9 : List Int) (c10 : List SFeature) (out11 : Int) (out12 : Int) (out13 : Int) (c14 : List Int) (c15 : List SFeature) : Option R :=
  (bif (decide (i4 < (w64 (out11 * out12)))) then (spec_l1Below n p5 (60 : Int)).bind fun r21 => (bd (w64 (r21.1 - (10 : Int))) fun (v22 : Int) => chk (decide ((c14 ++ [v22]).length * 8 ≤ 140737488355328)) (J (w64 (i4 + (1 : Int))) r21.2 (c14 ++ [v22]))) else kx0 p5 c14)
def spec_l6Draw_k0 {R : Type} (n : Nat) (kx2 : List SFeature → Sl1Cur → Option R) (J : Int → Int → Sl1Cur → List SFeature → Option R) (id39 : Int) (i40 : Int) (p41 : Sl1Cur) (t29 : Int) (t30 : Int) (t31 : Int) (c32 : List Int) (c33 : List SFeature) (out34 : Int) (out35 : Int) (out36 : Int) (c37 : List Int) (c42 : List SFeature) : Option R :=
  (spec_l1Below n p41 (3 : Int)).bind fun r43 => (bd (w64 ((w64 (id39 + (1 : Int))) + r43.1)) fun (v44 : Int) => (spec_l1Below n r43.2 (9 : Int)).bind fun r45 => (bd (w64 ((1 : Int) + r45.1)) fun (v46 : Int) => (spec_l1Below n r45.2 out34).bind fun r47 => (spec_l1Below n r47.2 out35).bind fun r48 => (spec_l1Pick n r48.2 [str [], str [98, 117, 111, 121], str [119, 114, 101, 99, 107]]).bind fun r49 => (bd (c42 ++ [(⟨v44, v46, r47.1, r48.1, r49.1⟩ : SFeature)]) fun (l50 : List SFeature) => chk (decide (l50.length * 48 ≤ 140737488355328)) (J v44 (w64 (i40 - (1 : Int))) r49.2 l50))))
def spec_l6Draw_L8 {R : Type} (n : Nat) (kx2 : List SFeature → Sl1Cur → Option R) (J : Int → Int → Sl1Cur → List SFeature → Option R) (id26 : Int) (i27 : Int) (p28 : Sl1Cur) (t29 : Int) (t30 : Int) (t31 : Int) (c32 : List Int) (c33 : List SFeature) (out34 : Int) (out35 : Int) (out36 : Int) (c37 : List Int) (c38 : List SFeature) : Option R :=
  (bif (decide (i27 > (0 : Int))) then spec_l6Draw_k0 n kx2 J id26 i27 p28 t29 t30 t31 c32 c33 out34 out35 out36 c37 c38 else kx2 c38 p28)
def spec_l6Draw (n : Nat) (c0 : Sl1Cur) : Option (SChart × Sl1Cur) :=
  (spec_l1Below n c0 (5 : Int)).bind fun r1 => (spec_l1Below n r1.2 (5 : Int)).bind fun r2 => (spec_l1Below n r2.2 (4 : Int)).bind fun r3 => loopN (fun (x : Int × Sl1Cur × List Int) J' => spec_l6Draw_L3 n (fun p23 c24 => (spec_l1Below n p23 (5 : Int)).bind fun r25 => loopN (fun (x : Int × Int × Sl1Cur × List SFeature) J' => spec_l6Draw_L8 n (fun c51 p52 => some ((⟨(w64 ((1 : Int) + r1.1)), (w64 ((1 : Int) + r2.1)), c24, c51, r3.1⟩ : SChart), p52)) (fun id53 i54 p55 c56 => J' (id53, i54, p55, c56)) x.1 x.2.1 x.2.2.1 (0 : Int) (0 : Int) (0 : Int) [] [] (w64 ((1 : Int) + r1.1)) (w64 ((1 : Int) + r2.1)) r3.1 c24 x.2.2.2) n ((0 : Int), r25.1, r25.2, [])) (fun i57 p58 c59 => J' (i57, p58, c59)) x.1 x.2.1 (0 : Int) (0 : Int) (0 : Int) [] [] (w64 ((1 : Int) + r1.1)) (w64 ((1 : Int) + r2.1)) r3.1 x.2.2 []) n ((0 : Int), r3.2, [])
def spec_DrawEditions_k0 {R : Type} (n : Nat) (kx2 : Sl1Cur → List SNote → Option R) (J : Int → Sl1Cur → List SNote → Option R) (i23 : Int) (k39 : Int) (t25 : Int) (t26 : Int) (t27 : Int) (c28 : List Int) (c29 : List SFeature) (t40 : Sl1Cur) (ch31 : Int) (ch32 : Int) (ch33 : Int) (c34 : List Int) (c35 : List SFeature) (list36 : List SUpdate) (u37 : Int) (c41 : List SNote) : Option R :=
  (spec_l1Below n t40 ch31).bind fun r42 => (spec_l1Below n r42.2 ch32).bind fun r43 => (spec_l1Below n r43.2 (90 : Int)).bind fun r44 => (bd (c41 ++ [(⟨(4 : Int), (0 : Int), r42.1, r43.1, r44.1, str [], (0 : Int)⟩ : SNote)]) fun (l45 : List SNote) => chk (decide (l45.length * 64 ≤ 140737488355328)) (J (w64 (k39 - (1 : Int))) r44.2 l45))
def spec_DrawEditions_L9 {R : Type} (n : Nat) (kx2 : Sl1Cur → List SNote → Option R) (J : Int → Sl1Cur → List SNote → Option R) (i23 : Int) (k24 : Int) (t25 : Int) (t26 : Int) (t27 : Int) (c28 : List Int) (c29 : List SFeature) (t30 : Sl1Cur) (ch31 : Int) (ch32 : Int) (ch33 : Int) (c34 : List Int) (c35 : List SFeature) (list36 : List SUpdate) (u37 : Int) (c38 : List SNote) : Option R :=
  (bif (decide (k24 > (0 : Int))) then spec_DrawEditions_k0 n kx2 J i23 k24 t25 t26 t27 c28 c29 t30 ch31 ch32 ch33 c34 c35 list36 u37 c38 else kx2 t30 c38)
def spec_DrawEditions_k1 {R : Type} (n : Nat) (kx0 : List SUpdate → Option R) (J : Int → Sl1Cur → List SUpdate → Option R) (i17 : Int) (t5 : Int) (t6 : Int) (t7 : Int) (c8 : List Int) (c9 : List SFeature) (t18 : Sl1Cur) (ch11 : Int) (ch12 : Int) (ch13 : Int) (c14 : List Int) (c15 : List SFeature) (list19 : List SUpdate) : Option R :=
  (bd (w64 (ch13 + (list19.length : Int))) fun (v20 : Int) => (spec_l1Below n t18 (3 : Int)).bind fun r21 => (bd (w64 ((1 : Int) + r21.1)) fun (v22 : Int) => loopN (fun (x : Int × Sl1Cur × List SNote) J' => spec_DrawEditions_L9 n (fun t46 c47 => (bd (list19 ++ [(⟨(w64 (v20 + (1 : Int))), c47⟩ : SUpdate)]) fun (l48 : List SUpdate) => chk (decide (l48.length * 32 ≤ 140737488355328)) (J (w64 (i17 - (1 : Int))) t46 l48))) (fun k49 t50 c51 => J' (k49, t50, c51)) i17 x.1 t5 t6 t7 c8 c9 x.2.1 ch11 ch12 ch13 c14 c15 list19 (w64 (v20 + (1 : Int))) x.2.2) n (v22, r21.2, [])))
def spec_DrawEditions_L5 {R : Type} (n : Nat) (kx0 : List SUpdate → Option R) (J : Int → Sl1Cur → List SUpdate → Option R) (i4 : Int) (t5 : Int) (t6 : Int) (t7 : Int) (c8 : List Int) (c9 : List SFeature) (t10 : Sl1Cur) (ch11 : Int) (ch12 : Int) (ch13 : Int) (c14 : List Int) (c15 : List SFeature) (list16 : List SUpdate) : Option R :=
  (bif (decide (i4 > (0 : Int))) then spec_DrawEditions_k1 n kx0 J i4 t5 t6 t7 c8 c9 t10 ch11 ch12 ch13 c14 c15 list16 else kx0 list16)
def spec_DrawEditions (n : Nat) (code0 : List Int) : Option (SChart × List SUpdate) :=
  (spec_l1New n code0).bind fun r1 => (spec_l6Draw n r1).bind fun r2 => (spec_l1Below n r2.2 (6 : Int)).bind fun r3 => loopN (fun (x : Int × Sl1Cur × List SUpdate) J' => spec_DrawEditions_L5 n (fun list52 => some (r2.1, list52)) (fun i53 t54 list55 => J' (i53, t54, list55)) x.1 (0 : Int) (0 : Int) (0 : Int) [] [] x.2.1 r2.1.Wide r2.1.High r2.1.Edition r2.1.Depths r2.1.Features x.2.2) n ((w64 ((1 : Int) + r3.1)), r3.2, [])
def impl_own_int (n : Nat) (l0 : List Int) : Option (List Int) :=
  chk (decide ((0 : Int) ≤ (l0.length : Int))) (chk (decide ((l0.length : Int) ≤ 9223372036854775807 ∧ (l0.length : Int) * (8 : Int) ≤ 281474976710656)) (chk (decide (l0.length * 8 ≤ 140737488355328)) (some (l0))))
def impl_own_impl_Feature (n : Nat) (l0 : List SFeature) : Option (List SFeature) :=
  chk (decide ((0 : Int) ≤ (l0.length : Int))) (chk (decide ((l0.length : Int) ≤ 9223372036854775807 ∧ (l0.length : Int) * (48 : Int) ≤ 281474976710656)) (chk (decide (l0.length * 48 ≤ 140737488355328)) (some (l0))))
def impl_Chart_own (n : Nat) (c0 : SChart) : Option SChart :=
  (impl_own_int n c0.Depths).bind fun r1 => (impl_own_impl_Feature n c0.Features).bind fun r2 => some ((⟨c0.Wide, c0.High, r1, r2, c0.Edition⟩ : SChart))
def impl_in (n : Nat) (n0 : Int) (least1 : Int) (most2 : Int) : Option Bool :=
  (bif (decide (n0 ≥ least1)) then some ((decide (n0 ≤ most2))) else some (false))
def impl_all_1 (n : Nat) (n0 : Int) (a1 : Int) (a2 : Int) : Option Bool :=
  (impl_in n n0 a1 a2).bind fun r1 => some ((!r1))
def slices_IndexFunc_int_int__impl_all_1_L2 {R : Type} (n : Nat) (kx0 : Option R) (kxr : Int → Option R) (J : Int → Option R) (s1 : List Int) (f2 : Int) (f3 : Int) (t4 : Int) (t5 : Int) : Option R :=
  (bif (decide (t5 < t4)) then ix t5 s1.length ((impl_all_1 n (s1.getD t5.toNat (0 : Int)) f2 f3).bind fun r9 => (bif r9 then kxr t5 else J (w64 (t5 + (1 : Int))))) else kx0)
def slices_IndexFunc_int_int__impl_all_1 (n : Nat) (s0 : List Int) (f1c0 : Int) (f1c1 : Int) : Option Int :=
  loopN (fun (x : Int) J' => slices_IndexFunc_int_int__impl_all_1_L2 n (some ((-1 : Int))) (fun t11 => some (t11)) J' s0 f1c0 f1c1 (s0.length : Int) x) n ((0 : Int))
def slices_ContainsFunc_int_int__impl_all_1 (n : Nat) (s0 : List Int) (f1c0 : Int) (f1c1 : Int) : Option Bool :=
  (slices_IndexFunc_int_int__impl_all_1 n s0 f1c0 f1c1).bind fun r1 => some ((decide (r1 ≥ (0 : Int))))
def impl_all (n : Nat) (l0 : List Int) (least1 : Int) (most2 : Int) : Option Bool :=
  (slices_ContainsFunc_int_int__impl_all_1 n l0 least1 most2).bind fun r1 => some ((!r1))
def impl_Chart_place (n : Nat) (c0 : SChart) (x1 : Int) (y2 : Int) : Option Bool :=
  (bd (w64 (c0.Wide - (1 : Int))) fun (v1 : Int) => (impl_in n x1 (0 : Int) v1).bind fun r2 => (bif r2 then (bd (w64 (c0.High - (1 : Int))) fun (v3 : Int) => (impl_in n y2 (0 : Int) v3).bind fun r4 => some (r4)) else some (false)))
def impl_Chart_featureOk (n : Nat) (c0 : SChart) (f1 : SFeature) : Option Bool :=
  (impl_in n f1.Id (1 : Int) (1000000 : Int)).bind fun r1 => (bif r1 then (impl_in n f1.Kind (1 : Int) (9 : Int)).bind fun r2 => (bif r2 then (impl_Chart_place n c0 f1.X f1.Y).bind fun r3 => (bif r3 then some ((decide ((f1.Text.size : Int) ≤ (40 : Int)))) else some (false)) else some (false)) else some (false))
def impl_ChartOk_k0 {R : Type} (n : Nat) (kx0 : Option R) (kxr : Bool → Option R) (J : Int → Option R) (t14 : List SFeature) (t15 : Int) (t18 : Int) (c17 : SChart) : Option R :=
  ix t18 t14.length ((bd (t14.getD t18.toNat dSFeature) fun (e19 : SFeature) => (impl_Chart_featureOk n c17 e19).bind fun r20 => (bif (!r20) then kxr false else (bif (decide (t18 > (0 : Int))) then ix (w64 (t18 - (1 : Int))) c17.Features.length ((bd (c17.Features.getD ((w64 (t18 - (1 : Int))).toNat) dSFeature) fun (e22 : SFeature) => (bif (decide (e22.Id ≥ e19.Id)) then kxr false else J (w64 (t18 + (1 : Int)))))) else J (w64 (t18 + (1 : Int)))))))
def impl_ChartOk_L4 {R : Type} (n : Nat) (kx0 : Option R) (kxr : Bool → Option R) (J : Int → Option R) (t14 : List SFeature) (t15 : Int) (t16 : Int) (c17 : SChart) : Option R :=
  (bif (decide (t16 < t15)) then impl_ChartOk_k0 n kx0 kxr J t14 t15 t16 c17 else kx0)
def impl_ChartOk (n : Nat) (c0 : SChart) : Option Bool :=
  (impl_in n c0.Wide (1 : Int) (12 : Int)).bind fun r1 => (bif (!r1) then some (false) else (impl_in n c0.High (1 : Int) (12 : Int)).bind fun r3 => (bif (!r3) then some (false) else (bd (w64 (c0.Wide * c0.High)) fun (v5 : Int) => (bif (!(decide ((c0.Depths.length : Int) = v5))) then some (false) else (impl_all n c0.Depths (-1000 : Int) (10000 : Int)).bind fun r7 => (bif (!r7) then some (false) else (bif (decide ((c0.Features.length : Int) > (30 : Int))) then some (false) else (impl_in n c0.Edition (0 : Int) (1000000 : Int)).bind fun r10 => (bif (!r10) then some (false) else loopN (fun (x : Int) J' => impl_ChartOk_L4 n (some (true)) (fun t35 => some (t35)) J' c0.Features (c0.Features.length : Int) x c0) n ((0 : Int)))))))))
def impl_Chart_note_1 (n : Nat) (f0 : SFeature) (a1 : SNote) : Option Bool :=
  some ((decide (f0.Id = a1.Id)))
def slices_IndexFunc_impl_Feature_impl_Feature__impl_Chart_note_1_L2 {R : Type} (n : Nat) (kx0 : Option R) (kxr : Int → Option R) (J : Int → Option R) (s1 : List SFeature) (f2 : SNote) (t3 : Int) (t4 : Int) : Option R :=
  (bif (decide (t4 < t3)) then ix t4 s1.length ((bd (s1.getD t4.toNat dSFeature) fun (e9 : SFeature) => (impl_Chart_note_1 n e9 f2).bind fun r10 => (bif r10 then kxr t4 else J (w64 (t4 + (1 : Int)))))) else kx0)
def slices_IndexFunc_impl_Feature_impl_Feature__impl_Chart_note_1 (n : Nat) (s0 : List SFeature) (f1c0 : SNote) : Option Int :=
  loopN (fun (x : Int) J' => slices_IndexFunc_impl_Feature_impl_Feature__impl_Chart_note_1_L2 n (some ((-1 : Int))) (fun t12 => some (t12)) J' s0 f1c0 (s0.length : Int) x) n ((0 : Int))
def impl_Chart_note_2 (n : Nat) (a0 : SFeature) (b1 : SFeature) : Option Int :=
  some ((w64 (a0.Id - b1.Id)))
def slices_SortFunc_impl_Feature_impl_Feature__impl_Chart_note_2 (n : Nat) (l0 : List SFeature) : Option (List SFeature) :=
  sortL dSFeature (fun a b => impl_Chart_note_2 n a b) l0
def slices_Delete_impl_Feature_impl_Feature (n : Nat) (l0 : List SFeature) (i1 : Int) (j2 : Int) : Option (List SFeature) :=
  delL l0 i1 j2
def impl_depthOk (n : Nat) (d0 : Int) : Option Bool :=
  (impl_in n d0 (-1000 : Int) (10000 : Int)).bind fun r1 => some (r1)
def impl_Chart_note_k0 (n : Nat)  (t13 : Bool) (p14 : Int) (p15 : Int) (p16 : Int) (p17 : List Int) (p18 : List SFeature) (n1 : SNote) : Option (Bool × SChart) :=
  (bif t13 then some (false, (⟨p14, p15, p17, p18, p16⟩ : SChart)) else (bd (p18 ++ [(⟨n1.Id, n1.Sort_, n1.X, n1.Y, n1.Text⟩ : SFeature)]) fun (l31 : List SFeature) => chk (decide (l31.length * 48 ≤ 140737488355328)) ((slices_SortFunc_impl_Feature_impl_Feature__impl_Chart_note_2 n l31).bind fun r32 => some (true, (⟨p14, p15, p17, r32, p16⟩ : SChart)))))
def impl_Chart_note_k1 (n : Nat)  (i70 : Int) (p71 : Int) (p72 : Int) (p73 : Int) (p74 : List Int) (p75 : List SFeature) (n1 : SNote) : Option (Bool × SChart) :=
  ix i70 p75.length (chk (decide (i70.toNat < p75.length)) ((bd (p75.getD i70.toNat dSFeature) fun (e76 : SFeature) => (bd (p75.set i70.toNat (⟨e76.Id, e76.Kind, n1.X, e76.Y, e76.Text⟩ : SFeature)) fun (l77 : List SFeature) => ix i70 l77.length (chk (decide (i70.toNat < l77.length)) ((bd (l77.getD i70.toNat dSFeature) fun (e78 : SFeature) => (bd (l77.set i70.toNat (⟨e78.Id, e78.Kind, e78.X, n1.Y, e78.Text⟩ : SFeature)) fun (l79 : List SFeature) => some (true, (⟨p71, p72, p74, l79, p73⟩ : SChart))))))))))
def impl_Chart_note_k2 (n : Nat)  (t98 : Bool) (p99 : Int) (p100 : Int) (p101 : Int) (p102 : List Int) (p103 : List SFeature) (n1 : SNote) : Option (Bool × SChart) :=
  (bif t98 then some (false, (⟨p99, p100, p102, p103, p101⟩ : SChart)) else (bd (w64 ((w64 (n1.Y * p99)) + n1.X)) fun (v116 : Int) => ix v116 p102.length (chk (decide (v116.toNat < p102.length)) ((bd (p102.set v116.toNat n1.Depth) fun (l117 : List Int) => some (true, (⟨p99, p100, l117, p103, p101⟩ : SChart)))))))
def impl_Chart_note (n : Nat) (c0 : SChart) (n1 : SNote) : Option (Bool × SChart) :=
  (slices_IndexFunc_impl_Feature_impl_Feature__impl_Chart_note_1 n c0.Features n1).bind fun r1 => (bif (decide (n1.Kind = (1 : Int))) then (impl_Chart_featureOk n c0 (⟨n1.Id, n1.Sort_, n1.X, n1.Y, n1.Text⟩ : SFeature)).bind fun r2 => (bif (!r2) then some (false, c0) else (bif (decide (r1 ≥ (0 : Int))) then some (false, c0) else impl_Chart_note_k0 n  (decide ((c0.Features.length : Int) = (30 : Int))) c0.Wide c0.High c0.Edition c0.Depths c0.Features n1)) else (bif (decide (n1.Kind = (2 : Int))) then (bif (decide (r1 < (0 : Int))) then some (false, c0) else (slices_Delete_impl_Feature_impl_Feature n c0.Features r1 (w64 (r1 + (1 : Int)))).bind fun r50 => some (true, (⟨c0.Wide, c0.High, c0.Depths, r50, c0.Edition⟩ : SChart))) else (bif (decide (n1.Kind = (3 : Int))) then (bif (decide (r1 < (0 : Int))) then some (false, c0) else (impl_Chart_place n c0 n1.X n1.Y).bind fun r62 => (bif (!r62) then some (false, c0) else impl_Chart_note_k1 n  r1 c0.Wide c0.High c0.Edition c0.Depths c0.Features n1)) else (bif (decide (n1.Kind = (4 : Int))) then (impl_Chart_place n c0 n1.X n1.Y).bind fun r91 => (bif (!r91) then some (false, c0) else (impl_depthOk n n1.Depth).bind fun r97 => impl_Chart_note_k2 n  (!r97) c0.Wide c0.High c0.Edition c0.Depths c0.Features n1) else some (false, c0)))))
def impl_Apply6_k0 {R : Type} (n : Nat) (kx1 : Int → Int → Int → List Int → List SFeature → Option R) (kxr : Int → Option R) (J : Int → Int → Int → Int → List Int → List SFeature → Option R) (t25 : List SNote) (t26 : Int) (t44 : Int) (u28 : SUpdate) (t29 : Int) (t30 : Int) (t31 : Int) (c32 : List Int) (c33 : List SFeature) (was34 : Int) (was35 : Int) (was36 : Int) (c37 : List Int) (c38 : List SFeature) (x45 : Int) (x46 : Int) (x47 : Int) (c48 : List Int) (c49 : List SFeature) : Option R :=
  ix t44 t25.length ((bd (t25.getD t44.toNat dSNote) fun (e50 : SNote) => (impl_Chart_note n (⟨x45, x46, c48, c49, x47⟩ : SChart) e50).bind fun r51 => (bif (!r51.1) then kxr (4 : Int) else J (w64 (t44 + (1 : Int))) r51.2.Wide r51.2.High r51.2.Edition r51.2.Depths r51.2.Features)))
def impl_Apply6_L12 {R : Type} (n : Nat) (kx1 : Int → Int → Int → List Int → List SFeature → Option R) (kxr : Int → Option R) (J : Int → Int → Int → Int → List Int → List SFeature → Option R) (t25 : List SNote) (t26 : Int) (t27 : Int) (u28 : SUpdate) (t29 : Int) (t30 : Int) (t31 : Int) (c32 : List Int) (c33 : List SFeature) (was34 : Int) (was35 : Int) (was36 : Int) (c37 : List Int) (c38 : List SFeature) (x39 : Int) (x40 : Int) (x41 : Int) (c42 : List Int) (c43 : List SFeature) : Option R :=
  (bif (decide (t27 < t26)) then impl_Apply6_k0 n kx1 kxr J t25 t26 t27 u28 t29 t30 t31 c32 c33 was34 was35 was36 c37 c38 x39 x40 x41 c42 c43 else kx1 x39 x40 x41 c42 c43)
def impl_Apply6_k1 (n : Nat)  (c18 : SChart) (u1 : SUpdate) (was19 : Int) (was20 : Int) (was21 : Int) (t22 : List Int) (t23 : List SFeature) : Option (SChart × Int) :=
  (impl_Chart_own n c18).bind fun r24 => loopN (fun (x : Int × Int × Int × Int × List Int × List SFeature) J' => impl_Apply6_L12 n (fun x58 x59 x60 c61 c62 => (impl_Chart_own n (⟨x58, x59, c61, c62, u1.Edition⟩ : SChart)).bind fun r63 => some (r63, (0 : Int))) (fun t64 => some ((⟨was19, was20, t22, t23, was21⟩ : SChart), t64)) (fun t65 x66 x67 x68 c69 c70 => J' (t65, x66, x67, x68, c69, c70)) u1.Notes (u1.Notes.length : Int) x.1 u1 (0 : Int) (0 : Int) (0 : Int) [] [] was19 was20 was21 t22 t23 x.2.1 x.2.2.1 x.2.2.2.1 x.2.2.2.2.1 x.2.2.2.2.2) n ((0 : Int), r24.Wide, r24.High, r24.Edition, r24.Depths, r24.Features)
def impl_Apply6_k2 (n : Nat)  (t10 : Bool) (c11 : SChart) (u1 : SUpdate) (was12 : Int) (was13 : Int) (was14 : Int) (t15 : List Int) (t16 : List SFeature) : Option (SChart × Int) :=
  (bif t10 then some ((⟨was12, was13, t15, t16, was14⟩ : SChart), (1 : Int)) else (bif (decide (u1.Edition ≤ c11.Edition)) then some ((⟨was12, was13, t15, t16, was14⟩ : SChart), (2 : Int)) else (bd (w64 (c11.Edition + (1 : Int))) fun (v17 : Int) => (bif (decide (u1.Edition > v17)) then some ((⟨was12, was13, t15, t16, was14⟩ : SChart), (3 : Int)) else (bif (decide (u1.Edition > (1000000 : Int))) then some ((⟨was12, was13, t15, t16, was14⟩ : SChart), (4 : Int)) else impl_Apply6_k1 n  c11 u1 was12 was13 was14 t15 t16)))))
def impl_Apply6 (n : Nat) (c0 : SChart) (u1 : SUpdate) : Option (SChart × Int) :=
  (impl_Chart_own n c0).bind fun r1 => (impl_ChartOk n c0).bind fun r2 => (bif (!r2) then some (r1, (1 : Int)) else (impl_in n (u1.Notes.length : Int) (1 : Int) (20 : Int)).bind fun r9 => impl_Apply6_k2 n  (!r9) c0 u1 r1.Wide r1.High r1.Edition r1.Depths r1.Features)
def laws_at (n : Nat) (code0 : List Int) (i1 : Int) : Option Int :=
  (bif (decide (i1 < (code0.length : Int))) then ix i1 code0.length (some ((w64 (code0.getD i1.toNat (0 : Int))))) else (bd (w64 ((w64 (i1 * (7 : Int))) + (code0.length : Int))) fun (v3 : Int) => (bd (Int.tmod v3 (256 : Int)) fun (v4 : Int) => some (v4))))
def impl_Catch_k0 {R : Type} (n : Nat) (kx2 : Bool → Int → Int → Int → List Int → List SFeature → List Bool → Option R) (J : Int → Option R) (list26 : List SUpdate) (again27 : Bool) (i45 : Int) (t28 : List SUpdate) (t29 : Int) (t46 : Int) (c31 : Int) (c32 : Int) (c33 : Int) (c34 : List Int) (c35 : List SFeature) (t36 : Int) (t37 : Int) (t38 : Int) (c39 : List Int) (c40 : List SFeature) (done41 : List Bool) (u47 : SUpdate) : Option R :=
  (impl_Apply6 n (⟨c31, c32, c34, c35, c33⟩ : SChart) u47).bind fun r48 => (bif (decide (r48.2 = (0 : Int))) then ix i45 done41.length (chk (decide (i45.toNat < done41.length)) (kx2 true r48.1.Wide r48.1.High r48.1.Edition r48.1.Depths r48.1.Features (done41.set i45.toNat true))) else J (w64 (t46 + (1 : Int))))
def impl_Catch_k1 {R : Type} (n : Nat) (kx2 : Bool → Int → Int → Int → List Int → List SFeature → List Bool → Option R) (J : Int → Option R) (list26 : List SUpdate) (again27 : Bool) (t28 : List SUpdate) (t29 : Int) (t42 : Int) (c31 : Int) (c32 : Int) (c33 : Int) (c34 : List Int) (c35 : List SFeature) (t36 : Int) (t37 : Int) (t38 : Int) (c39 : List Int) (c40 : List SFeature) (done41 : List Bool) : Option R :=
  ix t42 t28.length ((bd (t28.getD t42.toNat dSUpdate) fun (e43 : SUpdate) => ix t42 done41.length (chk (decide (t42.toNat < done41.length)) ((bif (done41.getD t42.toNat false) then J (w64 (t42 + (1 : Int))) else impl_Catch_k0 n kx2 J list26 again27 t42 t28 t29 t42 c31 c32 c33 c34 c35 t36 t37 t38 c39 c40 done41 e43)))))
def impl_Catch_L9 {R : Type} (n : Nat) (kx2 : Bool → Int → Int → Int → List Int → List SFeature → List Bool → Option R) (J : Int → Option R) (list26 : List SUpdate) (again27 : Bool) (t28 : List SUpdate) (t29 : Int) (t30 : Int) (c31 : Int) (c32 : Int) (c33 : Int) (c34 : List Int) (c35 : List SFeature) (t36 : Int) (t37 : Int) (t38 : Int) (c39 : List Int) (c40 : List SFeature) (done41 : List Bool) : Option R :=
  (bif (decide (t30 < t29)) then impl_Catch_k1 n kx2 J list26 again27 t28 t29 t30 c31 c32 c33 c34 c35 t36 t37 t38 c39 c40 done41 else kx2 again27 c31 c32 c33 c34 c35 done41)
def impl_Catch_L6 {R : Type} (n : Nat) (kx0 : Int → Int → Int → List Int → List SFeature → List Bool → Option R) (J : Bool → Int → Int → Int → List Int → List SFeature → List Bool → Option R) (list7 : List SUpdate) (again8 : Bool) (c9 : Int) (c10 : Int) (c11 : Int) (c12 : List Int) (c13 : List SFeature) (t14 : Int) (t15 : Int) (t16 : Int) (c17 : List Int) (c18 : List SFeature) (done19 : List Bool) : Option R :=
  (bif again8 then loopN (fun (x : Int) J' => impl_Catch_L9 n (fun again58 c59 c60 c61 c62 c63 done64 => J again58 c59 c60 c61 c62 c63 done64) J' list7 false list7 (list7.length : Int) x c9 c10 c11 c12 c13 t14 t15 t16 c17 c18 done19) n ((0 : Int)) else kx0 c9 c10 c11 c12 c13 done19)
def impl_Catch_L18 {R : Type} (n : Nat) (kx4 : List Int → Option R) (J : Int → List Int → Option R) (t72 : Int) (t73 : Int) (c74 : Int) (c75 : Int) (c76 : Int) (c77 : List Int) (c78 : List SFeature) (t79 : Int) (t80 : Int) (t81 : Int) (c82 : List Int) (c83 : List SFeature) (left84 : List Int) (t85 : List Bool) : Option R :=
  (bif (decide (t73 < t72)) then ix t73 t85.length (chk (decide (t73.toNat < t85.length)) ((bif (!(t85.getD t73.toNat false)) then chk (decide ((left84 ++ [t73]).length * 8 ≤ 140737488355328)) (J (w64 (t73 + (1 : Int))) (left84 ++ [t73])) else J (w64 (t73 + (1 : Int))) left84))) else kx4 left84)
def impl_Catch_k2 (n : Nat)  (list1 : List SUpdate) (c2 : Int) (c3 : Int) (c4 : Int) (t5 : List Int) (t6 : List SFeature) : Option (SChart × List Int) :=
  chk (decide ((0 : Int) ≤ (list1.length : Int))) (chk (decide ((list1.length : Int) ≤ (list1.length : Int))) (chk (decide ((list1.length : Int) ≤ 9223372036854775807 ∧ (list1.length : Int) * (1 : Int) ≤ 281474976710656)) (loopN (fun (x : Bool × Int × Int × Int × List Int × List SFeature × List Bool) J' => impl_Catch_L6 n (fun c66 c67 c68 c69 c70 done71 => loopN (fun (x : Int × List Int) J' => impl_Catch_L18 n (fun left96 => (impl_own_int n left96).bind fun r97 => some ((⟨c66, c67, c69, c70, c68⟩ : SChart), r97)) (fun t98 left99 => J' (t98, left99)) (done71.length : Int) x.1 c66 c67 c68 c69 c70 (0 : Int) (0 : Int) (0 : Int) [] [] x.2 done71) n ((0 : Int), [])) (fun again100 c101 c102 c103 c104 c105 done106 => J' (again100, c101, c102, c103, c104, c105, done106)) list1 x.1 x.2.1 x.2.2.1 x.2.2.2.1 x.2.2.2.2.1 x.2.2.2.2.2.1 (0 : Int) (0 : Int) (0 : Int) [] [] x.2.2.2.2.2.2) n (true, c2, c3, c4, t5, t6, (List.replicate (list1.length : Int).toNat false)))))
def impl_Catch (n : Nat) (c0 : SChart) (list1 : List SUpdate) : Option (SChart × List Int) :=
  (impl_Chart_own n c0).bind fun r1 => (bif (decide ((list1.length : Int) > (60 : Int))) then some (r1, []) else impl_Catch_k2 n  list1 r1.Wide r1.High r1.Edition r1.Depths r1.Features)
def laws_sameInts_L4 {R : Type} (n : Nat) (kx0 : Option R) (kxr : Bool → Option R) (J : Int → Option R) (a1 : List Int) (b2 : List Int) (i3 : Int) : Option R :=
  (bif (decide (i3 < (a1.length : Int))) then ix i3 a1.length (ix i3 b2.length ((bif (!(decide ((a1.getD i3.toNat (0 : Int)) = (b2.getD i3.toNat (0 : Int))))) then kxr false else J (w64 (i3 + (1 : Int)))))) else kx0)
def laws_sameInts (n : Nat) (a0 : List Int) (b1 : List Int) : Option Bool :=
  (bif (!(decide ((a0.length : Int) = (b1.length : Int)))) then some (false) else loopN (fun (x : Int) J' => laws_sameInts_L4 n (some (true)) (fun t9 => some (t9)) J' a0 b1 x) n ((0 : Int)))
def impl_DepthAt (n : Nat) (c0 : SChart) (x1 : Int) (y2 : Int) : Option (Int × Bool) :=
  (impl_ChartOk n c0).bind fun r1 => (bif (!r1) then some ((0 : Int), false) else (impl_Chart_place n c0 x1 y2).bind fun r3 => (bif (!r3) then some ((0 : Int), false) else (bd (w64 ((w64 (y2 * c0.Wide)) + x1)) fun (v10 : Int) => ix v10 c0.Depths.length (some ((c0.Depths.getD v10.toNat (0 : Int)), true)))))
def laws_FnCaught_k0 {R : Type} (n : Nat) (kx0 : SChart → Option R) (kxr : Bool → Option R) (J : Int → SChart → Option R) (code3 : List Int) (i8 : Int) (c5 : SChart) (list6 : List SUpdate) (straight9 : SChart) : Option R :=
  ix i8 list6.length (chk (decide (i8.toNat < list6.length)) ((bd (list6.getD i8.toNat dSUpdate) fun (e10 : SUpdate) => chk (decide (i8.toNat < list6.length)) ((impl_Apply6 n straight9 (⟨e10.Edition, (list6.getD i8.toNat dSUpdate).Notes⟩ : SUpdate)).bind fun r11 => (bif (!(decide (r11.2 = (0 : Int)))) then kxr false else J (w64 (i8 + (1 : Int))) r11.1)))))
def laws_FnCaught_L6 {R : Type} (n : Nat) (kx0 : SChart → Option R) (kxr : Bool → Option R) (J : Int → SChart → Option R) (code3 : List Int) (i4 : Int) (c5 : SChart) (list6 : List SUpdate) (straight7 : SChart) : Option R :=
  (bif (decide (i4 < (list6.length : Int))) then laws_FnCaught_k0 n kx0 kxr J code3 i4 c5 list6 straight7 else kx0 straight7)
def laws_FnCaught_k1 {R : Type} (n : Nat) (kx2 : List SUpdate → Option R) (J : Int → List SUpdate → Option R) (code32 : List Int) (list33 : List SUpdate) (i38 : Int) (c35 : SChart) (straight36 : SChart) (mixed39 : List SUpdate) : Option R :=
  (laws_at n code32 i38).bind fun r40 => (bd (w64 ((mixed39.length : Int) + (1 : Int))) fun (v41 : Int) => (bif decide (v41 = 0) then none else chk (decide ((0 : Int) ≤ (Int.tmod r40 v41))) (chk (decide ((Int.tmod r40 v41) ≤ (mixed39.length : Int))) (chk (decide ((0 + ((Int.tmod r40 v41).toNat - 0)) ≤ mixed39.length)) (chk (decide (((mixed39.drop 0).take ((Int.tmod r40 v41).toNat - 0)).length * 32 ≤ 140737488355328)) (ix i38 list33.length ((bd (list33.getD i38.toNat dSUpdate) fun (e42 : SUpdate) => chk (decide ((((mixed39.drop 0).take ((Int.tmod r40 v41).toNat - 0)) ++ [e42]).length * 32 ≤ 140737488355328)) (chk (decide ((0 : Int) ≤ (Int.tmod r40 v41))) (chk (decide ((Int.tmod r40 v41) ≤ (mixed39.length : Int))) (chk (decide (((Int.tmod r40 v41).toNat + (mixed39.length - (Int.tmod r40 v41).toNat)) ≤ mixed39.length)) (chk (decide (((((mixed39.drop 0).take ((Int.tmod r40 v41).toNat - 0)) ++ [e42]) ++ ((mixed39.drop ((Int.tmod r40 v41).toNat)).take (mixed39.length - (Int.tmod r40 v41).toNat))).length * 32 ≤ 140737488355328)) (J (w64 (i38 + (1 : Int))) ((((mixed39.drop 0).take ((Int.tmod r40 v41).toNat - 0)) ++ [e42]) ++ ((mixed39.drop ((Int.tmod r40 v41).toNat)).take (mixed39.length - (Int.tmod r40 v41).toNat))))))))))))))))
def laws_FnCaught_L14 {R : Type} (n : Nat) (kx2 : List SUpdate → Option R) (J : Int → List SUpdate → Option R) (code32 : List Int) (list33 : List SUpdate) (i34 : Int) (c35 : SChart) (straight36 : SChart) (mixed37 : List SUpdate) : Option R :=
  (bif (decide (i34 < (list33.length : Int))) then laws_FnCaught_k1 n kx2 J code32 list33 i34 c35 straight36 mixed37 else kx2 mixed37)
def laws_FnCaught_k2 (n : Nat)  (list83 : List SUpdate) (c84 : SChart) (straight85 : SChart) (got86 : Int) (got87 : Int) (got88 : Int) (t89 : List Int) (t90 : List SFeature) : Option Bool :=
  ix (0 : Int) list83.length ((bd (list83.getD 0 dSUpdate) fun (e91 : SUpdate) => (bd (w64 (e91.Edition + (5 : Int))) fun (v92 : Int) => (impl_Apply6 n c84 (⟨v92, e91.Notes⟩ : SUpdate)).bind fun r93 => (impl_DepthAt n (⟨got86, got87, t89, t90, got88⟩ : SChart) (0 : Int) (0 : Int)).bind fun r94 => (bif (decide (r93.2 = (3 : Int))) then (bif (decide (r93.1.Edition = c84.Edition)) then (bif r94.2 then ix (0 : Int) straight85.Depths.length (some ((decide (r94.1 = (straight85.Depths.getD 0 (0 : Int)))))) else some (false)) else some (false)) else some (false)))))
def laws_FnCaught_k3 (n : Nat)  (code0 : List Int) : Option Bool :=
  (spec_DrawEditions n code0).bind fun r2 => loopN (fun (x : Int × SChart) J' => laws_FnCaught_L6 n (fun straight31 => loopN (fun (x : Int × List SUpdate) J' => laws_FnCaught_L14 n (fun mixed43 => (laws_at n code0 (9 : Int)).bind fun r44 => (bif decide ((r2.2.length : Int) = 0) then none else (bd (Int.tmod r44 (r2.2.length : Int)) fun (v45 : Int) => ix v45 r2.2.length ((bd (r2.2.getD v45.toNat dSUpdate) fun (e46 : SUpdate) => chk (decide ((mixed43 ++ [e46]).length * 32 ≤ 140737488355328)) ((impl_Catch n r2.1 (mixed43 ++ [e46])).bind fun r47 => (bif (!(decide ((r47.2.length : Int) = (1 : Int)))) then some (false) else (bif (!(decide (r47.1.Edition = straight31.Edition))) then some (false) else (laws_sameInts n r47.1.Depths straight31.Depths).bind fun r64 => (bif (!r64) then some (false) else (impl_ChartOk n r47.1).bind fun r73 => (bif (!r73) then some (false) else laws_FnCaught_k2 n  r2.2 r2.1 straight31 r47.1.Wide r47.1.High r47.1.Edition r47.1.Depths r47.1.Features)))))))))) (fun i104 mixed105 => J' (i104, mixed105)) code0 r2.2 x.1 r2.1 straight31 x.2) n ((0 : Int), [])) (fun t106 => some (t106)) (fun i107 straight108 => J' (i107, straight108)) code0 x.1 r2.1 r2.2 x.2) n ((0 : Int), r2.1)
def laws_FnCaught (n : Nat) (code0 : List Int) : Option Bool :=
  (laws_big n code0).bind fun r1 => (bif r1 then some (true) else laws_FnCaught_k3 n  code0)
def rng (a b x : Int) : Prop := a ≤ x ∧ x ≤ b
def wfSFeature (x : SFeature) : Prop := rng (-9223372036854775808) 9223372036854775807 x.Id ∧ rng (-9223372036854775808) 9223372036854775807 x.Kind ∧ rng (-9223372036854775808) 9223372036854775807 x.X ∧ rng (-9223372036854775808) 9223372036854775807 x.Y ∧ x.Text.size ≤ 9223372036854775807
def wfSChart (x : SChart) : Prop := rng (-9223372036854775808) 9223372036854775807 x.Wide ∧ rng (-9223372036854775808) 9223372036854775807 x.High ∧ (x.Depths.length ≤ 9223372036854775807 ∧ ∀ y ∈ x.Depths, rng (-9223372036854775808) 9223372036854775807 y) ∧ (x.Features.length ≤ 9223372036854775807 ∧ ∀ y ∈ x.Features, wfSFeature y) ∧ rng (-9223372036854775808) 9223372036854775807 x.Edition
def wfSNote (x : SNote) : Prop := rng (-9223372036854775808) 9223372036854775807 x.Kind ∧ rng (-9223372036854775808) 9223372036854775807 x.Id ∧ rng (-9223372036854775808) 9223372036854775807 x.X ∧ rng (-9223372036854775808) 9223372036854775807 x.Y ∧ rng (-9223372036854775808) 9223372036854775807 x.Depth ∧ x.Text.size ≤ 9223372036854775807 ∧ rng (-9223372036854775808) 9223372036854775807 x.Sort_
def wfSUpdate (x : SUpdate) : Prop := rng (-9223372036854775808) 9223372036854775807 x.Edition ∧ (x.Notes.length ≤ 9223372036854775807 ∧ ∀ y ∈ x.Notes, wfSNote y)
def wfSl1Cur (x : Sl1Cur) : Prop := (x.b.length ≤ 9223372036854775807 ∧ ∀ y ∈ x.b, rng 0 255 y) ∧ rng (-9223372036854775808) 9223372036854775807 x.i ∧ rng (-9223372036854775808) 9223372036854775807 x.h
end Go.Sm

section
set_option linter.unusedSimpArgs false
set_option linter.deprecated false
set_option linter.unusedSectionVars false
set_option linter.unusedVariables false
namespace Go.Sm
/-! ### Of the words that printed functions are made of -/
theorem w64_id {x : Int} (h1 : -9223372036854775808 ≤ x) (h2 : x ≤ 9223372036854775807) : w64 x = x := by
  show (let m := x % (2 ^ 64 : Int); if (true && decide ((2 : Int) ^ 63 ≤ m)) = true then m - 2 ^ 64 else m) = x
  simp only [Bool.true_and, decide_eq_true_eq]
  split <;> omega
theorem w64_rng (x : Int) : -9223372036854775808 ≤ w64 x ∧ w64 x ≤ 9223372036854775807 := by
  show -9223372036854775808 ≤ (let m := x % (2 ^ 64 : Int); if (true && decide ((2 : Int) ^ 63 ≤ m)) = true then m - 2 ^ 64 else m) ∧ (let m := x % (2 ^ 64 : Int); if (true && decide ((2 : Int) ^ 63 ≤ m)) = true then m - 2 ^ 64 else m) ≤ 9223372036854775807
  simp only [Bool.true_and, decide_eq_true_eq]
  split <;> omega
theorem chk_of {R : Type} {b : Bool} {x : Option R} (h : b = true) : chk b x = x := by rw [h]; rfl
theorem chk_true {R : Type} {x : Option R} : chk true x = x := rfl
theorem chk_dec {R : Type} {p : Prop} [Decidable p] {x : Option R} (h : p) : chk (decide p) x = x := chk_of (decide_eq_true h)
theorem ix_of {R : Type} {i : Int} {len : Nat} {x : Option R} (h0 : 0 ≤ i) (h1 : i < (len : Int)) : ix i len x = x := by
  unfold ix
  rw [decide_eq_true h0, decide_eq_true h1]
  rfl
theorem ix_nat {R : Type} {i len : Nat} {x : Option R} (h1 : i < len) : ix (i : Int) len x = x := ix_of (by omega) (by omega)
theorem bif_dec {α : Type} {p : Prop} [Decidable p] {x y : α} : (bif decide p then x else y) = if p then x else y := by
  by_cases h : p <;> simp [h]
theorem bif_not {α : Type} {b : Bool} {x y : α} : (bif !b then x else y) = bif b then y else x := by cases b <;> rfl
theorem bif_and {α : Type} {a b : Bool} {x y : α} : (bif a && b then x else y) = bif a then (bif b then x else y) else y := by cases a <;> rfl
theorem loopN_succ {X R : Type} (b : X → (X → Option R) → Option R) (m : Nat) (x : X) : loopN b (m + 1) x = b x (loopN b m) := rfl
/-- What holds of a loop: by what is left to go. -/
theorem loopN_ind {X R : Type} {b : X → (X → Option R) → Option R} (μ : X → Nat) (I : X → Prop) (Q : X → Option R → Prop)
    (h : ∀ x J, I x → (∀ y, I y → μ y < μ x → Q y (J y)) → Q x (b x J)) : ∀ n x, I x → μ x < n → Q x (loopN b n x)
  | 0, x, hi, hm => absurd hm (Nat.not_lt_zero _)
  | n + 1, x, hi, hm => h x (loopN b n) hi fun y hy hl => loopN_ind μ I Q h n y hy (by omega)
theorem getD_eq {α : Type} {l : List α} {i : Nat} {d : α} (h : i < l.length) : l.getD i d = l[i] := by
  simp [List.getD, h]
theorem w64_succ {k : Nat} (h : k < 9223372036854775807) : w64 ((k : Int) + 1) = ((k + 1 : Nat) : Int) := by
  rw [w64_id (by omega) (by omega)]
  rfl
theorem take_succ_getD {α : Type} {l : List α} {i : Nat} {d : α} (h : i < l.length) : l.take (i + 1) = l.take i ++ [l.getD i d] := by
  rw [List.take_succ, getD_eq h, List.getElem?_eq_getElem h]
  rfl
theorem drop_getD {α : Type} {l : List α} {i : Nat} {d : α} (h : i < l.length) : l.drop i = l.getD i d :: l.drop (i + 1) := by
  rw [getD_eq h]
  exact List.drop_eq_getElem_cons h
theorem bd_eq {α β : Type} (e : α) (f : α → β) : bd e f = f e := rfl
theorem bd_set {α β : Type} {Q : β → Prop} {F : List α → β} {p : List α} {i : Nat} {x : α} (h : ∀ l : List α, l.length = p.length → Q (F l)) : Q (bd (p.set i x) F) := h _ (by simp)
theorem bd_is {α β : Type} {Q : β → Prop} {F : α → β} {e : α} (h : ∀ v : α, v = e → Q (F v)) : Q (bd e F) := h _ rfl
theorem bd_val {α β : Type} {Q : β → Prop} {F : α → β} {e : α} (h : ∀ v : α, Q (F v)) : Q (bd e F) := h _
theorem chk_q {R : Type} {Q : Option R → Prop} {b : Bool} {x : Option R} (h : b = true) (hx : Q x) : Q (chk b x) := by rw [chk_of h]; exact hx
theorem ix_q {R : Type} {Q : Option R → Prop} {i : Int} {len : Nat} {x : Option R} (h0 : 0 ≤ i) (h1 : i < (len : Int)) (hx : Q x) : Q (ix i len x) := by rw [ix_of h0 h1]; exact hx
theorem bd_upd {α β : Type} {Q : β → Prop} {F : List α → β} {p : List α} {i : Nat} {x d : α} (hi : i < p.length) (h : ∀ l : List α, l.length = p.length → l.getD i d = x → (∀ j, j ≠ i → l.getD j d = p.getD j d) → Q (F l)) : Q (bd (p.set i x) F) :=
  h _ (by simp) (by simp [List.getD, hi]) (fun j hj => by simp [List.getD, List.getElem?_set, Ne.symm hj])
/-- A list written from the front. -/
theorem set_take {α : Type} {a : List α} {d : α} {m k : Nat} (h : k < a.length) (hm : m = a.length := by rfl) : (a.take k ++ (List.replicate m d).drop k).set k (a.getD k d) = a.take (k + 1) ++ (List.replicate m d).drop (k + 1) := by
  subst hm
  have h1 : (a.take k).length = k := by simp; omega
  rw [List.set_append_right _ _ (by omega), h1, Nat.sub_self, take_succ_getD h, List.append_assoc]
  congr 1
  rw [List.drop_eq_getElem_cons (by simp; exact h)]
  rfl
/-! ### Loops over 0 .. len, by what is left -/
/-- Steps k, k+1, .. told one after the other; J: what comes behind a step. -/
def forK {S R : Type} (step : Nat → S → (S → Option R) → Option R) (fin : S → Option R) : Nat → Nat → S → Option R
  | 0, _, s => fin s
  | m + 1, k, s => step k s fun s' => forK step fin m (k + 1) s'
theorem loop_forK {X S R : Type} {b : X → (X → Option R) → Option R} {enc : Nat → S → X} {len : Nat} {step : Nat → S → (S → Option R) → Option R} {fin : S → Option R} (I : Nat → S → Prop)
    (hstep : ∀ k s J J', k < len → I k s → (∀ s', I (k + 1) s' → J (enc (k + 1) s') = J' s') → b (enc k s) J = step k s J') (hfin : ∀ s J, I len s → b (enc len s) J = fin s) :
    ∀ m k s n, k + m = len → m < n → I k s → loopN b n (enc k s) = forK step fin m k s
  | 0, k, s, 0, _, h, _ => absurd h (Nat.lt_irrefl _)
  | 0, k, s, n + 1, hk, _, hi => by
    have hk : k = len := by omega
    subst hk
    exact hfin s _ hi
  | m + 1, k, s, 0, _, h, _ => absurd h (Nat.not_lt_zero _)
  | m + 1, k, s, n + 1, hk, hn, hi => by
    show b (enc k s) (loopN b n) = step k s fun s' => forK step fin m (k + 1) s'
    exact hstep k s _ _ (by omega) hi fun s' hi' => loop_forK I hstep hfin m (k + 1) s' n (by omega) (by omega) hi'
/-- The first k at which f answers; at none: z. -/
def scanK {R : Type} (f : Nat → Option (Option R)) (z : Option R) : Nat → Nat → Option R
  | 0, _ => z
  | m + 1, k => match f k with
    | some r => r
    | none => scanK f z m (k + 1)
theorem loop_scan {X R : Type} {b : X → (X → Option R) → Option R} {enc : Nat → X} {len : Nat} {f : Nat → Option (Option R)} {z : Option R}
    (hstep : ∀ k J, k < len → b (enc k) J = match f k with | some r => r | none => J (enc (k + 1))) (hfin : ∀ J, b (enc len) J = z) :
    ∀ m k n, k + m = len → m < n → loopN b n (enc k) = scanK f z m k
  | 0, k, 0, _, h => absurd h (Nat.lt_irrefl _)
  | 0, k, n + 1, hk, _ => by
    have hk : k = len := by omega
    subst hk
    exact hfin _
  | m + 1, k, 0, _, h => absurd h (Nat.not_lt_zero _)
  | m + 1, k, n + 1, hk, hn => by
    show b (enc k) (loopN b n) = _
    rw [hstep k _ (by omega)]
    unfold scanK
    cases f k with
    | some r => rfl
    | none => exact loop_scan hstep hfin m (k + 1) n (by omega) (by omega)
/-- Is p so of all of k, .. k + m - 1? -/
theorem scan_all {R : Type} {p : Nat → Bool} {r z : Option R} : ∀ m k, scanK (fun k => bif p k then none else some r) z m k = bif (List.range' k m).all p then z else r
  | 0, k => rfl
  | m + 1, k => by
    rw [scanK, List.range'_succ, List.all_cons]
    cases h : p k with
    | true => simp only [cond_true, Bool.true_and]; exact scan_all m (k + 1)
    | false => rfl
theorem scan_any {R : Type} {p : Nat → Bool} {r z : Option R} : ∀ m k, scanK (fun k => bif p k then some r else none) z m k = bif (List.range' k m).any p then r else z
  | 0, k => rfl
  | m + 1, k => by
    rw [scanK, List.range'_succ, List.any_cons]
    cases h : p k with
    | false => simp only [cond_false, Bool.false_or]; exact scan_any m (k + 1)
    | true => rfl
theorem mgetI_mputI {β : Type} (l : List (Int × β)) (n m : Int) (v : β) : mgetI (mputI l n v) m = if m = n then some v else mgetI l m := by
  unfold mgetI mputI
  induction l with
  | nil =>
    by_cases h : m = n <;> simp [h]
  | cons a l ih =>
    rw [List.findIdx?_cons]
    by_cases h : n = a.1
    · simp only [h, decide_true, if_true, Option.elim_some, List.set_cons_zero, List.find?_cons]
      by_cases h2 : m = a.1
      · simp [h2]
      · simp [h2]
    · simp only [h, decide_false, Bool.false_eq_true, if_false]
      cases hf : l.findIdx? (fun e => decide (n = e.1)) with
      | none =>
        rw [hf] at ih
        simp only [Option.elim_none] at ih
        simp only [Option.map_none, Option.elim_none, List.cons_append, List.find?_cons]
        by_cases h2 : m = a.1
        · have : m ≠ n := fun e => h (e ▸ h2)
          simp [h2]
          simp [h2] at this
          simp [this]
        · simp only [h2, decide_false]
          exact ih
      | some i =>
        rw [hf] at ih
        simp only [Option.elim_some] at ih
        simp only [Option.map_some, Option.elim_some, List.set_cons_succ, List.find?_cons]
        by_cases h2 : m = a.1
        · have : m ≠ n := fun e => h (e ▸ h2)
          simp [h2]
          simp [h2] at this
          simp [this]
        · simp only [h2, decide_false]
          exact ih
theorem mgetI_nil {β : Type} (m : Int) : mgetI ([] : List (Int × β)) m = none := rfl
/-! ### Chains of tests -/
theorem bif_and' {α : Type} {a b : Bool} {x y : α} : (bif a then (bif b then x else y) else y) = bif a && b then x else y := by cases a <;> rfl
theorem bif_or' {α : Type} {a b : Bool} {x y : α} : (bif a then y else (bif b then x else y)) = bif !a && b then x else y := by cases a <;> rfl
theorem bif_and2 {α : Type} {a b : Bool} {x y : α} : (bif a then (bif b then y else x) else y) = bif a && !b then x else y := by cases a <;> cases b <;> rfl
theorem bif_or2 {α : Type} {a b : Bool} {x y : α} : (bif a then y else (bif b then y else x)) = bif !a && !b then x else y := by cases a <;> cases b <;> rfl
theorem bif_some {α β : Type} {a : Bool} {x y : α} {f : α → Option β} : (bif a then some x else some y).bind f = bif a then f x else f y := by cases a <;> rfl
theorem bif_tf {a : Bool} : (bif a then some true else some false) = some a := by cases a <;> rfl
theorem bif_ft {a : Bool} : (bif a then some false else some true) = some (!a) := by cases a <;> rfl
theorem bif_sf {a b : Bool} : (bif a then some b else some false) = some (a && b) := by cases a <;> rfl
theorem all_range_succ {p : Nat → Bool} {k : Nat} : (List.range (k + 1)).all p = ((List.range k).all p && p k) := by
  rw [List.range_succ, List.all_append]
  simp
theorem any_range_succ {p : Nat → Bool} {k : Nat} : (List.range (k + 1)).any p = ((List.range k).any p || p k) := by
  rw [List.range_succ, List.any_append]
  simp
theorem all_range_not {p : Nat → Bool} {k m : Nat} (hk : k < m) (h : p k = false) : (List.range m).all p = false := by
  rw [Bool.eq_false_iff]
  intro e
  rw [List.all_eq_true] at e
  rw [e k (List.mem_range.2 hk)] at h
  cases h
theorem any_range_of {p : Nat → Bool} {k m : Nat} (hk : k < m) (h : p k = true) : (List.range m).any p = true := by
  rw [List.any_eq_true]
  exact ⟨k, List.mem_range.2 hk, h⟩
/-- A loop that looks at k = 0, 1, .. and leaves at the first that is not so. -/
theorem loop_all {R : Type} {b : Int → (Int → Option R) → Option R} {len : Nat} {p : Nat → Bool} {no yes : Option R} (hlen : len ≤ 9223372036854775807)
    (hstep : ∀ (k : Nat) (J : Int → Option R), k < len → (∀ j, j < k → p j = true) → b (k : Int) J = bif p k then J ((k + 1 : Nat) : Int) else no) (hfin : ∀ J, (∀ j, j < len → p j = true) → b (len : Int) J = yes) {n : Nat} (hn : len < n) :
    loopN b n (0 : Int) = bif (List.range len).all p then yes else no := by
  refine loopN_ind (fun x => len - x.toNat) (fun x => ∃ k : Nat, k ≤ len ∧ x = (k : Int) ∧ (List.range k).all p = true) (fun x r => r = bif (List.range len).all p then yes else no) ?_ n _ ⟨0, by omega, rfl, rfl⟩ (by simp; omega)
  rintro _ J ⟨k, hk, rfl, hb⟩ ih
  have hb' : ∀ j, j < k → p j = true := fun j hj => List.all_eq_true.1 hb j (List.mem_range.2 hj)
  by_cases h : k < len
  · rw [hstep k J h hb']
    cases hp : p k with
    | true => exact ih _ ⟨k + 1, h, rfl, by rw [all_range_succ, hb, hp]; rfl⟩ (by simp; omega)
    | false => rw [all_range_not h hp]; rfl
  · have : k = len := by omega
    subst this
    rw [hfin _ hb', hb]
    rfl
/-- The same, a state turned on the way (its invariant: I). -/
theorem loop_allS {S R : Type} {X : Type} {enc : Int → S → X} {b : X → (X → Option R) → Option R} {len : Nat} {p : Nat → Bool} {I : Nat → S → Prop} {no yes : Option R}
    (hstep : ∀ (k : Nat) (s : S) (J : X → Option R), k < len → I k s → (∀ j, j < k → p j = true) → ∃ s', (p k = true → I (k + 1) s') ∧ b (enc (k : Int) s) J = bif p k then J (enc ((k + 1 : Nat) : Int) s') else no) (hfin : ∀ s J, I len s → (∀ j, j < len → p j = true) → b (enc (len : Int) s) J = yes) {n : Nat} (hn : len < n) {s0 : S} (h0 : I 0 s0) :
    loopN b n (enc (0 : Int) s0) = bif (List.range len).all p then yes else no := by
  have key : ∀ m (k : Nat) (s : S) n, k + m = len → m < n → I k s → (List.range k).all p = true → loopN b n (enc (k : Int) s) = bif (List.range len).all p then yes else no := by
    intro m
    induction m with
    | zero =>
      intro k s n hk hn hi hb
      have hb' : ∀ j, j < k → p j = true := fun j hj => List.all_eq_true.1 hb j (List.mem_range.2 hj)
      have hk : k = len := by omega
      subst hk
      cases n with
      | zero => omega
      | succ n => rw [loopN_succ, hfin s _ hi hb', hb]; rfl
    | succ m ih =>
      intro k s n hk hn hi hb
      have hb' : ∀ j, j < k → p j = true := fun j hj => List.all_eq_true.1 hb j (List.mem_range.2 hj)
      cases n with
      | zero => omega
      | succ n =>
        rw [loopN_succ]
        obtain ⟨s', h1, h2⟩ := hstep k s (loopN b n) (by omega) hi hb'
        rw [h2]
        cases hp : p k with
        | true => exact ih (k + 1) s' n (by omega) (by omega) (h1 hp) (by rw [all_range_succ, hb, hp]; rfl)
        | false => rw [all_range_not (by omega : k < len) hp]; rfl
  exact key len 0 s0 n (by omega) hn h0 rfl
/-- A loop over 0 .. len that never leaves early; its state: I. -/
theorem loop_runS {S R : Type} {X : Type} {enc : Int → S → X} {b : X → (X → Option R) → Option R} {len : Nat} {I : Nat → S → Prop} {Q : Option R → Prop}
    (hstep : ∀ (k : Nat) (s : S) (J : X → Option R), k < len → I k s → ∃ s', I (k + 1) s' ∧ b (enc (k : Int) s) J = J (enc ((k + 1 : Nat) : Int) s')) (hfin : ∀ s J, I len s → Q (b (enc (len : Int) s) J)) {n : Nat} (hn : len < n) {s0 : S} (h0 : I 0 s0) :
    Q (loopN b n (enc (0 : Int) s0)) := by
  have key : ∀ m (k : Nat) (s : S) n, k + m = len → m < n → I k s → Q (loopN b n (enc (k : Int) s)) := by
    intro m
    induction m with
    | zero =>
      intro k s n hk hn hi
      have hk : k = len := by omega
      subst hk
      cases n with
      | zero => omega
      | succ n => rw [loopN_succ]; exact hfin s _ hi
    | succ m ih =>
      intro k s n hk hn hi
      cases n with
      | zero => omega
      | succ n =>
        rw [loopN_succ]
        obtain ⟨s', h1, h2⟩ := hstep k s (loopN b n) (by omega) hi
        rw [h2]
        exact ih (k + 1) s' n (by omega) (by omega) h1
  exact key len 0 s0 n (by omega) hn h0
/-! ### Sums over lists -/
def sumOf {α : Type} (f : α → Nat) : List α → Nat
  | [] => 0
  | a :: l => f a + sumOf f l
theorem sumOf_append {α : Type} (f : α → Nat) : ∀ a b : List α, sumOf f (a ++ b) = sumOf f a + sumOf f b
  | [], b => by simp [sumOf]
  | x :: a, b => by simp only [List.cons_append, sumOf, sumOf_append f a b]; omega
theorem sumOf_take_succ {α : Type} {f : α → Nat} {l : List α} {k : Nat} {d : α} (h : k < l.length) : sumOf f (l.take (k + 1)) = sumOf f (l.take k) + f (l.getD k d) := by
  rw [take_succ_getD (d := d) h, sumOf_append]
  simp [sumOf]
theorem sumOf_take_le {α : Type} (f : α → Nat) (l : List α) (k : Nat) : sumOf f (l.take k) ≤ sumOf f l := by
  have := sumOf_append f (l.take k) (l.drop k)
  rw [List.take_append_drop] at this
  omega
theorem sumOf_mem {α : Type} {f : α → Nat} {l : List α} {k : Nat} {d : α} (h : k < l.length) : f (l.getD k d) ≤ sumOf f l := by
  have h1 := sumOf_take_succ (f := f) (d := d) h
  have h2 := sumOf_take_le f l (k + 1)
  omega
theorem sumOf_lin {α : Type} {f g : α → Nat} {c s : Nat} (h : ∀ y, f y ≤ c * g y + s) : ∀ l : List α, sumOf f l ≤ c * sumOf g l + s * l.length
  | [] => by simp [sumOf]
  | a :: l => by
    have h1 := h a
    have h2 := sumOf_lin h l
    simp only [sumOf, List.length_cons, Nat.mul_add, Nat.mul_succ]
    omega
theorem sumOf_const {α : Type} (c : Nat) : ∀ l : List α, sumOf (fun _ => c) l = c * l.length
  | [] => by simp [sumOf]
  | a :: l => by simp only [sumOf, sumOf_const c l, List.length_cons, Nat.mul_succ]; omega
theorem getD_set {α : Type} {l : List α} {k : Nat} {x d : α} (h : k < l.length) : (l.set k x).getD k d = x := by simp [List.getD, h]
theorem getD_set_ne {α : Type} {l : List α} {k j : Nat} {x d : α} (h : j ≠ k) : (l.set k x).getD j d = l.getD j d := by simp [List.getD, List.getElem?_set, Ne.symm h]
theorem getD_mem {α : Type} {l : List α} {k : Nat} {d : α} (h : k < l.length) : l.getD k d ∈ l := by rw [getD_eq h]; exact List.getElem_mem h
theorem take_drop_set {α : Type} {a : List α} {d : α} {m k : Nat} {x : α} (h : k < a.length) (hm : m = a.length) (hx : x = a.getD k d) : (a.take k ++ (List.replicate m d).drop k).set k x = a.take (k + 1) ++ (List.replicate m d).drop (k + 1) := by
  subst hx
  exact set_take h hm
/-! ### The first that is so -/
def idxOf (p : Nat → Bool) (m : Nat) : Int := match (List.range m).find? p with
  | some k => (k : Int)
  | none => -1
theorem find_range_none {p : Nat → Bool} {m : Nat} (h : ∀ j, j < m → p j = false) : (List.range m).find? p = none := by
  rw [List.find?_eq_none]
  intro x hx
  rw [h x (List.mem_range.1 hx)]
  simp
theorem find_range_some {p : Nat → Bool} {m k : Nat} (hk : k < m) (hp : p k = true) (h : ∀ j, j < k → p j = false) : (List.range m).find? p = some k := by
  have e : m = k + (m - k) := by omega
  rw [e, List.range_add, List.find?_append, find_range_none h, Option.none_or]
  obtain ⟨r, hr⟩ : ∃ r, m - k = r + 1 := ⟨m - k - 1, by omega⟩
  rw [hr, List.range_succ_eq_map]
  simp [hp]
theorem idxOf_ge (p : Nat → Bool) (m : Nat) : decide (idxOf p m ≥ 0) = (List.range m).any p := by
  unfold idxOf
  cases h : (List.range m).find? p with
  | none =>
    rw [List.find?_eq_none] at h
    rw [show (List.range m).any p = false from by rw [List.any_eq_false]; exact h]
    rfl
  | some k =>
    have h1 := List.find?_some h
    rw [show (List.range m).any p = true from List.any_eq_true.2 ⟨k, List.mem_of_find?_eq_some h, h1⟩]
    exact decide_eq_true (by show (0 : Int) ≤ (k : Int); omega)
theorem idxOf_lt (p : Nat → Bool) (m : Nat) : decide (idxOf p m < 0) = !(List.range m).any p := by
  rw [← idxOf_ge]
  by_cases h : idxOf p m < 0
  · rw [decide_eq_true h, decide_eq_false (by omega)]; rfl
  · rw [decide_eq_false h, decide_eq_true (by omega)]; rfl
theorem find_range (p : Nat → Bool) : ∀ m, ((List.range m).find? p = none ∧ ∀ j, j < m → p j = false) ∨ ∃ k, (List.range m).find? p = some k ∧ k < m ∧ p k = true ∧ ∀ j, j < k → p j = false
  | 0 => .inl ⟨rfl, fun j hj => absurd hj (Nat.not_lt_zero _)⟩
  | m + 1 => by
    rcases find_range p m with ⟨h1, h2⟩ | ⟨k, h1, h2, h3, h4⟩
    · cases hp : p m with
      | true => exact .inr ⟨m, find_range_some (by omega) hp h2, by omega, hp, h2⟩
      | false =>
        have : ∀ j, j < m + 1 → p j = false := fun j hj => by
          by_cases e : j = m
          · rw [e]; exact hp
          · exact h2 j (by omega)
        exact .inl ⟨find_range_none this, this⟩
    · exact .inr ⟨k, find_range_some (by omega) h3 h4, by omega, h3, h4⟩
theorem idxOf_spec (p : Nat → Bool) (m : Nat) : (idxOf p m = -1 ∧ ∀ j, j < m → p j = false) ∨ ∃ k : Nat, idxOf p m = (k : Int) ∧ k < m ∧ p k = true ∧ ∀ j, j < k → p j = false := by
  unfold idxOf
  rcases find_range p m with ⟨h1, h2⟩ | ⟨k, h1, h2, h3, h4⟩
  · rw [h1]; exact .inl ⟨rfl, h2⟩
  · rw [h1]; exact .inr ⟨k, rfl, h2, h3, h4⟩
/-- A loop that looks at k = 0, 1, .. and leaves at the first that is so. -/
theorem loop_find {R : Type} {b : Int → (Int → Option R) → Option R} {len : Nat} {p : Nat → Bool} {yes : Nat → Option R} {no : Option R} (hlen : len ≤ 9223372036854775807)
    (hstep : ∀ (k : Nat) (J : Int → Option R), k < len → (∀ j, j < k → p j = false) → b (k : Int) J = bif p k then yes k else J ((k + 1 : Nat) : Int)) (hfin : ∀ J, (∀ j, j < len → p j = false) → b (len : Int) J = no) {n : Nat} (hn : len < n) :
    loopN b n (0 : Int) = match (List.range len).find? p with | some k => yes k | none => no := by
  refine loopN_ind (fun x => len - x.toNat) (fun x => ∃ k : Nat, k ≤ len ∧ x = (k : Int) ∧ ∀ j, j < k → p j = false) (fun x r => r = match (List.range len).find? p with | some k => yes k | none => no) ?_ n _ ⟨0, by omega, rfl, fun j hj => absurd hj (Nat.not_lt_zero _)⟩ (by simp; omega)
  rintro _ J ⟨k, hk, rfl, hb⟩ ih
  by_cases h : k < len
  · rw [hstep k J h hb]
    cases hp : p k with
    | false => exact ih _ ⟨k + 1, h, rfl, fun j hj => by
        by_cases e : j = k
        · rw [e]; exact hp
        · exact hb j (by omega)⟩ (by simp; omega)
    | true => rw [find_range_some h hp hb]; rfl
  · have : k = len := by omega
    subst this
    rw [hfin _ hb, find_range_none hb]
theorem loop_idx {b : Int → (Int → Option Int) → Option Int} {len : Nat} {p : Nat → Bool} (hlen : len ≤ 9223372036854775807)
    (hstep : ∀ (k : Nat) (J : Int → Option Int), k < len → (∀ j, j < k → p j = false) → b (k : Int) J = bif p k then some (k : Int) else J ((k + 1 : Nat) : Int)) (hfin : ∀ J, (∀ j, j < len → p j = false) → b (len : Int) J = some (-1)) {n : Nat} (hn : len < n) :
    loopN b n (0 : Int) = some (idxOf p len) := by
  rw [loop_find (yes := fun k => some (k : Int)) (no := some (-1)) hlen hstep hfin hn]
  unfold idxOf
  cases (List.range len).find? p <;> rfl
theorem byteAt_rng (s : ByteArray) (k : Nat) : 0 ≤ byteAt s k ∧ byteAt s k ≤ 255 := by
  unfold byteAt
  have := (s.data.getD k 0).toNat_lt
  omega
theorem range_any {α : Type} {l : List α} {d : α} {f : α → Bool} : (List.range l.length).any (fun k => f (l.getD k d)) = l.any f := by
  induction l with
  | nil => rfl
  | cons a l ih =>
    rw [List.length_cons, List.range_succ_eq_map, List.any_cons, List.any_map, List.any_cons, ← ih]
    rfl
theorem range_all {α : Type} {l : List α} {d : α} {f : α → Bool} : (List.range l.length).all (fun k => f (l.getD k d)) = l.all f := by
  induction l with
  | nil => rfl
  | cons a l ih =>
    rw [List.length_cons, List.range_succ_eq_map, List.all_cons, List.all_map, List.all_cons, ← ih]
    rfl
theorem all_congr_lt {p q : Nat → Bool} {m : Nat} (h : ∀ k, k < m → p k = q k) : (List.range m).all p = (List.range m).all q := by
  rw [Bool.eq_iff_iff, List.all_eq_true, List.all_eq_true]
  constructor
  · intro g x hx; rw [← h x (List.mem_range.1 hx)]; exact g x hx
  · intro g x hx; rw [h x (List.mem_range.1 hx)]; exact g x hx
theorem any_congr_lt {p q : Nat → Bool} {m : Nat} (h : ∀ k, k < m → p k = q k) : (List.range m).any p = (List.range m).any q := by
  rw [Bool.eq_iff_iff, List.any_eq_true, List.any_eq_true]
  constructor
  · rintro ⟨x, hx, g⟩; exact ⟨x, hx, by rw [← h x (List.mem_range.1 hx)]; exact g⟩
  · rintro ⟨x, hx, g⟩; exact ⟨x, hx, by rw [h x (List.mem_range.1 hx)]; exact g⟩
theorem guard_sz {w : Nat} {x : Option Bool} (h : w ≤ 1048576 → x = some true) : (bif decide ((if (w : Int) ≤ 1048576 then 1048576 - (w : Int) else -1) < 0) then some true else x) = some true := by
  by_cases c : (w : Int) ≤ 1048576
  · rw [if_pos c, decide_eq_false (by omega), cond_false]
    exact h (by omega)
  · rw [if_neg c]
    rfl
end Go.Sm
end

section
set_option linter.unusedSimpArgs false
set_option linter.deprecated false
set_option linter.unusedSectionVars false
set_option linter.unusedVariables false
set_option linter.unusedSimpArgs false
namespace Go.Sm
attribute [local irreducible] bd chk ix loopN
theorem in_impl5 (n : Nat) (x a b : Int) : impl_in n x a b = some (decide (a ≤ x ∧ x ≤ b)) := by
  unfold impl_in
  by_cases h0 : a ≤ x <;> by_cases h1 : x ≤ b <;> simp [h0, h1]
def placeOk (c : SChart) (x y : Int) : Bool := decide (0 ≤ x ∧ x ≤ w64 (c.Wide - 1)) && decide (0 ≤ y ∧ y ≤ w64 (c.High - 1))
theorem place_impl (n : Nat) (c : SChart) (x y : Int) : impl_Chart_place n c x y = some (placeOk c x y) := by
  unfold impl_Chart_place placeOk
  simp only [in_impl5, bd_eq, Option.bind_some]
  cases decide (0 ≤ x ∧ x ≤ w64 (c.Wide - 1)) <;> rfl
def featOk (c : SChart) (f : SFeature) : Bool := decide (1 ≤ f.Id ∧ f.Id ≤ 1000000) && (decide (1 ≤ f.Kind ∧ f.Kind ≤ 9) && (placeOk c f.X f.Y && decide ((f.Text.size : Int) ≤ 40)))
theorem feat_impl (n : Nat) (c : SChart) (f : SFeature) : impl_Chart_featureOk n c f = some (featOk c f) := by
  unfold impl_Chart_featureOk featOk
  simp only [in_impl5, place_impl, Option.bind_some]
  cases decide (1 ≤ f.Id ∧ f.Id ≤ 1000000) <;> cases decide (1 ≤ f.Kind ∧ f.Kind ≤ 9) <;> cases placeOk c f.X f.Y <;> rfl
/-- The feature at i is right, and above the one before. -/
def featAt (c : SChart) (i : Nat) : Prop := featOk c (c.Features.getD i dSFeature) = true ∧ (0 < i → ¬ (c.Features.getD (i - 1) dSFeature).Id ≥ (c.Features.getD i dSFeature).Id)
instance (c : SChart) (i : Nat) : Decidable (featAt c i) := by unfold featAt; exact inferInstance
def featsOk (c : SChart) : Prop := ∀ i, i < c.Features.length → featAt c i
instance (c : SChart) : Decidable (featsOk c) := Nat.decidableBallLT _ _
def depthOk (d : Int) : Bool := decide (-1000 ≤ d ∧ d ≤ 10000)
def depthsOk (c : SChart) : Prop := ∀ i, i < c.Depths.length → depthOk (c.Depths.getD i 0) = true
instance (c : SChart) : Decidable (depthsOk c) := Nat.decidableBallLT _ _
theorem feats_impl {n : Nat} (c : SChart) (hl : c.Features.length ≤ 1048576) (hn : 1000000000 < n) :
    loopN (fun (x : Int) J' => impl_ChartOk_L4 n (some true) (fun t => some t) J' c.Features (c.Features.length : Int) x c) n (0 : Int) = some (decide (featsOk c)) := by
  refine loopN_ind (fun x => c.Features.length - x.toNat) (fun x => ∃ k : Nat, k ≤ c.Features.length ∧ x = (k : Int) ∧ ∀ i, i < k → featAt c i) (fun x r => r = some (decide (featsOk c))) ?_ n _ ⟨0, by omega, rfl, by omega⟩ (by simp; omega)
  rintro _ J ⟨k, hk, rfl, hg⟩ ih
  unfold impl_ChartOk_L4
  by_cases h : k < c.Features.length
  · simp only [Int.ofNat_lt, h, decide_true, cond_true]
    unfold impl_ChartOk_k0
    simp only [ix_nat h, Int.toNat_natCast, bd_eq, feat_impl, Option.bind_some, bif_not]
    have hbad : ¬ featAt c k → some (decide (featsOk c)) = some false := fun hb => by rw [decide_eq_false (fun hf : featsOk c => hb (hf k h))]
    have hgo : featAt c k → J ((k + 1 : Nat) : Int) = some (decide (featsOk c)) := fun hf => ih _ ⟨k + 1, h, rfl, fun i hi => by
      by_cases e : i = k
      · rw [e]; exact hf
      · exact hg i (by omega)⟩ (by simp; omega)
    cases h1 : featOk c (c.Features.getD k dSFeature) with
    | false =>
      rw [hbad (fun hf => by rw [hf.1] at h1; cases h1)]
      rfl
    | true =>
      rw [cond_true]
      by_cases h0 : 0 < k
      · have e0 : decide ((k : Int) > 0) = true := decide_eq_true (by omega)
        have e1 : w64 ((k : Int) - 1) = ((k - 1 : Nat) : Int) := by rw [w64_id (by omega) (by omega)]; omega
        rw [e0, cond_true, e1, ix_nat (by omega), Int.toNat_natCast, bif_dec, w64_succ (by omega)]
        split
        · rename_i h2
          rw [hbad (fun hf => hf.2 h0 h2)]
        · rename_i h2
          exact hgo ⟨h1, fun _ => h2⟩
      · have e0 : decide ((k : Int) > 0) = false := decide_eq_false (by omega)
        rw [e0, cond_false, w64_succ (by omega)]
        exact hgo ⟨h1, fun h => absurd h h0⟩
  · have : k = c.Features.length := by omega
    subst this
    simp only [Int.lt_irrefl, decide_false, cond_false]
    rw [decide_eq_true (show featsOk c from hg)]
theorem all_impl {n : Nat} (c : SChart) (hl : c.Depths.length ≤ 1048576) (hn : 1000000000 < n) : impl_all n c.Depths (-1000) 10000 = some (decide (depthsOk c)) := by
  unfold impl_all slices_ContainsFunc_int_int__impl_all_1
  have : ∃ r, slices_IndexFunc_int_int__impl_all_1 n c.Depths (-1000) 10000 = some r ∧ decide (r ≥ 0) = !decide (depthsOk c) := by
    unfold slices_IndexFunc_int_int__impl_all_1
    refine loopN_ind (fun x => c.Depths.length - x.toNat) (fun x => ∃ k : Nat, k ≤ c.Depths.length ∧ x = (k : Int) ∧ ∀ i, i < k → depthOk (c.Depths.getD i 0) = true) (fun x r => ∃ r', r = some r' ∧ decide (r' ≥ 0) = !decide (depthsOk c)) ?_ n _ ⟨0, by omega, rfl, by omega⟩ (by simp; omega)
    rintro _ J ⟨k, hk, rfl, hg⟩ ih
    unfold slices_IndexFunc_int_int__impl_all_1_L2 impl_all_1
    by_cases h : k < c.Depths.length
    · simp only [Int.ofNat_lt, h, decide_true, cond_true, ix_nat h, Int.toNat_natCast, in_impl5, Option.bind_some, bif_not]
      cases h1 : depthOk (c.Depths.getD k 0) with
      | false =>
        have h2 : decide (depthsOk c) = false := decide_eq_false (fun hf : depthsOk c => by rw [hf k h] at h1; cases h1)
        rw [depthOk] at h1
        rw [h1, h2]
        exact ⟨_, rfl, by simp⟩
      | true =>
        have h1' := h1
        rw [depthOk] at h1'
        rw [h1', cond_true, w64_succ (by omega)]
        exact ih _ ⟨k + 1, h, rfl, fun i hi => by
          by_cases e : i = k
          · rw [e]; exact h1
          · exact hg i (by omega)⟩ (by simp; omega)
    · have : k = c.Depths.length := by omega
      subst this
      simp only [Int.lt_irrefl, decide_false, cond_false]
      exact ⟨_, rfl, by rw [decide_eq_true (show depthsOk c from hg)]; rfl⟩
  obtain ⟨r, h1, h2⟩ := this
  rw [h1]
  simp only [Option.bind_some, h2, Bool.not_not]
def chOk (c : SChart) : Prop := (1 ≤ c.Wide ∧ c.Wide ≤ 12) ∧ (1 ≤ c.High ∧ c.High ≤ 12) ∧ (c.Depths.length : Int) = w64 (c.Wide * c.High) ∧ (c.Features.length : Int) ≤ 30 ∧ (0 ≤ c.Edition ∧ c.Edition ≤ 1000000) ∧ depthsOk c ∧ featsOk c
instance (c : SChart) : Decidable (chOk c) := by unfold chOk; exact inferInstance
theorem ch_impl {n : Nat} (c : SChart) (h1 : c.Depths.length ≤ 1048576) (h2 : c.Features.length ≤ 1048576) (hn : 1000000000 < n) : impl_ChartOk n c = some (decide (chOk c)) := by
  unfold impl_ChartOk
  simp only [in_impl5, Option.bind_some, bif_not, bd_eq, bif_dec, feats_impl c h2 hn, all_impl c h1 hn]
  by_cases a1 : 1 ≤ c.Wide ∧ c.Wide ≤ 12
  · by_cases a2 : 1 ≤ c.High ∧ c.High ≤ 12
    · by_cases a3 : (c.Depths.length : Int) = w64 (c.Wide * c.High)
      · by_cases a6 : depthsOk c
        · by_cases a4 : (c.Features.length : Int) ≤ 30
          · by_cases a5 : 0 ≤ c.Edition ∧ c.Edition ≤ 1000000
            · rw [if_pos a1, if_pos a2, if_pos a3, if_pos a6, if_neg (by omega), if_pos a5]
              exact congrArg some (decide_eq_decide.2 ⟨fun h => ⟨a1, a2, a3, a4, a5, a6, h⟩, fun h => h.2.2.2.2.2.2⟩)
            · rw [if_pos a1, if_pos a2, if_pos a3, if_pos a6, if_neg (by omega), if_neg a5, decide_eq_false (fun h : chOk c => a5 h.2.2.2.2.1)]
          · rw [if_pos a1, if_pos a2, if_pos a3, if_pos a6, if_pos (by omega), decide_eq_false (fun h : chOk c => a4 h.2.2.2.1)]
        · rw [if_pos a1, if_pos a2, if_pos a3, if_neg a6, decide_eq_false (fun h : chOk c => a6 h.2.2.2.2.2.1)]
      · rw [if_pos a1, if_pos a2, if_neg a3, decide_eq_false (fun h : chOk c => a3 h.2.2.1)]
    · rw [if_pos a1, if_neg a2, decide_eq_false (fun h : chOk c => a2 h.2.1)]
  · rw [if_neg a1, decide_eq_false (fun h : chOk c => a1 h.1)]
end Go.Sm
end

section
set_option linter.unusedSimpArgs false
set_option linter.deprecated false
set_option linter.unusedSectionVars false
set_option linter.unusedVariables false
set_option linter.unusedSimpArgs false
namespace Go.Sm
attribute [local irreducible] bd chk ix loopN
def findF (l : List SFeature) (id : Int) : Int := idxOf (fun k => decide ((l.getD k dSFeature).Id = id)) l.length
/-! ### A lot put in its place -/
def cutF (l : List SFeature) (id : Int) : Nat := (l.takeWhile fun y => decide (y.Id < id)).length
def putFeat (l : List SFeature) (x : SFeature) : List SFeature := l.take (cutF l x.Id) ++ x :: l.drop (cutF l x.Id)
theorem cutF_le (l : List SFeature) (id : Int) : cutF l id ≤ l.length := by
  unfold cutF
  induction l with
  | nil => simp
  | cons a l ih =>
    rw [List.takeWhile_cons]
    split
    · simp; omega
    · simp
theorem cutF_lt (l : List SFeature) (id : Int) : ∀ k, k < cutF l id → (l.getD k dSFeature).Id < id := by
  unfold cutF
  induction l with
  | nil => intro k hk; simp at hk
  | cons a l ih =>
    intro k hk
    rw [List.takeWhile_cons] at hk
    split at hk
    · rename_i h
      cases k with
      | zero => simpa using h
      | succ k =>
        have := ih k (by simpa using hk)
        simpa using this
    · simp at hk
theorem cutF_ge (l : List SFeature) (id : Int) (h : cutF l id < l.length) : ¬ (l.getD (cutF l id) dSFeature).Id < id := by
  unfold cutF at *
  induction l with
  | nil => simp at h
  | cons a l ih =>
    rw [List.takeWhile_cons] at h ⊢
    split
    · rename_i hc
      rw [if_pos hc] at h
      have := ih (by simpa using h)
      simpa using this
    · rename_i hc
      simpa using hc
/-! ### A lot put in by a sort -/
def incF (l : List SFeature) : Prop := ∀ i j, i < j → j < l.length → (l.getD i dSFeature).Id < (l.getD j dSFeature).Id
def rngF (l : List SFeature) : Prop := ∀ y ∈ l, 1 ≤ y.Id ∧ y.Id ≤ 1000000
theorem inc_pairwise {l : List SFeature} (h : incF l) : l.Pairwise fun a b => a.Id < b.Id := by
  rw [List.pairwise_iff_getElem]
  intro i j hi hj hij
  have := h i j hij hj
  rwa [getD_eq hi, getD_eq hj] at this
theorem find_neg {l : List SFeature} {id : Int} (h : ¬ findF l id ≥ 0) : ∀ y ∈ l, y.Id ≠ id := by
  intro y hy he
  obtain ⟨k, hk, rfl⟩ := List.mem_iff_getElem.1 hy
  have := idxOf_ge (fun k => decide ((l.getD k dSFeature).Id = id)) l.length
  rw [show decide (idxOf (fun k => decide ((l.getD k dSFeature).Id = id)) l.length ≥ 0) = false from decide_eq_false h] at this
  rw [any_range_of hk (by rw [getD_eq hk]; exact decide_eq_true he)] at this
  cases this
theorem with_pairwise {l : List SFeature} {x : SFeature} (h : incF l) (hx : ∀ y ∈ l, y.Id ≠ x.Id) : (putFeat l x).Pairwise fun a b => a.Id < b.Id := by
  unfold putFeat
  have hp := inc_pairwise h
  rw [List.pairwise_append]
  refine ⟨hp.sublist (List.take_sublist _ _), ?_, ?_⟩
  · rw [List.pairwise_cons]
    refine ⟨fun y hy => ?_, hp.sublist (List.drop_sublist _ _)⟩
    obtain ⟨k, hk, rfl⟩ := List.mem_iff_getElem.1 hy
    have hk2 : cutF l x.Id + k < l.length := by simp at hk; omega
    have h0 : ¬ (l.getD (cutF l x.Id) dSFeature).Id < x.Id := cutF_ge l x.Id (by omega)
    have h1 : (l.getD (cutF l x.Id) dSFeature).Id ≤ (l.getD (cutF l x.Id + k) dSFeature).Id := by
      cases k with
      | zero => exact Int.le_refl _
      | succ k => have := h (cutF l x.Id) (cutF l x.Id + (k + 1)) (by omega) hk2; omega
    rw [List.getElem_drop]
    have h2 := hx _ (List.getElem_mem hk2)
    rw [getD_eq hk2] at h1
    omega
  · intro a ha b hb
    obtain ⟨k, hk, rfl⟩ := List.mem_iff_getElem.1 ha
    have hk2 : k < cutF l x.Id ∧ k < l.length := by simp at hk; omega
    have h1 := cutF_lt l x.Id k hk2.1
    rw [List.getElem_take]
    rw [getD_eq hk2.2] at h1
    rcases List.mem_cons.1 hb with rfl | hb
    · exact h1
    · obtain ⟨j, hj, rfl⟩ := List.mem_iff_getElem.1 hb
      have hj2 : cutF l x.Id + j < l.length := by simp at hj; omega
      rw [List.getElem_drop]
      have := h k (cutF l x.Id + j) (by omega) hj2
      rwa [getD_eq hk2.2, getD_eq hj2] at this
theorem with_perm (l : List SFeature) (x : SFeature) : (putFeat l x).Perm (l ++ [x]) := by
  unfold putFeat
  refine (List.perm_middle).trans ?_
  rw [List.take_append_drop]
  exact (List.perm_append_singleton x l).symm
theorem put_sorted {n : Nat} {l : List SFeature} {x : SFeature} (hl : l.length ≤ 1000000) (hi : incF l) (hr : rngF l) (hxr : 1 ≤ x.Id ∧ x.Id ≤ 1000000) (hx : ∀ y ∈ l, y.Id ≠ x.Id) :
    slices_SortFunc_impl_Feature_impl_Feature__impl_Chart_note_2 n (l ++ [x]) = some (putFeat l x) := by
  unfold slices_SortFunc_impl_Feature_impl_Feature__impl_Chart_note_2
  have hm : ∀ y ∈ l ++ [x], 1 ≤ y.Id ∧ y.Id ≤ 1000000 := fun y hy => by
    rcases List.mem_append.1 hy with h | h
    · exact hr y h
    · simp at h; subst h; exact hxr
  obtain ⟨l', h1, h2, h3⟩ := sortL_ok (d := dSFeature) (cmp := fun a b => impl_Chart_note_2 n a b) (cf := fun a b => a.Id - b.Id) (l := l ++ [x])
    (fun a ha b hb => by
      have := hm a ha; have := hm b hb
      unfold impl_Chart_note_2
      rw [w64_id (by omega) (by omega)])
    (fun a _ => by omega) (fun a _ b _ c _ _ _ => by omega) (fun a _ b _ c _ _ _ => by omega) (by simp; omega)
  rw [h1]
  congr 1
  have hw := with_pairwise hi hx
  refine List.Perm.eq_of_pairwise (le := fun a b => a.Id ≤ b.Id) ?_ (h3.imp fun h => by omega) (hw.imp fun h => by omega) (h2.trans (with_perm l x).symm)
  intro a b ha hb h4 h5
  have hab : a.Id = b.Id := by omega
  have ha' : a ∈ putFeat l x := (with_perm l x).symm.subset (h2.subset ha)
  obtain ⟨i, hi', rfl⟩ := List.mem_iff_getElem.1 ha'
  obtain ⟨j, hj', rfl⟩ := List.mem_iff_getElem.1 hb
  rcases Nat.lt_trichotomy i j with h | h | h
  · have := List.pairwise_iff_getElem.1 hw i j hi' hj' h; omega
  · subst h; rfl
  · have := List.pairwise_iff_getElem.1 hw j i hj' hi' h; omega
end Go.Sm
end

section
set_option linter.unusedSimpArgs false
set_option linter.deprecated false
set_option linter.unusedSectionVars false
set_option linter.unusedVariables false
set_option linter.unusedSimpArgs false
namespace Go.Sm
attribute [local irreducible] bd chk ix loopN
theorem findF_impl {n : Nat} (l : List SFeature) (nt : SNote) (hl : l.length ≤ 1048576) (hn : 1000000000 < n) : slices_IndexFunc_impl_Feature_impl_Feature__impl_Chart_note_1 n l nt = some (findF l nt.Id) := by
  unfold slices_IndexFunc_impl_Feature_impl_Feature__impl_Chart_note_1
  rw [loop_idx (len := l.length) (p := fun k => decide ((l.getD k dSFeature).Id = nt.Id)) (by omega) (fun k J hk _ => ?_) (fun J _ => ?_) (by omega)]
  · rfl
  · unfold slices_IndexFunc_impl_Feature_impl_Feature__impl_Chart_note_1_L2 impl_Chart_note_1
    simp only [Int.ofNat_lt, hk, decide_true, cond_true, ix_nat hk, bd_eq, Int.toNat_natCast, Option.bind_some, w64_succ (show k < 9223372036854775807 by omega)]
  · unfold slices_IndexFunc_impl_Feature_impl_Feature__impl_Chart_note_1_L2
    simp only [Int.lt_irrefl, decide_false, cond_false]
theorem findF_cases (l : List SFeature) (id : Int) : findF l id = -1 ∨ ∃ k : Nat, findF l id = (k : Int) ∧ k < l.length := by
  unfold findF
  rcases idxOf_spec (fun k => decide ((l.getD k dSFeature).Id = id)) l.length with ⟨h, _⟩ | ⟨k, h, hk, _⟩
  · exact .inl h
  · exact .inr ⟨k, h, hk⟩
/-- What a chart is while notes are done on it. -/
structure CI (c : SChart) : Prop where
  wide : 1 ≤ c.Wide ∧ c.Wide ≤ 12
  high : 1 ≤ c.High ∧ c.High ≤ 12
  dep : (c.Depths.length : Int) = c.Wide * c.High
  len : c.Features.length ≤ 30
  inc : incF c.Features
  ids : rngF c.Features
theorem CI.dl {c : SChart} (h : CI c) : c.Depths.length ≤ 144 := by
  have h1 : c.Wide * c.High ≤ 12 * 12 := Int.mul_le_mul h.wide.2 h.high.2 (by have := h.high; omega) (by omega)
  have := h.dep
  omega
theorem ci_of {c : SChart} (h : chOk c) : CI c := by
  obtain ⟨h1, h2, h3, h4, _, _, h7⟩ := h
  have h5 : c.Wide * c.High ≤ 12 * 12 := Int.mul_le_mul h1.2 h2.2 (by omega) (by omega)
  have h6 : 0 ≤ c.Wide * c.High := Int.mul_nonneg (by omega) (by omega)
  refine ⟨h1, h2, by rw [h3, w64_id (by omega) (by omega)], by omega, fun i j hij hj => ?_, fun y hy => ?_⟩
  · have key : ∀ j i, i < j → j < c.Features.length → (c.Features.getD i dSFeature).Id < (c.Features.getD j dSFeature).Id := by
      intro j
      induction j with
      | zero => intro i hi; exact absurd hi (Nat.not_lt_zero _)
      | succ j ih =>
        intro i hi hj
        have h1 := (h7 (j + 1) hj).2 (by omega)
        simp only [Nat.add_sub_cancel] at h1
        by_cases e : i = j
        · rw [e]; omega
        · have := ih i (by omega) (by omega)
          omega
    exact key j i hij hj
  · obtain ⟨i, hi, rfl⟩ := List.getElem_of_mem hy
    have h3 := (h7 i hi).1
    rw [getD_eq hi] at h3
    unfold featOk at h3
    simp only [Bool.and_eq_true, decide_eq_true_eq] at h3
    exact h3.1
def noteF (nt : SNote) : SFeature := ⟨nt.Id, nt.Sort_, nt.X, nt.Y, nt.Text⟩
def dIx (c : SChart) (nt : SNote) : Nat := (nt.Y * c.Wide + nt.X).toNat
def noteR (c : SChart) (nt : SNote) : SChart × Bool :=
  bif decide (nt.Kind = 1) then (bif featOk c (noteF nt) && (decide (findF c.Features nt.Id < 0) && decide (c.Features.length < 30)) then (⟨c.Wide, c.High, c.Depths, putFeat c.Features (noteF nt), c.Edition⟩, true) else (c, false))
  else bif decide (nt.Kind = 2) then (bif decide (findF c.Features nt.Id < 0) then (c, false) else (⟨c.Wide, c.High, c.Depths, c.Features.take (findF c.Features nt.Id).toNat ++ c.Features.drop ((findF c.Features nt.Id).toNat + 1), c.Edition⟩, true))
  else bif decide (nt.Kind = 3) then (bif !decide (findF c.Features nt.Id < 0) && placeOk c nt.X nt.Y then (⟨c.Wide, c.High, c.Depths, c.Features.set (findF c.Features nt.Id).toNat ⟨(c.Features.getD (findF c.Features nt.Id).toNat dSFeature).Id, (c.Features.getD (findF c.Features nt.Id).toNat dSFeature).Kind, nt.X, nt.Y, (c.Features.getD (findF c.Features nt.Id).toNat dSFeature).Text⟩, c.Edition⟩, true) else (c, false))
  else bif decide (nt.Kind = 4) then (bif placeOk c nt.X nt.Y && depthOk nt.Depth then (⟨c.Wide, c.High, c.Depths.set (dIx c nt) nt.Depth, c.Features, c.Edition⟩, true) else (c, false))
  else (c, false)
theorem dIx_ok {c : SChart} (h : CI c) {nt : SNote} (hp : placeOk c nt.X nt.Y = true) : w64 (w64 (nt.Y * c.Wide) + nt.X) = (dIx c nt : Int) ∧ dIx c nt < c.Depths.length := by
  have h1 := h.wide
  have h2 := h.high
  have h3 := h.dep
  unfold placeOk at hp
  rw [w64_id (by omega) (by omega), w64_id (by omega) (by omega)] at hp
  simp only [Bool.and_eq_true, decide_eq_true_eq] at hp
  have m1 : nt.Y * c.Wide ≤ (c.High - 1) * c.Wide := Int.mul_le_mul_of_nonneg_right (by omega) (by omega)
  have m2 : 0 ≤ nt.Y * c.Wide := Int.mul_nonneg (by omega) (by omega)
  have m3 : (c.High - 1) * c.Wide = c.Wide * c.High - c.Wide := by rw [Int.sub_mul, Int.one_mul, Int.mul_comm]
  have m4 := h.dl
  unfold dIx
  rw [w64_id (x := nt.Y * c.Wide) (by omega) (by omega), w64_id (by omega) (by omega)]
  omega
theorem putFeat_len (l : List SFeature) (x : SFeature) : (putFeat l x).length = l.length + 1 := by
  have := (with_perm l x).length_eq
  simpa using this
theorem pairwise_inc {l : List SFeature} (h : l.Pairwise fun a b => a.Id < b.Id) : incF l := fun i j hij hj => by
  have := List.pairwise_iff_getElem.1 h i j (by omega) hj hij
  rwa [getD_eq (show i < l.length by omega), getD_eq hj]
theorem featOk_id {c : SChart} {f : SFeature} (h : featOk c f = true) : 1 ≤ f.Id ∧ f.Id ≤ 1000000 := by
  unfold featOk at h
  simp only [Bool.and_eq_true, decide_eq_true_eq] at h
  exact h.1
theorem note_ci {c : SChart} (h : CI c) (nt : SNote) : CI (noteR c nt).1 ∧ (noteR c nt).1.Edition = c.Edition := by
  unfold noteR
  cases decide (nt.Kind = 1) with
  | true =>
    rw [cond_true]
    cases hc : featOk c (noteF nt) && (decide (findF c.Features nt.Id < 0) && decide (c.Features.length < 30)) with
    | false => exact ⟨h, rfl⟩
    | true =>
      simp only [Bool.and_eq_true, decide_eq_true_eq] at hc
      have hx := find_neg (l := c.Features) (id := nt.Id) (by omega)
      refine ⟨⟨h.wide, h.high, h.dep, ?_, ?_, fun y hy => ?_⟩, rfl⟩
      · show (putFeat _ _).length ≤ 30
        rw [putFeat_len]
        omega
      · exact pairwise_inc (with_pairwise h.inc hx)
      · have := (with_perm c.Features (noteF nt)).subset hy
        rcases List.mem_append.1 this with h1 | h1
        · exact h.ids y h1
        · rw [List.mem_singleton.1 h1]
          exact featOk_id hc.1
  | false =>
    rw [cond_false]
    cases decide (nt.Kind = 2) with
    | true =>
      rw [cond_true]
      cases decide (findF c.Features nt.Id < 0) with
      | true => exact ⟨h, rfl⟩
      | false =>
        have hp := inc_pairwise h.inc
        refine ⟨⟨h.wide, h.high, h.dep, ?_, ?_, fun y hy => ?_⟩, rfl⟩
        · show (_ ++ _ : List SFeature).length ≤ 30
          have := h.len
          rw [List.length_append, List.length_take, List.length_drop]
          omega
        · refine pairwise_inc (hp.sublist ?_)
          have e : c.Features = c.Features.take (findF c.Features nt.Id).toNat ++ c.Features.drop (findF c.Features nt.Id).toNat := (List.take_append_drop _ _).symm
          conv => rhs; rw [e]
          refine List.Sublist.append (List.Sublist.refl _) ?_
          rw [← List.drop_drop]
          exact List.drop_sublist _ _
        · rcases List.mem_append.1 hy with h1 | h1
          · exact h.ids y (List.mem_of_mem_take h1)
          · exact h.ids y (List.mem_of_mem_drop h1)
    | false =>
      rw [cond_false]
      cases decide (nt.Kind = 3) with
      | true =>
        rw [cond_true]
        cases !decide (findF c.Features nt.Id < 0) && placeOk c nt.X nt.Y with
        | false => exact ⟨h, rfl⟩
        | true =>
          have hid : ∀ j, ((c.Features.set (findF c.Features nt.Id).toNat ⟨(c.Features.getD (findF c.Features nt.Id).toNat dSFeature).Id, (c.Features.getD (findF c.Features nt.Id).toNat dSFeature).Kind, nt.X, nt.Y, (c.Features.getD (findF c.Features nt.Id).toNat dSFeature).Text⟩).getD j dSFeature).Id = (c.Features.getD j dSFeature).Id := fun j => by
            by_cases e : j = (findF c.Features nt.Id).toNat
            · by_cases hl : j < c.Features.length
              · rw [← e, getD_set hl]
              · rw [List.set_eq_of_length_le (by omega)]
            · rw [getD_set_ne e]
          refine ⟨⟨h.wide, h.high, h.dep, ?_, fun i j hij hj => ?_, fun y hy => ?_⟩, rfl⟩
          · show (List.set _ _ _).length ≤ 30
            rw [List.length_set]
            exact h.len
          · change j < (List.set _ _ _).length at hj
            rw [List.length_set] at hj
            have := h.inc i j hij hj
            rw [← hid i, ← hid j] at this
            exact this
          · change y ∈ List.set _ _ _ at hy
            obtain ⟨j, hj, rfl⟩ := List.getElem_of_mem hy
            have hj' : j < c.Features.length := by simpa using hj
            have e := hid j
            rw [getD_eq hj] at e
            rw [e]
            exact h.ids _ (getD_mem hj')
      | false =>
        rw [cond_false]
        cases decide (nt.Kind = 4) with
        | true =>
          rw [cond_true]
          cases placeOk c nt.X nt.Y && depthOk nt.Depth with
          | false => exact ⟨h, rfl⟩
          | true => exact ⟨⟨h.wide, h.high, by show ((List.set _ _ _).length : Int) = _; rw [List.length_set]; exact h.dep, h.len, h.inc, h.ids⟩, rfl⟩
        | false => exact ⟨h, rfl⟩
theorem depth_impl (n : Nat) (d : Int) : impl_depthOk n d = some (depthOk d) := by
  unfold impl_depthOk
  rw [in_impl5, Option.bind_some]
  rfl
theorem move_set {R : Type} {l : List SFeature} {k : Nat} (hk : k < l.length) (x y : Int) (F : List SFeature → Option R) :
    ix (k : Int) l.length (chk (decide ((k : Int).toNat < l.length)) ((bd (l.getD (k : Int).toNat dSFeature) fun (e79 : SFeature) => (bd (l.set (k : Int).toNat (⟨e79.Id, e79.Kind, x, e79.Y, e79.Text⟩ : SFeature)) fun (l80 : List SFeature) => ix (k : Int) l80.length (chk (decide ((k : Int).toNat < l80.length)) ((bd (l80.getD (k : Int).toNat dSFeature) fun (e81 : SFeature) => (bd (l80.set (k : Int).toNat (⟨e81.Id, e81.Kind, e81.X, y, e81.Text⟩ : SFeature)) fun (l82 : List SFeature) => F l82)))))))) =
      F (l.set k ⟨(l.getD k dSFeature).Id, (l.getD k dSFeature).Kind, x, y, (l.getD k dSFeature).Text⟩) := by
  simp only [bd_eq, Int.toNat_natCast, ix_nat hk, hk, decide_true, chk_true, List.length_set, getD_set hk, List.set_set]
theorem note_impl {n : Nat} {c : SChart} (h : CI c) (nt : SNote) (hn : 1000000000 < n) : impl_Chart_note n c nt = some ((noteR c nt).2, (noteR c nt).1) := by
  have hl := h.len
  have hdl := h.dl
  unfold impl_Chart_note noteR
  rw [findF_impl c.Features nt (by omega) hn, Option.bind_some]
  cases decide (nt.Kind = 1) with
  | true =>
    rw [cond_true, cond_true, feat_impl, Option.bind_some]
    change (bif !featOk c (noteF nt) then _ else _) = _
    cases hf : featOk c (noteF nt) with
    | false => rfl
    | true =>
      by_cases h1 : findF c.Features nt.Id < 0
      · rw [decide_eq_false (show ¬ findF c.Features nt.Id ≥ 0 by omega), decide_eq_true h1]
        by_cases h2 : c.Features.length < 30
        · rw [decide_eq_false (show ¬ (c.Features.length : Int) = 30 by omega), decide_eq_true h2]
          have hx := find_neg (l := c.Features) (id := nt.Id) (by omega)
          unfold impl_Chart_note_k0
          simp only [Bool.not_true, cond_false, bd_eq]
          rw [chk_dec (by simp; omega)]
          have := put_sorted (n := n) (l := c.Features) (x := noteF nt) (by omega) h.inc h.ids (featOk_id hf) hx
          unfold noteF at this
          rw [this, Option.bind_some]
          rfl
        · rw [decide_eq_true (show (c.Features.length : Int) = 30 by omega), decide_eq_false h2]
          rfl
      · rw [decide_eq_true (show findF c.Features nt.Id ≥ 0 by omega), decide_eq_false h1]
        rfl
  | false =>
    rw [cond_false, cond_false]
    cases decide (nt.Kind = 2) with
    | true =>
      rw [cond_true, cond_true]
      rcases findF_cases c.Features nt.Id with e | ⟨k, e, hk⟩
      · rw [e]; rfl
      · rw [e, decide_eq_false (by omega), cond_false, cond_false]
        unfold slices_Delete_impl_Feature_impl_Feature delL
        rw [w64_succ (show k < 9223372036854775807 by omega), if_pos ⟨by omega, by omega, by omega, by omega⟩, Option.bind_some]
        rfl
    | false =>
      rw [cond_false, cond_false]
      cases decide (nt.Kind = 3) with
      | true =>
        rw [cond_true, cond_true]
        rcases findF_cases c.Features nt.Id with e | ⟨k, e, hk⟩
        · rw [e]; rfl
        · rw [e, decide_eq_false (by omega), cond_false, place_impl, Option.bind_some]
          cases placeOk c nt.X nt.Y with
          | false => rfl
          | true =>
            unfold impl_Chart_note_k1
            exact move_set hk nt.X nt.Y fun l => some (true, (⟨c.Wide, c.High, c.Depths, l, c.Edition⟩ : SChart))
      | false =>
        rw [cond_false, cond_false]
        cases decide (nt.Kind = 4) with
        | true =>
          rw [cond_true, cond_true, place_impl, Option.bind_some]
          cases hp : placeOk c nt.X nt.Y with
          | false => rfl
          | true =>
            obtain ⟨d1, d2⟩ := dIx_ok h hp
            rw [depth_impl, Option.bind_some]
            unfold impl_Chart_note_k2
            cases depthOk nt.Depth with
            | false => rfl
            | true =>
              simp only [bd_eq]
              rw [Bool.not_true, cond_false, cond_false, d1, ix_nat d2, Int.toNat_natCast, chk_dec d2]
              rfl
        | false => rfl
end Go.Sm
end

section
set_option linter.unusedSimpArgs false
set_option linter.deprecated false
set_option linter.unusedSectionVars false
set_option linter.unusedVariables false
set_option linter.unusedSimpArgs false
namespace Go.Sm
attribute [local irreducible] bd chk ix loopN
def w_SFeature (a : SFeature) : Nat := a.Text.size
def w_LSFeature (a : List SFeature) : Nat := a.length + sumOf (fun y => w_SFeature y) a
def w_SChart (a : SChart) : Nat := a.Depths.length + w_LSFeature a.Features
theorem own_impl (n : Nat) (c : SChart) (h1 : c.Depths.length ≤ 1048576) (h2 : c.Features.length ≤ 1048576) : impl_Chart_own n c = some c := by
  unfold impl_Chart_own impl_own_int impl_own_impl_Feature
  rw [chk_dec (by omega), chk_dec (by omega), chk_dec (by omega), Option.bind_some, chk_dec (by omega), chk_dec (by omega), chk_dec (by omega), Option.bind_some]
/-- The notes in their order; the first that does not fit ends it. -/
def nU : List SNote → SChart → SChart × Bool
  | [], c => (c, true)
  | nt :: l, c => bif (noteR c nt).2 then nU l (noteR c nt).1 else ((noteR c nt).1, false)
theorem drop_note {l : List SNote} {k : Nat} (h : k < l.length) : l.drop k = l.getD k dSNote :: l.drop (k + 1) := by
  rw [List.drop_eq_getElem_cons h, getD_eq h]
theorem nU_cons (nt : SNote) (l : List SNote) (c : SChart) : nU (nt :: l) c = bif (noteR c nt).2 then nU l (noteR c nt).1 else ((noteR c nt).1, false) := rfl
theorem nU_ci : ∀ (l : List SNote) {c : SChart}, CI c → CI (nU l c).1
  | [], c, h => h
  | nt :: l, c, h => by
    have h1 := (note_ci h nt).1
    unfold nU
    cases (noteR c nt).2 with
    | true => exact nU_ci l h1
    | false => exact h1
def applyV (c : SChart) (u : SUpdate) : SChart × Int := bif (nU u.Notes c).2 then (⟨(nU u.Notes c).1.Wide, (nU u.Notes c).1.High, (nU u.Notes c).1.Depths, (nU u.Notes c).1.Features, u.Edition⟩, 0) else (c, 4)
def applyR (c : SChart) (u : SUpdate) : SChart × Int :=
  if chOk c then if 1 ≤ (u.Notes.length : Int) ∧ (u.Notes.length : Int) ≤ 20 then if u.Edition ≤ c.Edition then (c, 2) else if u.Edition > c.Edition + 1 then (c, 3) else if u.Edition > 1000000 then (c, 4) else applyV c u else (c, 1) else (c, 1)
theorem ed_w {c : SChart} (h : chOk c) : w64 (c.Edition + 1) = c.Edition + 1 := by
  have := h.2.2.2.2.1
  rw [w64_id (by omega) (by omega)]
theorem notes_impl {n : Nat} {c : SChart} (h : CI c) (hd : c.Depths.length ≤ 1048576) (u : SUpdate) (hl : u.Notes.length ≤ 20) (hn : 1000000000 < n) :
    impl_Apply6_k1 n c u c.Wide c.High c.Edition c.Depths c.Features = some (applyV c u) := by
  have h30 := h.len
  unfold impl_Apply6_k1
  rw [own_impl n c hd (by omega), Option.bind_some]
  refine loopN_ind (fun x => u.Notes.length - x.1.toNat)
    (fun x => ∃ (k : Nat) (d : SChart), k ≤ u.Notes.length ∧ CI d ∧ x = ((k : Int), d.Wide, d.High, d.Edition, d.Depths, d.Features) ∧ nU (u.Notes.drop k) d = nU u.Notes c)
    (fun x r => r = some (applyV c u)) ?_ n _ ⟨0, c, by omega, h, rfl, rfl⟩ (by simp; omega)
  rintro _ J ⟨k, d, hk, hc, rfl, hg⟩ ih
  unfold impl_Apply6_L12 impl_Apply6_k0
  dsimp only at ih ⊢
  by_cases hlt : k < u.Notes.length
  · rw [decide_eq_true (show (k : Int) < (u.Notes.length : Int) by omega), cond_true, ix_nat hlt, bd_eq, Int.toNat_natCast]
    have e1 : impl_Chart_note n (⟨d.Wide, d.High, d.Depths, d.Features, d.Edition⟩ : SChart) (u.Notes.getD k dSNote) = some ((noteR d (u.Notes.getD k dSNote)).2, (noteR d (u.Notes.getD k dSNote)).1) := note_impl hc _ hn
    rw [e1, Option.bind_some, w64_succ (by omega)]
    rw [drop_note hlt, nU_cons] at hg
    dsimp only
    cases hv : (noteR d (u.Notes.getD k dSNote)).2 with
    | true =>
      rw [hv] at hg
      rw [Bool.not_true, cond_false]
      refine ih _ ⟨k + 1, (noteR d (u.Notes.getD k dSNote)).1, by omega, (note_ci hc _).1, rfl, hg⟩ (by simp; omega)
    | false =>
      rw [hv] at hg
      rw [Bool.not_false, cond_true]
      have : (nU u.Notes c).2 = false := by
        rw [← hg]
        rfl
      unfold applyV
      rw [this]
      rfl
  · have hk2 : k = u.Notes.length := by omega
    rw [hk2, List.drop_length] at hg
    have hg : (d, true) = nU u.Notes c := hg
    rw [decide_eq_false (show ¬ (k : Int) < (u.Notes.length : Int) by omega), cond_false]
    have hdl := hc.dl
    have hl2 := hc.len
    have e1 : impl_Chart_own n (⟨d.Wide, d.High, d.Depths, d.Features, u.Edition⟩ : SChart) = some (⟨d.Wide, d.High, d.Depths, d.Features, u.Edition⟩ : SChart) := own_impl n _ (show d.Depths.length ≤ 1048576 by omega) (show d.Features.length ≤ 1048576 by omega)
    rw [e1, Option.bind_some]
    unfold applyV
    rw [← hg]
    rfl
theorem apply_impl {n : Nat} (c : SChart) (u : SUpdate) (h1 : c.Depths.length ≤ 1048576) (h2 : c.Features.length ≤ 1048576) (hn : 1000000000 < n) : impl_Apply6 n c u = some (applyR c u) := by
  unfold impl_Apply6 applyR
  rw [own_impl n c h1 h2, Option.bind_some, ch_impl c h1 h2 hn, Option.bind_some, bif_not, bif_dec]
  by_cases a1 : chOk c
  · rw [if_pos a1, if_pos a1, in_impl5, Option.bind_some]
    unfold impl_Apply6_k2
    rw [bif_not, bif_dec]
    by_cases a2 : 1 ≤ (u.Notes.length : Int) ∧ (u.Notes.length : Int) ≤ 20
    · rw [if_pos a2, if_pos a2, bif_dec, ed_w a1, bd_eq, bif_dec, bif_dec]
      by_cases a3 : u.Edition ≤ c.Edition
      · rw [if_pos a3, if_pos a3]
      · rw [if_neg a3, if_neg a3]
        by_cases a4 : u.Edition > c.Edition + 1
        · rw [if_pos a4, if_pos a4]
        · rw [if_neg a4, if_neg a4]
          by_cases a5 : u.Edition > 1000000
          · rw [if_pos a5, if_pos a5]
          · rw [if_neg a5, if_neg a5]
            exact notes_impl (ci_of a1) h1 u (by omega) hn
    · rw [if_neg a2, if_neg a2]
  · rw [if_neg a1, if_neg a1]
/-- What an update leaves is the chart itself, or a small one. -/
theorem apply_or {c : SChart} {u : SUpdate} : (applyR c u).1 = c ∨ ((applyR c u).1.Depths.length ≤ 144 ∧ (applyR c u).1.Features.length ≤ 30) := by
  unfold applyR
  by_cases a1 : chOk c
  · rw [if_pos a1]
    split
    · split
      · exact .inl rfl
      · split
        · exact .inl rfl
        · split
          · exact .inl rfl
          · unfold applyV
            have h := nU_ci u.Notes (ci_of a1)
            cases (nU u.Notes c).2 with
            | true => exact .inr ⟨h.dl, h.len⟩
            | false => exact .inl rfl
    · exact .inl rfl
  · rw [if_neg a1]
    exact .inl rfl
/-! ### What an update leaves is no heavier than the chart, or light -/
def txF (l : List SFeature) : Prop := ∀ y ∈ l, y.Text.size ≤ 40
theorem featOk_tx {c : SChart} {f : SFeature} (h : featOk c f = true) : f.Text.size ≤ 40 := by
  unfold featOk at h
  simp only [Bool.and_eq_true, decide_eq_true_eq] at h
  omega
theorem tx_of {c : SChart} (h : chOk c) : txF c.Features := fun y hy => by
  obtain ⟨k, hk, rfl⟩ := List.getElem_of_mem hy
  have := (h.2.2.2.2.2.2 k hk).1
  rw [getD_eq hk] at this
  exact featOk_tx this
theorem note_tx {c : SChart} (h : txF c.Features) (nt : SNote) : txF (noteR c nt).1.Features := by
  unfold noteR
  cases decide (nt.Kind = 1) with
  | true =>
    rw [cond_true]
    cases hc : featOk c (noteF nt) && (decide (findF c.Features nt.Id < 0) && decide (c.Features.length < 30)) with
    | false => exact h
    | true =>
      simp only [Bool.and_eq_true, decide_eq_true_eq] at hc
      intro y hy
      have := (with_perm c.Features (noteF nt)).subset hy
      rcases List.mem_append.1 this with h1 | h1
      · exact h y h1
      · rw [List.mem_singleton.1 h1]
        exact featOk_tx hc.1
  | false =>
    rw [cond_false]
    cases decide (nt.Kind = 2) with
    | true =>
      rw [cond_true]
      cases decide (findF c.Features nt.Id < 0) with
      | true => exact h
      | false =>
        intro y hy
        rcases List.mem_append.1 hy with h1 | h1
        · exact h y (List.mem_of_mem_take h1)
        · exact h y (List.mem_of_mem_drop h1)
    | false =>
      rw [cond_false]
      cases decide (nt.Kind = 3) with
      | true =>
        rw [cond_true]
        rcases findF_cases c.Features nt.Id with e | ⟨k, e, hk⟩
        · rw [e]; exact h
        · rw [e]
          cases !decide ((k : Int) < 0) && placeOk c nt.X nt.Y with
          | false => exact h
          | true =>
            intro y hy
            rcases List.mem_or_eq_of_mem_set hy with h1 | h1
            · exact h y h1
            · rw [h1]
              exact h (c.Features.getD k dSFeature) (getD_mem hk)
      | false =>
        rw [cond_false]
        cases decide (nt.Kind = 4) with
        | true =>
          rw [cond_true]
          cases placeOk c nt.X nt.Y && depthOk nt.Depth with
          | false => exact h
          | true => exact h
        | false => exact h
theorem nU_tx : ∀ (l : List SNote) {c : SChart}, txF c.Features → txF (nU l c).1.Features
  | [], c, h => h
  | nt :: l, c, h => by
    have h1 := note_tx h nt
    unfold nU
    cases (noteR c nt).2 with
    | true => exact nU_tx l h1
    | false => exact h1
theorem sumOf_tx : ∀ {l : List SFeature}, txF l → sumOf (fun y => w_SFeature y) l ≤ 40 * l.length
  | [], _ => Nat.le_refl _
  | a :: l, h => by
    have h1 := h a (List.mem_cons_self ..)
    have h2 := sumOf_tx (l := l) fun y hy => h y (List.mem_cons_of_mem _ hy)
    show w_SFeature a + sumOf (fun y => w_SFeature y) l ≤ 40 * (l.length + 1)
    have : w_SFeature a = a.Text.size := rfl
    omega
theorem apply_w {c : SChart} {u : SUpdate} {m : Nat} (hm : 2000 ≤ m) (hw : w_SChart c ≤ m) : w_SChart (applyR c u).1 ≤ m := by
  unfold applyR
  by_cases a1 : chOk c
  · rw [if_pos a1]
    split
    · split
      · exact hw
      · split
        · exact hw
        · split
          · exact hw
          · unfold applyV
            have h := nU_ci u.Notes (ci_of a1)
            have h2 := sumOf_tx (nU_tx u.Notes (tx_of a1))
            have h3 := h.len
            have h4 := h.dl
            cases (nU u.Notes c).2 with
            | true =>
              show (nU u.Notes c).1.Depths.length + ((nU u.Notes c).1.Features.length + sumOf (fun y => w_SFeature y) (nU u.Notes c).1.Features) ≤ m
              omega
            | false => exact hw
    · exact hw
  · rw [if_neg a1]
    exact hw
end Go.Sm
end

section
set_option linter.unusedSimpArgs false
set_option linter.deprecated false
set_option linter.unusedSectionVars false
set_option linter.unusedVariables false
set_option linter.unusedSimpArgs false
namespace Go.Sm
attribute [local irreducible] bd chk ix loopN
/-! ### Updates taken as they fit, till none does -/
/-- The update at k is not done yet, and fits. -/
def goes (l : List SUpdate) (c : SChart) (d : List Bool) (k : Nat) : Bool := !d.getD k false && decide ((applyR c (l.getD k dSUpdate)).2 = 0)
def cf : List Bool → Nat
  | [] => 0
  | true :: d => cf d
  | false :: d => cf d + 1
theorem cf_set : ∀ {d : List Bool} {k : Nat}, k < d.length → d.getD k false = false → cf d = cf (d.set k true) + 1
  | [], k, hk, _ => absurd hk (Nat.not_lt_zero _)
  | true :: d, 0, _, h => by cases h
  | false :: d, 0, _, h => rfl
  | true :: d, k + 1, hk, h => cf_set (d := d) (k := k) (Nat.lt_of_succ_lt_succ hk) h
  | false :: d, k + 1, hk, h => congrArg (· + 1) (cf_set (d := d) (k := k) (Nat.lt_of_succ_lt_succ hk) h)
def catchU (l : List SUpdate) : Nat → SChart → List Bool → SChart × List Bool
  | 0, c, d => (c, d)
  | f + 1, c, d => match (List.range l.length).find? (goes l c d) with
    | some k => catchU l f (applyR c (l.getD k dSUpdate)).1 (d.set k true)
    | none => (c, d)
theorem catchU_go {l : List SUpdate} {c : SChart} {d : List Bool} {k : Nat} (hk : k < d.length) (hg : goes l c d k = true) (hf : (List.range l.length).find? (goes l c d) = some k) :
    cf d = cf (d.set k true) + 1 ∧ catchU l (cf d) c d = catchU l (cf (d.set k true)) (applyR c (l.getD k dSUpdate)).1 (d.set k true) := by
  have h0 : d.getD k false = false := by
    unfold goes at hg
    cases h : d.getD k false with
    | false => rfl
    | true => rw [h] at hg; cases hg
  have h1 := cf_set hk h0
  refine ⟨h1, ?_⟩
  rw [h1]
  show (match (List.range l.length).find? (goes l c d) with | some k => catchU l (cf (d.set _ true)) (applyR c (l.getD k dSUpdate)).1 (d.set k true) | none => (c, d)) = _
  rw [hf]
theorem catchU_end {l : List SUpdate} {c : SChart} {d : List Bool} (hf : (List.range l.length).find? (goes l c d) = none) : ∀ f, catchU l f c d = (c, d)
  | 0 => rfl
  | f + 1 => by
    show (match (List.range l.length).find? (goes l c d) with | some k => catchU l f (applyR c (l.getD k dSUpdate)).1 (d.set k true) | none => (c, d)) = _
    rw [hf]
theorem catchU_keep {l : List SUpdate} {m : Nat} (hm : 2000 ≤ m) : ∀ (f : Nat) {c : SChart} {d : List Bool}, w_SChart c ≤ m → w_SChart (catchU l f c d).1 ≤ m ∧ (catchU l f c d).2.length = d.length
  | 0, c, d, hw => ⟨hw, rfl⟩
  | f + 1, c, d, hw => by
    unfold catchU
    split
    · rename_i k hk
      have := catchU_keep (l := l) hm f (c := (applyR c (l.getD k dSUpdate)).1) (d := d.set k true) (apply_w hm hw)
      rwa [List.length_set] at this
    · exact ⟨hw, rfl⟩
theorem szw {c : SChart} {m : Nat} (h : w_SChart c ≤ m) : c.Depths.length ≤ m ∧ c.Features.length ≤ m := by
  have w1 : w_SChart c = c.Depths.length + (c.Features.length + sumOf (fun y => w_SFeature y) c.Features) := rfl
  omega
def rndK {R : Type} (l : List SUpdate) (J : Bool → Int → Int → Int → List Int → List SFeature → List Bool → Option R) (c : SChart) (d : List Bool) : Option R :=
  match (List.range l.length).find? (goes l c d) with
  | some k => J true (applyR c (l.getD k dSUpdate)).1.Wide (applyR c (l.getD k dSUpdate)).1.High (applyR c (l.getD k dSUpdate)).1.Edition (applyR c (l.getD k dSUpdate)).1.Depths (applyR c (l.getD k dSUpdate)).1.Features (d.set k true)
  | none => J false c.Wide c.High c.Edition c.Depths c.Features d
theorem round_impl {R : Type} {n : Nat} {l : List SUpdate} (hl : l.length ≤ 60) (J : Bool → Int → Int → Int → List Int → List SFeature → List Bool → Option R)
    {c : SChart} (hw : w_SChart c ≤ 1048576) {d : List Bool} (hd : d.length = l.length) (hn : 1000000000 < n) :
    loopN (fun (x : Int) J' => impl_Catch_L9 n (fun again58 c59 c60 c61 c62 c63 done64 => J again58 c59 c60 c61 c62 c63 done64) J' l false l (l.length : Int) x c.Wide c.High c.Edition c.Depths c.Features 0 0 0 [] [] d) n (0 : Int) = rndK l J c d := by
  refine loop_find (len := l.length) (p := goes l c d) (yes := fun k => J true (applyR c (l.getD k dSUpdate)).1.Wide (applyR c (l.getD k dSUpdate)).1.High (applyR c (l.getD k dSUpdate)).1.Edition (applyR c (l.getD k dSUpdate)).1.Depths (applyR c (l.getD k dSUpdate)).1.Features (d.set k true)) (no := J false c.Wide c.High c.Edition c.Depths c.Features d) (by omega) (fun k J' h hg => ?_) (fun J' _ => ?_) (by omega)
  · unfold impl_Catch_L9 impl_Catch_k1 impl_Catch_k0
    rw [decide_eq_true (show (k : Int) < (l.length : Int) by omega), cond_true, ix_nat h, Int.toNat_natCast, bd_eq, ix_nat (by omega), chk_dec (by omega), w64_succ (by omega)]
    have e1 : impl_Apply6 n (⟨c.Wide, c.High, c.Depths, c.Features, c.Edition⟩ : SChart) (l.getD k dSUpdate) = some (applyR c (l.getD k dSUpdate)) := apply_impl c _ (szw hw).1 (szw hw).2 hn
    rw [e1, Option.bind_some]
    unfold goes
    cases d.getD k false with
    | true => rfl
    | false =>
      rw [ix_nat (by omega), chk_dec (by omega)]
      rfl
  · unfold impl_Catch_L9
    rw [decide_eq_false (Int.lt_irrefl _), cond_false]
def RI (l : List SUpdate) (E : SChart × List Bool) (x : Bool × Int × Int × Int × List Int × List SFeature × List Bool) : Prop :=
  ∃ (g : Bool) (c : SChart) (d : List Bool), x = (g, c.Wide, c.High, c.Edition, c.Depths, c.Features, d) ∧ w_SChart c ≤ 1048576 ∧ d.length = l.length ∧ (if g then catchU l (cf d) c d = E else (c, d) = E)
def rmu (x : Bool × Int × Int × Int × List Int × List SFeature × List Bool) : Nat := bif x.1 then cf x.2.2.2.2.2.2 + 1 else 0
theorem rnd_step {R : Type} {l : List SUpdate} {E : SChart × List Bool} {Z : Option R} {J : Bool × Int × Int × Int × List Int × List SFeature × List Bool → Option R} {c : SChart} {d : List Bool} (hw : w_SChart c ≤ 1048576) (hd : d.length = l.length) (he : catchU l (cf d) c d = E)
    (ih : ∀ y, RI l E y → rmu y < cf d + 1 → J y = Z) : rndK l (fun a1 a2 a3 a4 a5 a6 a7 => J (a1, a2, a3, a4, a5, a6, a7)) c d = Z := by
  unfold rndK
  rcases find_range (goes l c d) l.length with ⟨h1, h2⟩ | ⟨k, h1, h2, h3, h4⟩
  · rw [h1]
    rw [catchU_end h1] at he
    exact ih _ ⟨false, c, d, rfl, hw, hd, by rw [if_neg (by decide)]; exact he⟩ (by simp [rmu])
  · rw [h1]
    obtain ⟨q1, q2⟩ := catchU_go (by omega) h3 h1
    exact ih _ ⟨true, (applyR c (l.getD k dSUpdate)).1, d.set k true, rfl, apply_w (by omega) hw, by rw [List.length_set]; exact hd, by rw [if_pos rfl, ← q2]; exact he⟩ (by simp [rmu]; omega)
theorem cf_le : ∀ d : List Bool, cf d ≤ d.length
  | [] => Nat.le_refl _
  | true :: d => Nat.le_succ_of_le (cf_le d)
  | false :: d => Nat.succ_le_succ (cf_le d)
theorem rounds_impl {R : Type} {n : Nat} {l : List SUpdate} (hl : l.length ≤ 60) (kx0 : Int → Int → Int → List Int → List SFeature → List Bool → Option R)
    {c : SChart} (hw : w_SChart c ≤ 1048576) {d : List Bool} (hd : d.length = l.length) {E : SChart × List Bool} (he : catchU l (cf d) c d = E) (hn : 1000000000 < n) :
    loopN (fun (x : Bool × Int × Int × Int × List Int × List SFeature × List Bool) J' => impl_Catch_L6 n kx0 (fun a1 a2 a3 a4 a5 a6 a7 => J' (a1, a2, a3, a4, a5, a6, a7)) l x.1 x.2.1 x.2.2.1 x.2.2.2.1 x.2.2.2.2.1 x.2.2.2.2.2.1 0 0 0 [] [] x.2.2.2.2.2.2) n (true, c.Wide, c.High, c.Edition, c.Depths, c.Features, d) = kx0 E.1.Wide E.1.High E.1.Edition E.1.Depths E.1.Features E.2 := by
  have := cf_le d
  refine loopN_ind rmu (RI l E) (fun x r => r = kx0 E.1.Wide E.1.High E.1.Edition E.1.Depths E.1.Features E.2) ?_ n _ ⟨true, c, d, rfl, hw, hd, he⟩ (by simp [rmu]; omega)
  rintro _ J ⟨g, c, d, rfl, hw, hd, he⟩ ih
  unfold impl_Catch_L6
  dsimp only
  cases g with
  | false =>
    rw [if_neg (by decide)] at he
    rw [← he]
    rfl
  | true =>
    rw [cond_true, round_impl hl _ hw hd hn]
    exact rnd_step hw hd he fun y hy hm => ih y hy hm
/-! ### What is left over -/
def leftU (d : List Bool) : Nat → List Int
  | 0 => []
  | k + 1 => leftU d k ++ (bif d.getD k false then [] else [(k : Int)])
theorem leftU_len (d : List Bool) : ∀ k, (leftU d k).length ≤ k
  | 0 => Nat.le_refl _
  | k + 1 => by
    have := leftU_len d k
    unfold leftU
    cases d.getD k false <;> simp <;> omega
theorem leftU_succ (d : List Bool) (k : Nat) : leftU d (k + 1) = leftU d k ++ (bif d.getD k false then [] else [(k : Int)]) := rfl
theorem left_impl {R : Type} {n : Nat} (K : List Int → Option R) (x1 x2 x3 : Int) (x4 : List Int) (x5 : List SFeature) {d : List Bool} (hd : d.length ≤ 60) (hn : 1000000000 < n) :
    loopN (fun (x : Int × List Int) J' => impl_Catch_L18 n K (fun a b => J' (a, b)) (d.length : Int) x.1 x1 x2 x3 x4 x5 0 0 0 [] [] x.2 d) n ((0 : Int), []) = K (leftU d d.length) := by
  refine loopN_ind (fun x => d.length - x.1.toNat) (fun x => ∃ k : Nat, k ≤ d.length ∧ x = ((k : Int), leftU d k)) (fun x r => r = K (leftU d d.length)) ?_ n _ ⟨0, by omega, rfl⟩ (by simp; omega)
  rintro _ J ⟨k, hk, rfl⟩ ih
  unfold impl_Catch_L18
  dsimp only at ih ⊢
  by_cases h : k < d.length
  · have hle := leftU_len d k
    have hgo : J (((k + 1 : Nat) : Int), leftU d (k + 1)) = K (leftU d d.length) := ih _ ⟨k + 1, h, rfl⟩ (by simp; omega)
    rw [decide_eq_true (show (k : Int) < (d.length : Int) by omega), cond_true]
    rw [ix_nat (by omega), Int.toNat_natCast, chk_dec (by omega), w64_succ (by omega), ← hgo, leftU_succ]
    cases d.getD k false with
    | true => rw [Bool.not_true, cond_false, cond_true, List.append_nil]
    | false => rw [Bool.not_false, cond_true, cond_false, chk_dec (by rw [List.length_append, List.length_singleton]; omega)]
  · have : k = d.length := by omega
    subst this
    rw [decide_eq_false (Int.lt_irrefl _), cond_false]
def catchE (c : SChart) (l : List SUpdate) : SChart × List Bool := catchU l (cf (List.replicate l.length false)) c (List.replicate l.length false)
def catchR (c : SChart) (l : List SUpdate) : SChart × List Int := if (l.length : Int) > 60 then (c, []) else ((catchE c l).1, leftU (catchE c l).2 l.length)
theorem catch_impl {n : Nat} {c : SChart} (hw : w_SChart c ≤ 1048576) (l : List SUpdate) (hn : 1000000000 < n) : impl_Catch n c l = some (catchR c l) := by
  obtain ⟨s1, s2⟩ := szw hw
  unfold impl_Catch catchR
  rw [own_impl n c s1 s2, Option.bind_some, bif_dec]
  split
  · rfl
  · rename_i h60
    have hd : (List.replicate l.length false).length = l.length := List.length_replicate
    unfold impl_Catch_k2
    rw [chk_dec (by omega), chk_dec (by omega), chk_dec (by omega), Int.toNat_natCast]
    rw [rounds_impl (by omega) _ hw hd (E := catchE c l) rfl hn]
    have hk := catchU_keep (l := l) (m := 1048576) (by omega) (cf (List.replicate l.length false)) (c := c) (d := List.replicate l.length false) hw
    have hk2 : (catchE c l).2.length = l.length := hk.2.trans hd
    have hlen := leftU_len (catchE c l).2 (catchE c l).2.length
    rw [left_impl _ _ _ _ _ _ (by omega) hn]
    unfold impl_own_int
    rw [chk_dec (by omega), chk_dec (by omega), chk_dec (by omega), Option.bind_some, hk2]
theorem catch_w {c : SChart} {l : List SUpdate} (hw : w_SChart c ≤ 1048576) : w_SChart (catchR c l).1 ≤ 1048576 ∧ (catchR c l).2.length ≤ 60 := by
  unfold catchR
  split
  · exact ⟨hw, Nat.zero_le _⟩
  · have hlen := leftU_len (catchE c l).2 l.length
    exact ⟨(catchU_keep (by omega) _ hw).1, by show (leftU _ _).length ≤ 60; omega⟩
end Go.Sm
end

section
set_option linter.unusedSimpArgs false
set_option linter.deprecated false
set_option linter.unusedSectionVars false
set_option linter.unusedVariables false
set_option linter.unusedSimpArgs false
namespace Go.Sm
attribute [local irreducible] bd chk ix loopN
/-! ### Draws -/
structure CurOk (c : Sl1Cur) : Prop where
  i : 0 ≤ c.i ∧ c.i ≤ (c.b.length : Int)
  len : c.b.length ≤ 1048576
theorem and255 (v : Int) : 0 ≤ w64 (((BitVec.ofInt 64 v &&& BitVec.ofInt 64 (255 : Int)).toNat : Nat) : Int) ∧ w64 (((BitVec.ofInt 64 v &&& BitVec.ofInt 64 (255 : Int)).toNat : Nat) : Int) ≤ 255 := by
  have h : (BitVec.ofInt 64 v &&& BitVec.ofInt 64 (255 : Int)).toNat ≤ 255 := by
    rw [BitVec.toNat_and]
    exact Nat.and_le_right
  rw [w64_id (by omega) (by omega)]
  omega
theorem byte_ok {n : Nat} {c : Sl1Cur} (h : CurOk c) : ∃ v c', spec_l1Byte n c = some (v, c') ∧ (0 ≤ v ∧ v ≤ 255) ∧ CurOk c' := by
  have h1 := h.i
  have h2 := h.len
  unfold spec_l1Byte
  simp only [bd_eq]
  by_cases hc : c.i < (c.b.length : Int)
  · rw [decide_eq_true hc, cond_true, ix_of h1.1 hc]
    refine ⟨_, _, rfl, and255 _, ⟨?_, h2⟩⟩
    show 0 ≤ w64 (c.i + 1) ∧ w64 (c.i + 1) ≤ (c.b.length : Int)
    rw [w64_id (by omega) (by omega)]
    omega
  · rw [decide_eq_false hc, cond_false]
    exact ⟨_, _, rfl, and255 _, ⟨h1, h2⟩⟩
theorem below_ok {n : Nat} {c : Sl1Cur} (h : CurOk c) {m : Int} (hm : 1 ≤ m ∧ m ≤ 256) : ∃ v c', spec_l1Below n c m = some (v, c') ∧ (0 ≤ v ∧ v < m) ∧ CurOk c' := by
  obtain ⟨v, c', h1, h2, h3⟩ := byte_ok (n := n) h
  unfold spec_l1Below
  rw [decide_eq_false (show ¬ m ≤ 0 by omega), cond_false, decide_eq_true (show m ≤ 256 by omega), cond_true, h1, Option.bind_some, decide_eq_false (show ¬ m = 0 by omega), cond_false]
  exact ⟨_, _, rfl, ⟨Int.tmod_nonneg _ h2.1, Int.tmod_lt_of_pos _ (by omega)⟩, h3⟩
theorem new_ok {n : Nat} (code : List Int) (hc : code.length ≤ 1048576) (hn : 1000000000 < n) : ∃ c, spec_l1New n code = some c ∧ CurOk c := by
  have hw : w64 ((59059 : Int) + (code.length : Int)) = 59059 + (code.length : Int) := w64_id (by omega) (by omega)
  unfold spec_l1New
  rw [bd_eq]
  have key : ∀ m k h fu, k + m = code.length → m < fu → ∃ c, loopN (fun (x : Int × Int) J' => spec_l1New_L3 n (fun h16 => some ((⟨code, (0 : Int), h16⟩ : Sl1Cur))) (fun h17 i18 => J' (h17, i18)) code x.1 x.2) fu (h, (k : Int)) = some c ∧ CurOk c := by
    intro m
    induction m with
    | zero =>
      intro k h fu hk hfu
      obtain ⟨f, rfl⟩ : ∃ f, fu = f + 1 := ⟨fu - 1, by omega⟩
      rw [loopN_succ]
      refine ⟨⟨code, 0, h⟩, ?_, ⟨by show (0 : Int) ≤ 0 ∧ (0 : Int) ≤ (code.length : Int); omega, hc⟩⟩
      show spec_l1New_L3 n _ _ code h (k : Int) = _
      unfold spec_l1New_L3
      rw [decide_eq_false (by omega), cond_false]
    | succ m ih =>
      intro k h fu hk hfu
      obtain ⟨f, rfl⟩ : ∃ f, fu = f + 1 := ⟨fu - 1, by omega⟩
      rw [loopN_succ]
      have hstep : ∀ J : Int → Int → Option Sl1Cur, ∃ h', spec_l1New_L3 n (fun h16 => some ((⟨code, (0 : Int), h16⟩ : Sl1Cur))) J code h (k : Int) = J h' ((k + 1 : Nat) : Int) ∨ spec_l1New_L3 n (fun h16 => some ((⟨code, (0 : Int), h16⟩ : Sl1Cur))) J code h (k : Int) = some ⟨code, 0, h⟩ := by
        intro J
        unfold spec_l1New_L3 spec_l1New_k0
        rw [decide_eq_true (show (k : Int) < (code.length : Int) by omega), cond_true]
        cases decide ((k : Int) < 4000) with
        | true =>
          rw [cond_true, ix_nat (by omega), bd_eq, bd_eq, w64_succ (show k < 9223372036854775807 by omega)]
          exact ⟨_, .inl rfl⟩
        | false => exact ⟨0, .inr rfl⟩
      obtain ⟨h', e | e⟩ := hstep (fun h17 i18 => loopN (fun (x : Int × Int) J' => spec_l1New_L3 n (fun h16 => some ((⟨code, (0 : Int), h16⟩ : Sl1Cur))) (fun h17 i18 => J' (h17, i18)) code x.1 x.2) f (h17, i18))
      · obtain ⟨c, g1, g2⟩ := ih (k + 1) h' f (by omega) (by omega)
        exact ⟨c, e.trans g1, g2⟩
      · exact ⟨⟨code, 0, h⟩, e, ⟨by show (0 : Int) ≤ 0 ∧ (0 : Int) ≤ (code.length : Int); omega, hc⟩⟩
  exact key code.length 0 _ n (by omega) (by omega)
/-! ### A drawn chart is in order -/
theorem pick_mem {n : Nat} {c : Sl1Cur} (h : CurOk c) {l : List ByteArray} (hl : 1 ≤ l.length ∧ l.length ≤ 256) : ∃ v c', spec_l1Pick n c l = some (v, c') ∧ CurOk c' ∧ v ∈ l := by
  obtain ⟨v, c', h1, h2, h3⟩ := below_ok (n := n) h (m := (l.length : Int)) (by omega)
  unfold spec_l1Pick
  rw [h1, Option.bind_some, ix_of h2.1 h2.2]
  exact ⟨_, _, rfl, h3, getD_mem (by omega)⟩
structure DrF (m1 m2 : Nat) (id : Int) (k : Nat) (F : List SFeature) : Prop where
  id0 : 0 ≤ id
  id1 : id + 3 * (k : Int) ≤ 100
  len : F.length + k ≤ 10
  ok : ∀ y ∈ F, (1 ≤ y.Id ∧ y.Id ≤ id) ∧ (1 ≤ y.Kind ∧ y.Kind ≤ 9) ∧ (0 ≤ y.X ∧ y.X < (m1 : Int)) ∧ (0 ≤ y.Y ∧ y.Y < (m2 : Int)) ∧ y.Text.size ≤ 40
  inc : F.Pairwise fun a b => a.Id < b.Id
theorem drF_ok {m1 m2 : Nat} {id : Int} {k : Nat} {F : List SFeature} (h : DrF m1 m2 id k F) (h1 : 1 ≤ m1 ∧ m1 ≤ 12) (h2 : 1 ≤ m2 ∧ m2 ≤ 12) {D : List Int} (hd : D.length = m1 * m2) (hdv : ∀ d ∈ D, -10 ≤ d ∧ d ≤ 49) {e : Int} (he : 0 ≤ e ∧ e ≤ 1000) :
    chOk ⟨(m1 : Int), (m2 : Int), D, F, e⟩ := by
  have hm : m1 * m2 ≤ 12 * 12 := Nat.mul_le_mul h1.2 h2.2
  have hl := h.len
  have hid := h.id1
  refine ⟨by dsimp only; omega, by dsimp only; omega, ?_, by dsimp only; omega, by dsimp only; omega, fun i hi => ?_, fun i hi => ?_⟩
  · show (D.length : Int) = w64 ((m1 : Int) * (m2 : Int))
    rw [show (m1 : Int) * (m2 : Int) = ((m1 * m2 : Nat) : Int) from (Int.natCast_mul ..).symm, w64_id (by omega) (by omega), hd]
  · have := hdv _ (getD_mem (d := 0) hi)
    unfold depthOk
    exact decide_eq_true (by dsimp only at *; omega)
  · have hy := h.ok _ (getD_mem (d := dSFeature) hi)
    refine ⟨?_, fun h0 => ?_⟩
    · unfold featOk placeOk
      dsimp only at hy ⊢
      rw [w64_id (by omega) (by omega), w64_id (by omega) (by omega)]
      simp only [Bool.and_eq_true, decide_eq_true_eq]
      omega
    · have hi2 : i < F.length := hi
      have := List.pairwise_iff_getElem.1 h.inc (i - 1) i (by omega) hi2 (by omega)
      show ¬ (F.getD (i - 1) dSFeature).Id ≥ (F.getD i dSFeature).Id
      rw [getD_eq (show i - 1 < F.length by omega), getD_eq hi2]
      omega
theorem txt_ok {v : ByteArray} (h : v ∈ [str [], str [98, 117, 111, 121], str [119, 114, 101, 99, 107]]) : v.size ≤ 40 := by
  simp only [List.mem_cons, List.not_mem_nil, or_false] at h
  rcases h with rfl | rfl | rfl <;> decide +kernel
theorem draw_good {n : Nat} {c : Sl1Cur} (hc : CurOk c) (hn : 1000000000 < n) : ∃ h c', spec_l6Draw n c = some (h, c') ∧ (chOk h ∧ h.Wide ≤ 5 ∧ h.High ≤ 5 ∧ h.Edition ≤ 3 ∧ 1 ≤ h.Depths.length) ∧ CurOk c' := by
  obtain ⟨v1, c1, e1, a1, q1⟩ := below_ok (n := n) hc (m := 5) (by omega)
  obtain ⟨v2, c2, e2, a2, q2⟩ := below_ok (n := n) q1 (m := 5) (by omega)
  obtain ⟨v3, c3, e3, a3, q3⟩ := below_ok (n := n) q2 (m := 4) (by omega)
  have w1 : w64 ((1 : Int) + v1) = 1 + v1 := w64_id (by omega) (by omega)
  have w2 : w64 ((1 : Int) + v2) = 1 + v2 := w64_id (by omega) (by omega)
  obtain ⟨m1, hm1⟩ : ∃ m1 : Nat, 1 + v1 = (m1 : Int) := ⟨(1 + v1).toNat, by omega⟩
  obtain ⟨m2, hm2⟩ : ∃ m2 : Nat, 1 + v2 = (m2 : Int) := ⟨(1 + v2).toNat, by omega⟩
  have hmul : m1 * m2 ≤ 5 * 5 := Nat.mul_le_mul (by omega) (by omega)
  have hpos : 0 < m1 * m2 := Nat.mul_pos (by omega) (by omega)
  have w3 : w64 ((m1 : Int) * (m2 : Int)) = ((m1 * m2 : Nat) : Int) := by
    rw [show (m1 : Int) * (m2 : Int) = ((m1 * m2 : Nat) : Int) from (Int.natCast_mul ..).symm, w64_id (by omega) (by omega)]
  unfold spec_l6Draw
  rw [e1, Option.bind_some]
  dsimp only
  rw [e2, Option.bind_some]
  dsimp only
  rw [e3, Option.bind_some, w1, w2, hm1, hm2]
  refine loop_runS (S := Sl1Cur × List Int) (X := Int × Sl1Cur × List Int) (enc := fun k s => (k, s.1, s.2)) (len := m1 * m2) (I := fun k s => CurOk s.1 ∧ s.2.length = k ∧ ∀ d ∈ s.2, -10 ≤ d ∧ d ≤ 49)
    (Q := fun r => ∃ h c', r = some (h, c') ∧ (chOk h ∧ h.Wide ≤ 5 ∧ h.High ≤ 5 ∧ h.Edition ≤ 3 ∧ 1 ≤ h.Depths.length) ∧ CurOk c') (fun k s J hk hI => ?_) (fun s J hI => ?_) (by omega) (s0 := (c3, [])) ⟨q3, rfl, fun d hd => by cases hd⟩
  · obtain ⟨i1, i2, i3⟩ := hI
    obtain ⟨a, p1, e4, a4, q4⟩ := below_ok (n := n) i1 (m := 60) (by omega)
    refine ⟨(p1, s.2 ++ [w64 (a - 10)]), ⟨q4, by rw [List.length_append, List.length_singleton, i2], fun d hd => ?_⟩, ?_⟩
    · rcases List.mem_append.1 hd with h | h
      · exact i3 d h
      · rw [List.mem_singleton.1 h, w64_id (by omega) (by omega)]
        omega
    show spec_l6Draw_L3 n _ _ (k : Int) s.1 _ _ _ _ _ (m1 : Int) (m2 : Int) _ s.2 _ = _
    unfold spec_l6Draw_L3
    rw [w3, decide_eq_true (by omega), cond_true, e4, Option.bind_some]
    simp only [bd_eq]
    rw [chk_dec (by rw [List.length_append, List.length_singleton, i2]; omega), w64_succ (by omega)]
  · obtain ⟨i1, i2, i3⟩ := hI
    show ∃ h c', spec_l6Draw_L3 n _ _ ((m1 * m2 : Nat) : Int) s.1 _ _ _ _ _ (m1 : Int) (m2 : Int) _ s.2 _ = _ ∧ _
    unfold spec_l6Draw_L3
    rw [w3, decide_eq_false (by omega), cond_false]
    obtain ⟨a, p1, e4, a4, q4⟩ := below_ok (n := n) i1 (m := 5) (by omega)
    dsimp only
    rw [e4, Option.bind_some]
    refine loopN_ind (fun x => x.2.1.toNat) (fun x => ∃ k : Nat, x.2.1 = (k : Int) ∧ CurOk x.2.2.1 ∧ DrF m1 m2 x.1 k x.2.2.2) (fun x r => ∃ h c', r = some (h, c') ∧ (chOk h ∧ h.Wide ≤ 5 ∧ h.High ≤ 5 ∧ h.Edition ≤ 3 ∧ 1 ≤ h.Depths.length) ∧ CurOk c') ?_ n _
      ⟨a.toNat, by dsimp only; omega, q4, ⟨Int.le_refl _, by dsimp only; omega, by dsimp only; rw [List.length_nil]; omega, (fun y hy => by cases hy), List.Pairwise.nil⟩⟩ (by dsimp only; omega)
    rintro ⟨id, _, p, F⟩ J ⟨k, rfl, hp, hF⟩ ih
    dsimp only at hp hF
    show ∃ h c', spec_l6Draw_L8 n _ _ id (k : Int) p _ _ _ _ _ (m1 : Int) (m2 : Int) _ _ F = _ ∧ _
    unfold spec_l6Draw_L8
    cases k with
    | zero =>
      rw [decide_eq_false (by omega), cond_false]
      exact ⟨_, _, rfl, ⟨drF_ok hF (by omega) (by omega) i2 i3 (by omega), by dsimp only; omega, by dsimp only; omega, by dsimp only; omega, by dsimp only; omega⟩, hp⟩
    | succ k =>
      rw [decide_eq_true (by omega), cond_true]
      unfold spec_l6Draw_k0
      obtain ⟨b1, d1, f1, g1, r1⟩ := below_ok (n := n) hp (m := 3) (by omega)
      obtain ⟨b2, d2, f2, g2, r2⟩ := below_ok (n := n) r1 (m := 9) (by omega)
      obtain ⟨b3, d3, f3, g3, r3⟩ := below_ok (n := n) r2 (m := (m1 : Int)) (by omega)
      obtain ⟨b4, d4, f4, g4, r4⟩ := below_ok (n := n) r3 (m := (m2 : Int)) (by omega)
      obtain ⟨b5, d5, f5, r5, t5⟩ := pick_mem (n := n) r4 (l := [str [], str [98, 117, 111, 121], str [119, 114, 101, 99, 107]]) (by simp)
      have hl := hF.len
      have hi0 := hF.id0
      have hi1 := hF.id1
      simp only [f1, f2, f3, f4, f5, Option.bind_some, bd_eq]
      rw [chk_dec (by rw [List.length_append, List.length_singleton]; omega), show w64 (((k + 1 : Nat) : Int) - 1) = (k : Int) from by rw [w64_id (by omega) (by omega)]; omega, w64_id (x := id + 1) (by omega) (by omega), w64_id (x := id + 1 + b1) (by omega) (by omega), w64_id (x := 1 + b2) (by omega) (by omega)]
      refine ih _ ⟨k, rfl, r5, ⟨by dsimp only; omega, by dsimp only; omega, by dsimp only; rw [List.length_append, List.length_singleton]; omega, fun y hy => ?_, ?_⟩⟩ (by dsimp only; omega)
      · rcases List.mem_append.1 hy with h | h
        · obtain ⟨h1, h2⟩ := hF.ok y h
          exact ⟨⟨h1.1, by dsimp only; omega⟩, h2⟩
        · rw [List.mem_singleton.1 h]
          exact ⟨by dsimp only; omega, by dsimp only; omega, by dsimp only; omega, by dsimp only; omega, txt_ok t5⟩
      · refine List.pairwise_append.2 ⟨hF.inc, List.pairwise_singleton _ _, fun a ha b hb => ?_⟩
        rw [List.mem_singleton.1 hb]
        have := (hF.ok a ha).1
        dsimp only
        omega
/-! ### Drawn editions -/
def GoodN (c : SChart) (nt : SNote) : Prop := nt.Kind = 4 ∧ placeOk c nt.X nt.Y = true ∧ depthOk nt.Depth = true
structure GoodU (c : SChart) (j : Nat) (u : SUpdate) : Prop where
  ed : u.Edition = c.Edition + (j : Int) + 1
  len : 1 ≤ u.Notes.length ∧ u.Notes.length ≤ 20
  ok : ∀ nt ∈ u.Notes, GoodN c nt
def GoodL (c : SChart) (l : List SUpdate) : Prop := ∀ j, j < l.length → GoodU c j (l.getD j dSUpdate)
theorem goodL_snoc {c : SChart} {l : List SUpdate} {u : SUpdate} (h : GoodL c l) (hu : GoodU c l.length u) : GoodL c (l ++ [u]) := fun j hj => by
  rw [List.length_append, List.length_singleton] at hj
  by_cases e : j < l.length
  · have := h j e
    rw [getD_eq e] at this
    rw [getD_eq (by rw [List.length_append, List.length_singleton]; omega), List.getElem_append_left e]
    exact this
  · have : j = l.length := by omega
    subst this
    rw [getD_eq (by rw [List.length_append, List.length_singleton]; omega), List.getElem_append_right (Nat.le_refl _)]
    simpa using hu
theorem draw_editions {n : Nat} (code : List Int) (hc : code.length ≤ 1048576) (hn : 1000000000 < n) :
    ∃ c l, spec_DrawEditions n code = some (c, l) ∧ (chOk c ∧ c.Edition ≤ 3 ∧ 1 ≤ c.Depths.length) ∧ (1 ≤ l.length ∧ l.length ≤ 6) ∧ GoodL c l := by
  obtain ⟨c0, e0, q0⟩ := new_ok (n := n) code hc hn
  obtain ⟨h, c1, e1, ⟨hk, hw, hh, he, hd⟩, q1⟩ := draw_good (n := n) q0 hn
  obtain ⟨v2, c2, e2, a2, q2⟩ := below_ok (n := n) q1 (m := 6) (by omega)
  have hk0 := hk
  obtain ⟨k1, k2, k3, k4, k5, _⟩ := hk0
  unfold spec_DrawEditions
  rw [e0, Option.bind_some, e1, Option.bind_some]
  dsimp only
  rw [e2, Option.bind_some, w64_id (x := 1 + v2) (by omega) (by omega)]
  refine loopN_ind (fun x => x.1.toNat) (fun x => ∃ k : Nat, x.1 = (k : Int) ∧ CurOk x.2.1 ∧ GoodL h x.2.2 ∧ 1 ≤ x.2.2.length + k ∧ x.2.2.length + k ≤ 6) (fun x r => ∃ c l, r = some (c, l) ∧ (chOk c ∧ c.Edition ≤ 3 ∧ 1 ≤ c.Depths.length) ∧ (1 ≤ l.length ∧ l.length ≤ 6) ∧ GoodL c l) ?_ n _
    ⟨(1 + v2).toNat, by dsimp only; omega, q2, fun j hj => absurd hj (Nat.not_lt_zero _), by dsimp only; rw [List.length_nil]; omega, by dsimp only; rw [List.length_nil]; omega⟩ (by dsimp only; omega)
  rintro ⟨_, p, l⟩ J ⟨k, rfl, hp, hl, hl1, hl2⟩ ih
  dsimp only at hp hl hl1 hl2
  show ∃ c l', spec_DrawEditions_L5 n _ _ (k : Int) _ _ _ _ _ p _ _ _ _ _ l = _ ∧ _
  unfold spec_DrawEditions_L5
  cases k with
  | zero =>
    rw [decide_eq_false (by omega), cond_false]
    exact ⟨_, _, rfl, ⟨hk, he, hd⟩, ⟨by omega, by omega⟩, hl⟩
  | succ k =>
    rw [decide_eq_true (by omega), cond_true]
    unfold spec_DrawEditions_k1
    obtain ⟨b1, d1, f1, g1, r1⟩ := below_ok (n := n) hp (m := 3) (by omega)
    simp only [bd_eq]
    rw [f1, Option.bind_some, w64_id (x := h.Edition + (l.length : Int)) (by omega) (by omega), w64_id (x := h.Edition + (l.length : Int) + 1) (by omega) (by omega), w64_id (x := 1 + b1) (by omega) (by omega), show w64 (((k + 1 : Nat) : Int) - 1) = (k : Int) from by rw [w64_id (by omega) (by omega)]; omega]
    dsimp only
    refine loopN_ind (fun x => x.1.toNat) (fun x => ∃ m : Nat, x.1 = (m : Int) ∧ CurOk x.2.1 ∧ (∀ nt ∈ x.2.2, GoodN h nt) ∧ 1 ≤ x.2.2.length + m ∧ x.2.2.length + m ≤ 3) (fun x r => ∃ c l, r = some (c, l) ∧ (chOk c ∧ c.Edition ≤ 3 ∧ 1 ≤ c.Depths.length) ∧ (1 ≤ l.length ∧ l.length ≤ 6) ∧ GoodL c l) ?_ n _
      ⟨(1 + b1).toNat, by dsimp only; omega, r1, (fun nt hnt => by cases hnt), by dsimp only; rw [List.length_nil]; omega, by dsimp only; rw [List.length_nil]; omega⟩ (by dsimp only; omega)
    rintro ⟨_, p2, ns⟩ J2 ⟨m, rfl, hp2, hns, hn1, hn2⟩ ih2
    dsimp only at hp2 hns hn1 hn2
    show ∃ c l', spec_DrawEditions_L9 n _ _ _ (m : Int) _ _ _ _ _ p2 _ _ _ _ _ l _ ns = _ ∧ _
    unfold spec_DrawEditions_L9
    cases m with
    | zero =>
      rw [decide_eq_false (by omega), cond_false]
      dsimp only
      rw [chk_dec (by rw [List.length_append, List.length_singleton]; omega)]
      exact ih _ ⟨k, rfl, hp2, goodL_snoc hl ⟨rfl, ⟨by dsimp only; omega, by dsimp only; omega⟩, hns⟩, by dsimp only; rw [List.length_append, List.length_singleton]; omega, by dsimp only; rw [List.length_append, List.length_singleton]; omega⟩ (by dsimp only; omega)
    | succ m =>
      rw [decide_eq_true (by omega), cond_true]
      unfold spec_DrawEditions_k0
      obtain ⟨x1, y1, f2, g2, r2⟩ := below_ok (n := n) hp2 (m := h.Wide) (by omega)
      obtain ⟨x2, y2, f3, g3, r3⟩ := below_ok (n := n) r2 (m := h.High) (by omega)
      obtain ⟨x3, y3, f4, g4, r4⟩ := below_ok (n := n) r3 (m := 90) (by omega)
      simp only [f2, f3, f4, Option.bind_some, bd_eq]
      rw [chk_dec (by rw [List.length_append, List.length_singleton]; omega), show w64 (((m + 1 : Nat) : Int) - 1) = (m : Int) from by rw [w64_id (by omega) (by omega)]; omega]
      refine ih2 _ ⟨m, rfl, r4, fun nt hnt => ?_, by dsimp only; rw [List.length_append, List.length_singleton]; omega, by dsimp only; rw [List.length_append, List.length_singleton]; omega⟩ (by dsimp only; omega)
      rcases List.mem_append.1 hnt with h1 | h1
      · exact hns nt h1
      · rw [List.mem_singleton.1 h1]
        refine ⟨rfl, ?_, ?_⟩
        · unfold placeOk
          rw [w64_id (by omega) (by omega), w64_id (by omega) (by omega)]
          simp only [Bool.and_eq_true, decide_eq_true_eq]
          omega
        · unfold depthOk
          exact decide_eq_true (by dsimp only; omega)
end Go.Sm
end

section
set_option linter.unusedSimpArgs false
set_option linter.deprecated false
set_option linter.unusedSectionVars false
set_option linter.unusedVariables false
set_option linter.unusedSimpArgs false
namespace Go.Sm
attribute [local irreducible] bd chk ix loopN
theorem at_okB {n : Nat} (code : List Int) (hc : code.length ≤ 1048576) (hr : ∀ y ∈ code, rng 0 255 y) {i : Int} (hi : 0 ≤ i ∧ i ≤ 100) : ∃ v, laws_at n code i = some v ∧ 0 ≤ v ∧ v ≤ 255 := by
  unfold laws_at
  by_cases h : i < (code.length : Int)
  · rw [decide_eq_true h, cond_true, ix_of hi.1 h]
    have := hr _ (getD_mem (l := code) (d := 0) (show i.toNat < code.length by omega))
    unfold rng at this
    exact ⟨_, rfl, by rw [w64_id (by omega) (by omega)]; exact this⟩
  · rw [decide_eq_false h, cond_false, bd_eq, bd_eq, w64_id (x := i * 7) (by omega) (by omega), w64_id (by omega) (by omega)]
    exact ⟨_, rfl, Int.tmod_nonneg _ (by omega), by have := Int.tmod_lt_of_pos (i * 7 + (code.length : Int)) (show (0 : Int) < 256 by omega); omega⟩
/-! ### Good updates on a chart in order -/
theorem noteR_good {s : SChart} {nt : SNote} (hk : nt.Kind = 4) (hp : placeOk s nt.X nt.Y = true) (hd : depthOk nt.Depth = true) : noteR s nt = (⟨s.Wide, s.High, s.Depths.set (dIx s nt) nt.Depth, s.Features, s.Edition⟩, true) := by
  unfold noteR
  rw [hk, hp, hd]
  rfl
theorem nU_good {c : SChart} : ∀ {l : List SNote} {s : SChart}, CI s → depthsOk s → s.Wide = c.Wide → s.High = c.High → (∀ nt ∈ l, GoodN c nt) →
    ∃ D, nU l s = (⟨s.Wide, s.High, D, s.Features, s.Edition⟩, true) ∧ D.length = s.Depths.length ∧ ∀ i, i < D.length → depthOk (D.getD i 0) = true
  | [], s, h, hd, hw, hh, hl => ⟨s.Depths, rfl, rfl, hd⟩
  | nt :: l, s, h, hd, hw, hh, hl => by
    obtain ⟨g1, g2, g3⟩ := hl nt (List.mem_cons_self ..)
    have hp : placeOk s nt.X nt.Y = true := by
      unfold placeOk at g2 ⊢
      rw [hw, hh]
      exact g2
    have hR := noteR_good g1 hp g3
    have hci := (note_ci h nt).1
    rw [hR] at hci
    have hdi := (dIx_ok h hp).2
    obtain ⟨D, e1, e2, e3⟩ := nU_good (l := l) hci (fun i hi => by
      have hi' : i < s.Depths.length := by
        have : i < (s.Depths.set (dIx s nt) nt.Depth).length := hi
        rwa [List.length_set] at this
      show depthOk ((s.Depths.set (dIx s nt) nt.Depth).getD i 0) = true
      by_cases e : i = dIx s nt
      · rw [e, getD_set hdi]
        exact g3
      · rw [getD_set_ne e]
        exact hd i hi') hw hh (fun y hy => hl y (List.mem_cons_of_mem _ hy))
    refine ⟨D, ?_, e2.trans (List.length_set ..), e3⟩
    rw [nU_cons, hR]
    exact e1
structure Kin (c s : SChart) (k : Nat) : Prop where
  ok : chOk s
  wide : s.Wide = c.Wide
  high : s.High = c.High
  ed : s.Edition = c.Edition + (k : Int)
theorem apply_old {c s : SChart} {k j : Nat} (h : Kin c s k) {u : SUpdate} (hu : GoodU c j u) (hj : j < k) : (applyR s u).2 ≠ 0 := by
  have h1 := h.ed
  have h2 := hu.ed
  have h3 := hu.len
  unfold applyR
  rw [if_pos h.ok, if_pos (by omega), if_pos (by omega)]
  show (2 : Int) ≠ 0
  decide
theorem apply_gap {c s : SChart} {k j : Nat} (h : Kin c s k) {u : SUpdate} (hu : GoodU c j u) (hj : k < j) : (applyR s u).2 ≠ 0 := by
  have h1 := h.ed
  have h2 := hu.ed
  have h3 := hu.len
  unfold applyR
  rw [if_pos h.ok, if_pos (by omega), if_neg (by omega), if_pos (by omega)]
  show (3 : Int) ≠ 0
  decide
theorem apply_at {c s : SChart} {k : Nat} (h : Kin c s k) (hc : c.Edition ≤ 3) (hk : k ≤ 6) {u : SUpdate} (hu : GoodU c k u) : (applyR s u).2 = 0 ∧ Kin c (applyR s u).1 (k + 1) := by
  have h1 := h.ed
  have h2 := hu.ed
  have h3 := hu.len
  have h4 := h.ok
  obtain ⟨o1, o2, o3, o4, o5, o6, o7⟩ := h4
  obtain ⟨D, e, hl, hd⟩ := nU_good (l := u.Notes) (ci_of h.ok) o6 h.wide h.high hu.ok
  unfold applyR
  rw [if_pos h.ok, if_pos (by omega), if_neg (by omega), if_neg (by omega), if_neg (by omega)]
  unfold applyV
  rw [e]
  refine ⟨rfl, ⟨⟨o1, o2, ?_, o4, ?_, hd, o7⟩, h.wide, h.high, ?_⟩⟩
  · show (D.length : Int) = _
    rw [hl]
    exact o3
  · show 0 ≤ u.Edition ∧ u.Edition ≤ 1000000
    omega
  · show u.Edition = _
    omega
def chartU (c : SChart) (l : List SUpdate) : Nat → SChart
  | 0 => c
  | k + 1 => (applyR (chartU c l k) (l.getD k dSUpdate)).1
theorem str_kin {c : SChart} {l : List SUpdate} (hc : chOk c) (he : c.Edition ≤ 3) (hl : GoodL c l) (h6 : l.length ≤ 6) : ∀ k, k ≤ l.length → Kin c (chartU c l k) k
  | 0, _ => ⟨hc, rfl, rfl, by show c.Edition = _; omega⟩
  | k + 1, hk => (apply_at (str_kin hc he hl h6 k (by omega)) he (by omega) (hl k (by omega))).2
/-! ### Any order -/
structure Mix (l M : List SUpdate) : Prop where
  mem : ∀ i, i < M.length → ∃ j, j < l.length ∧ M.getD i dSUpdate = l.getD j dSUpdate
  all : ∀ j, j < l.length → ∃ i, i < M.length ∧ M.getD i dSUpdate = l.getD j dSUpdate
theorem catch_all {c : SChart} {l M : List SUpdate} (hc : chOk c) (he : c.Edition ≤ 3) (hl : GoodL c l) (h6 : l.length ≤ 6) (hM : Mix l M) : ∀ (m k : Nat) (d : List Bool), k + m = l.length → d.length = M.length →
    (∀ i, i < M.length → d.getD i false = true → ∃ j, j < k ∧ M.getD i dSUpdate = l.getD j dSUpdate) → cf d + k = M.length →
    ∃ d', catchU M (cf d) (chartU c l k) d = (chartU c l l.length, d') ∧ d'.length = M.length ∧ cf d' + l.length = M.length
  | 0, k, d, hk, hd, hg, hcf => by
    have hk : k = l.length := hk
    subst hk
    have hkin := str_kin hc he hl h6 l.length (Nat.le_refl _)
    rcases find_range (goes M (chartU c l l.length) d) M.length with ⟨h1, _⟩ | ⟨i, h1, h2, h3, _⟩
    · exact ⟨d, catchU_end h1 _, hd, hcf⟩
    · obtain ⟨j, hj, hm⟩ := hM.mem i h2
      unfold goes at h3
      simp only [Bool.and_eq_true, decide_eq_true_eq] at h3
      rw [hm] at h3
      exact absurd h3.2 (apply_old hkin (hl j hj) hj)
  | m + 1, k, d, hk, hd, hg, hcf => by
    have hkin := str_kin hc he hl h6 k (by omega)
    rcases find_range (goes M (chartU c l k) d) M.length with ⟨_, h2⟩ | ⟨i, h1, h2, h3, _⟩
    · obtain ⟨i, hi, hm⟩ := hM.all k (by omega)
      have h3 := h2 i hi
      unfold goes at h3
      rw [hm, decide_eq_true (apply_at hkin he (by omega) (hl k (by omega))).1] at h3
      have hdi : d.getD i false = true := by
        cases hx : d.getD i false with
        | true => rfl
        | false => rw [hx] at h3; cases h3
      obtain ⟨j, hj, hm2⟩ := hg i hi hdi
      have e1 := (hl k (by omega)).ed
      have e2 := (hl j (by omega)).ed
      rw [← hm, hm2] at e1
      omega
    · obtain ⟨j, hj, hm⟩ := hM.mem i h2
      have h4 := h3
      unfold goes at h4
      simp only [Bool.and_eq_true, decide_eq_true_eq] at h4
      rw [hm] at h4
      have hjk : j = k := by
        rcases Nat.lt_trichotomy j k with h | h | h
        · exact absurd h4.2 (apply_old hkin (hl j hj) h)
        · exact h
        · exact absurd h4.2 (apply_gap hkin (hl j hj) h)
      subst hjk
      obtain ⟨q1, q2⟩ := catchU_go (by omega) h3 h1
      rw [hm] at q2
      obtain ⟨d', r1, r2, r3⟩ := catch_all hc he hl h6 hM m (j + 1) (d.set i true) (by omega) (by rw [List.length_set]; exact hd) (fun i2 hi2 hd2 => by
        by_cases e : i2 = i
        · exact ⟨j, by omega, by rw [e]; exact hm⟩
        · rw [getD_set_ne e] at hd2
          obtain ⟨j2, g1, g2⟩ := hg i2 hi2 hd2
          exact ⟨j2, by omega, g2⟩) (by omega)
      exact ⟨d', q2.trans r1, r2, r3⟩
theorem cf_append : ∀ a b : List Bool, cf (a ++ b) = cf a + cf b
  | [], b => (Nat.zero_add _).symm
  | true :: a, b => cf_append a b
  | false :: a, b => by
    show cf (a ++ b) + 1 = cf a + 1 + cf b
    rw [cf_append a b]
    omega
theorem leftU_cf (d : List Bool) : ∀ k, k ≤ d.length → (leftU d k).length = cf (d.take k)
  | 0, _ => by rw [List.take_zero]; rfl
  | k + 1, hk => by
    rw [leftU_succ, take_succ_getD (d := false) (show k < d.length by omega), cf_append, List.length_append, leftU_cf d k (by omega)]
    cases d.getD k false <;> rfl
theorem cf_replicate : ∀ m, cf (List.replicate m false) = m
  | 0 => rfl
  | m + 1 => congrArg (· + 1) (cf_replicate m)
theorem catch_mix {c : SChart} {l M : List SUpdate} (hc : chOk c) (he : c.Edition ≤ 3) (hl : GoodL c l) (h6 : l.length ≤ 6) (hM : Mix l M) (hlen : M.length = l.length + 1) : (catchR c M).1 = chartU c l l.length ∧ (catchR c M).2.length = 1 := by
  obtain ⟨d', r1, r2, r3⟩ := catch_all hc he hl h6 hM l.length 0 (List.replicate M.length false) (by omega) List.length_replicate (fun i hi hd => by
    rw [getD_eq (by rw [List.length_replicate]; exact hi), List.getElem_replicate] at hd
    cases hd) (by rw [cf_replicate]; omega)
  have hE : catchE c M = (chartU c l l.length, d') := r1
  unfold catchR
  rw [if_neg (by omega), hE]
  refine ⟨rfl, ?_⟩
  show (leftU d' M.length).length = 1
  rw [← r2, leftU_cf d' _ (Nat.le_refl _), List.take_length]
  omega
theorem mix_of {l M : List SUpdate} (h1 : ∀ u ∈ M, ∃ j, j < l.length ∧ u = l.getD j dSUpdate) (h2 : ∀ j, j < l.length → l.getD j dSUpdate ∈ M) : Mix l M :=
  ⟨fun i hi => h1 _ (getD_mem hi), fun j hj => by
    obtain ⟨i, hi, e⟩ := List.getElem_of_mem (h2 j hj)
    exact ⟨i, hi, by rw [getD_eq hi]; exact e⟩⟩
theorem same_self {n : Nat} (a : List Int) (ha : a.length ≤ 1048576) (hn : 1000000000 < n) : laws_sameInts n a a = some true := by
  unfold laws_sameInts
  rw [decide_eq_true rfl, Bool.not_true, cond_false]
  refine loopN_ind (fun x => a.length - x.toNat) (fun x => ∃ k : Nat, k ≤ a.length ∧ x = (k : Int)) (fun x r => r = some true) ?_ n _ ⟨0, by omega, rfl⟩ (by simp; omega)
  rintro _ J ⟨k, hk, rfl⟩ ih
  unfold laws_sameInts_L4
  by_cases h : k < a.length
  · rw [decide_eq_true (show (k : Int) < (a.length : Int) by omega), cond_true, ix_nat h, ix_nat h, decide_eq_true rfl, Bool.not_true, cond_false, w64_succ (by omega)]
    exact ih _ ⟨k + 1, h, rfl⟩ (by simp; omega)
  · have : k = a.length := by omega
    subst this
    rw [decide_eq_false (Int.lt_irrefl _), cond_false]
theorem ok_w {c : SChart} (h : chOk c) : w_SChart c ≤ 2000 := by
  have h1 := (ci_of h).dl
  have h2 := (ci_of h).len
  have h3 := sumOf_tx (tx_of h)
  show c.Depths.length + (c.Features.length + sumOf (fun y => w_SFeature y) c.Features) ≤ 2000
  omega
theorem depthAt_ok {n : Nat} {s : SChart} (h : chOk s) (hd : 1 ≤ s.Depths.length) (hn : 1000000000 < n) : impl_DepthAt n s 0 0 = some (s.Depths.getD 0 0, true) := by
  have h1 := (ci_of h).dl
  have h2 := (ci_of h).len
  obtain ⟨o1, o2, _⟩ := id h
  have hp : placeOk s 0 0 = true := by
    unfold placeOk
    rw [w64_id (by omega) (by omega), w64_id (by omega) (by omega)]
    simp only [Bool.and_eq_true, decide_eq_true_eq]
    omega
  unfold impl_DepthAt
  rw [ch_impl s (by omega) (by omega) hn, Option.bind_some, decide_eq_true h, Bool.not_true, cond_false, place_impl, Option.bind_some, hp, Bool.not_true, cond_false, bd_eq, show w64 (w64 (0 * s.Wide) + 0) = ((0 : Nat) : Int) from by rw [Int.zero_mul]; decide, ix_nat (by omega)]
  rfl
end Go.Sm
end

section
set_option linter.unusedSimpArgs false
set_option linter.deprecated false
set_option linter.unusedSectionVars false
set_option linter.unusedVariables false
set_option linter.unusedSimpArgs false
namespace Go.Sm
attribute [local irreducible] bd chk ix loopN
theorem chk_all {R : Type} {p : Prop} [Decidable p] {x : Option R} (h : p) : chk (decide p) x = x := chk_dec h
theorem caught_end {n : Nat} {c s : SChart} {l : List SUpdate} (hc : chOk c) (he : c.Edition ≤ 3) (hl : GoodL c l) (hl1 : 1 ≤ l.length) (hs : chOk s) (hd : 1 ≤ s.Depths.length) (hn : 1000000000 < n) :
    laws_FnCaught_k2 n l c s s.Wide s.High s.Edition s.Depths s.Features = some true := by
  have hu := hl 0 (by omega)
  have h1 := hu.ed
  have h2 := hu.len
  have h3 := hc.2.2.2.2.1
  have h4 := (ci_of hc).dl
  have h5 := (ci_of hc).len
  unfold laws_FnCaught_k2
  rw [show ix (0 : Int) l.length = ix ((0 : Nat) : Int) l.length from rfl, ix_nat (by omega), bd_eq, bd_eq, w64_id (by omega) (by omega), apply_impl c _ (by omega) (by omega) hn, Option.bind_some]
  have hR : applyR c ⟨(l.getD 0 dSUpdate).Edition + 5, (l.getD 0 dSUpdate).Notes⟩ = (c, 3) := by
    unfold applyR
    dsimp only
    rw [if_pos hc, if_pos (by omega), if_neg (by omega), if_pos (by omega)]
  have e1 : impl_DepthAt n (⟨s.Wide, s.High, s.Depths, s.Features, s.Edition⟩ : SChart) 0 0 = some (s.Depths.getD 0 0, true) := depthAt_ok hs hd hn
  rw [hR, e1, Option.bind_some, decide_eq_true rfl, cond_true, decide_eq_true rfl, cond_true, cond_true, show ix (0 : Int) s.Depths.length = ix ((0 : Nat) : Int) s.Depths.length from rfl, ix_nat (by omega), decide_eq_true rfl]
theorem laws_FnCaught_true (code0 : List Int) (h0 : (code0.length ≤ 9223372036854775807 ∧ ∀ y ∈ code0, rng 0 255 y)) : ∃ n, laws_FnCaught n code0 = some true := by
  refine ⟨1000000001, ?_⟩
  generalize hN : (1000000001 : Nat) = n
  have hn : 1000000000 < n := by omega
  unfold laws_FnCaught laws_big
  rw [Option.bind_some]
  by_cases hb : (code0.length : Int) > 1048576
  · rw [decide_eq_true hb]
    rfl
  rw [decide_eq_false hb, cond_false]
  unfold laws_FnCaught_k3
  obtain ⟨c, l, e0, ⟨hc, he, hd⟩, ⟨hl1, hl6⟩, hl⟩ := draw_editions (n := n) code0 (by omega) hn
  rw [e0, Option.bind_some]
  dsimp only
  have hend := str_kin hc he hl hl6 l.length (Nat.le_refl _)
  have hdl : 1 ≤ (chartU c l l.length).Depths.length := by
    have h1 := (ci_of hend.ok).dep
    have h2 := (ci_of hend.ok).wide
    have h3 := (ci_of hend.ok).high
    have h4 : 1 * 1 ≤ (chartU c l l.length).Wide * (chartU c l l.length).High := Int.mul_le_mul h2.1 h3.1 (by omega) (by omega)
    omega
  refine loopN_ind (fun x => l.length - x.1.toNat) (fun x => ∃ k : Nat, k ≤ l.length ∧ x = ((k : Int), chartU c l k)) (fun x r => r = some true) ?_ n _ ⟨0, by omega, rfl⟩ (by simp; omega)
  rintro _ J ⟨k, hk, rfl⟩ ih
  unfold laws_FnCaught_L6
  dsimp only at ih ⊢
  by_cases h : k < l.length
  · have hkin := str_kin hc he hl hl6 k (by omega)
    have h4 := (ci_of hkin.ok).dl
    have h5 := (ci_of hkin.ok).len
    rw [decide_eq_true (show (k : Int) < (l.length : Int) by omega), cond_true]
    unfold laws_FnCaught_k0
    rw [ix_nat h, Int.toNat_natCast, chk_dec h, bd_eq, chk_dec h]
    have e1 : impl_Apply6 n (chartU c l k) (⟨(l.getD k dSUpdate).Edition, (l.getD k dSUpdate).Notes⟩ : SUpdate) = some (applyR (chartU c l k) (l.getD k dSUpdate)) := apply_impl _ _ (by omega) (by omega) hn
    rw [e1, Option.bind_some, decide_eq_true (apply_at hkin he (by omega) (hl k h)).1, Bool.not_true, cond_false, w64_succ (by omega)]
    exact ih _ ⟨k + 1, h, rfl⟩ (by simp; omega)
  have : k = l.length := by omega
  subst this
  rw [decide_eq_false (Int.lt_irrefl _), cond_false]
  clear ih J
  refine loopN_ind (fun x => l.length - x.1.toNat) (fun x => ∃ (k : Nat) (M : List SUpdate), k ≤ l.length ∧ x = ((k : Int), M) ∧ M.length = k ∧ (∀ u ∈ M, ∃ j, j < l.length ∧ u = l.getD j dSUpdate) ∧ ∀ j, j < k → l.getD j dSUpdate ∈ M) (fun x r => r = some true) ?_ n _
    ⟨0, [], by omega, rfl, rfl, (fun u hu => by cases hu), fun j hj => absurd hj (Nat.not_lt_zero _)⟩ (by simp; omega)
  rintro _ J ⟨k, M, hk, rfl, hM, hmem, hall⟩ ih
  unfold laws_FnCaught_L14
  dsimp only at ih ⊢
  by_cases h : k < l.length
  · rw [decide_eq_true (show (k : Int) < (l.length : Int) by omega), cond_true]
    unfold laws_FnCaught_k1
    obtain ⟨v, e1, a1⟩ := at_okB (n := n) code0 (by omega) h0.2 (i := (k : Int)) (by omega)
    rw [e1, Option.bind_some, bd_eq, w64_succ (by omega), decide_eq_false (show ¬ ((M.length + 1 : Nat) : Int) = 0 by omega), cond_false]
    obtain ⟨t, ht, htl⟩ : ∃ t : Nat, Int.tmod v ((M.length + 1 : Nat) : Int) = (t : Int) ∧ t ≤ M.length := by
      have b1 := Int.tmod_nonneg ((M.length + 1 : Nat) : Int) a1.1
      have b2 := Int.tmod_lt_of_pos v (show (0 : Int) < ((M.length + 1 : Nat) : Int) by omega)
      exact ⟨(Int.tmod v ((M.length + 1 : Nat) : Int)).toNat, by omega, by omega⟩
    have e2 : (M.drop t).take (M.length - t) = M.drop t := List.take_of_length_le (by rw [List.length_drop]; omega)
    rw [ht]
    simp only [Int.toNat_natCast, List.drop_zero, Nat.sub_zero, Nat.zero_add, e2, bd_eq]
    rw [chk_dec (by omega), chk_dec (by omega), chk_dec (by omega), chk_dec (by rw [List.length_take]; omega), ix_nat h, chk_dec (by rw [List.length_append, List.length_take, List.length_singleton]; omega), chk_dec (by omega), chk_dec (by omega), chk_dec (by omega), chk_dec (by rw [List.length_append, List.length_append, List.length_take, List.length_singleton, List.length_drop]; omega), w64_succ (by omega)]
    refine ih _ ⟨k + 1, _, h, rfl, by rw [List.length_append, List.length_append, List.length_take, List.length_singleton, List.length_drop]; omega, fun u hu => ?_, fun j hj => ?_⟩ (by simp; omega)
    · rcases List.mem_append.1 hu with h1 | h1
      · rcases List.mem_append.1 h1 with h2 | h2
        · exact hmem u (List.mem_of_mem_take h2)
        · exact ⟨k, h, List.mem_singleton.1 h2⟩
      · exact hmem u (List.mem_of_mem_drop h1)
    · by_cases e : j = k
      · rw [e]
        exact List.mem_append_left _ (List.mem_append_right _ (List.mem_singleton.2 rfl))
      · have h1 := hall j (by omega)
        rw [← List.take_append_drop t M] at h1
        rcases List.mem_append.1 h1 with h2 | h2
        · exact List.mem_append_left _ (List.mem_append_left _ h2)
        · exact List.mem_append_right _ h2
  have hkl : k = l.length := by omega
  subst hkl
  rw [decide_eq_false (Int.lt_irrefl _), cond_false]
  clear ih J
  obtain ⟨v, e1, a1⟩ := at_okB (n := n) code0 (by omega) h0.2 (i := 9) (by omega)
  obtain ⟨t, ht, htl⟩ : ∃ t : Nat, Int.tmod v (l.length : Int) = (t : Int) ∧ t < l.length := by
    have b1 := Int.tmod_nonneg (l.length : Int) a1.1
    have b2 := Int.tmod_lt_of_pos v (show (0 : Int) < (l.length : Int) by omega)
    exact ⟨(Int.tmod v (l.length : Int)).toNat, by omega, by omega⟩
  rw [e1, Option.bind_some, decide_eq_false (show ¬ (l.length : Int) = 0 by omega), cond_false, bd_eq, ht, ix_nat htl, bd_eq, Int.toNat_natCast, chk_dec (by rw [List.length_append, List.length_singleton]; omega)]
  have hw := ok_w hc
  have hmix : Mix l (M ++ [l.getD t dSUpdate]) := mix_of (fun u hu => by
    rcases List.mem_append.1 hu with h1 | h1
    · exact hmem u h1
    · exact ⟨t, htl, List.mem_singleton.1 h1⟩) (fun j hj => List.mem_append_left _ (hall j hj))
  obtain ⟨g1, g2⟩ := catch_mix hc he hl hl6 hmix (by rw [List.length_append, List.length_singleton, hM])
  rw [catch_impl (by omega) _ hn, Option.bind_some, g1, g2]
  have h4 := (ci_of hend.ok).dl
  have h5 := (ci_of hend.ok).len
  rw [decide_eq_true (show ((1 : Nat) : Int) = 1 from rfl), Bool.not_true, cond_false, decide_eq_true rfl, Bool.not_true, cond_false, same_self _ (by omega) hn, Option.bind_some, Bool.not_true, cond_false, ch_impl _ (by omega) (by omega) hn, Option.bind_some, decide_eq_true hend.ok, Bool.not_true, cond_false]
  exact caught_end hc he hl hl1 hend.ok hdl hn
end Go.Sm
end
