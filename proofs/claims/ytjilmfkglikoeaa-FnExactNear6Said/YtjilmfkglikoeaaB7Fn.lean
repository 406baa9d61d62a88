import Derived.Test.YtjilmfkglikoeaaEngE
import Derived.Test.YtjilmfkglikoeaaEngA
/- The functions as plain functions over data, and that the law answers true for all arguments. Near6: the features near a place by the written-out way and by the built one are the same, for every chart and place. -/
set_option linter.unusedSimpArgs false
set_option linter.deprecated false
set_option linter.unusedSectionVars false
set_option linter.unusedVariables false
noncomputable section
namespace Go.Sm
structure SFeature where
  Id : Int
  Kind : Int
  X : Int
  Y : Int
  Text : ByteArray
structure SChart where
  Wide : Int
  High : Int
  Depths : List Int
  Features : List SFeature
  Edition : Int
structure SArr2_Int where
  x0 : Int
  x1 : Int
def dSFeature : SFeature := ⟨(0 : Int), (0 : Int), (0 : Int), (0 : Int), str []⟩
def dSChart : SChart := ⟨(0 : Int), (0 : Int), [], [], (0 : Int)⟩
def dSArr2_Int : SArr2_Int := ⟨(0 : Int), (0 : Int)⟩
def laws_szIntS (n : Nat) (a0 : List Int) (left1 : Int) : Option Int :=
  (bd (w64 (left1 - (a0.length : Int))) fun (v1 : Int) => (bif (decide (v1 < (0 : Int))) then some ((-1 : Int)) else some (v1)))
def laws_szFeature (n : Nat) (a0 : SFeature) (left1 : Int) : Option Int :=
  (bd (w64 (left1 - (a0.Text.size : Int))) fun (v1 : Int) => (bif (decide (v1 < (0 : Int))) then some ((-1 : Int)) else some (v1)))
def laws_szFeatureS_L5 {R : Type} (n : Nat) (kx0 : Int → Option R) (kxr : Int → Option R) (J : Int → Int → Option R) (a3 : List SFeature) (left4 : Int) (i5 : Int) : Option R :=
  (bif (decide (i5 < (a3.length : Int))) then ix i5 a3.length ((bd (a3.getD i5.toNat dSFeature) fun (e12 : SFeature) => (laws_szFeature n e12 left4).bind fun r13 => (bif (decide (r13 < (0 : Int))) then kxr (-1 : Int) else J r13 (w64 (i5 + (1 : Int)))))) else kx0 left4)
def laws_szFeatureS (n : Nat) (a0 : List SFeature) (left1 : Int) : Option Int :=
  (bd (w64 (left1 - (a0.length : Int))) fun (v1 : Int) => (bif (decide (v1 < (0 : Int))) then some ((-1 : Int)) else loopN (fun (x : Int × Int) J' => laws_szFeatureS_L5 n (fun left20 => some (left20)) (fun t21 => some (t21)) (fun left22 i23 => J' (left22, i23)) a0 x.1 x.2) n (v1, (0 : Int))))
def laws_szChart (n : Nat) (a0 : SChart) (left1 : Int) : Option Int :=
  (laws_szIntS n a0.Depths left1).bind fun r1 => (bif (decide (r1 < (0 : Int))) then some ((-1 : Int)) else (laws_szFeatureS n a0.Features r1).bind fun r5 => (bif (decide (r5 < (0 : Int))) then some ((-1 : Int)) else some (r5)))
def laws_toIntS_L3 {R : Type} (n : Nat) (kx0 : List Int → Option R) (J : Int → List Int → Option R) (a1 : List Int) (i2 : Int) (out3 : List Int) : Option R :=
  (bif (decide (i2 < (a1.length : Int))) then ix i2 a1.length (ix i2 out3.length (chk (decide (i2.toNat < out3.length)) ((bd (out3.set i2.toNat (a1.getD i2.toNat (0 : Int))) fun (l7 : List Int) => J (w64 (i2 + (1 : Int))) l7)))) else kx0 out3)
def laws_toIntS (n : Nat) (a0 : List Int) : Option (List Int) :=
  chk (decide ((0 : Int) ≤ (a0.length : Int))) (chk (decide ((a0.length : Int) ≤ (a0.length : Int))) (chk (decide ((a0.length : Int) ≤ 9223372036854775807 ∧ (a0.length : Int) * (8 : Int) ≤ 281474976710656)) (loopN (fun (x : Int × List Int) J' => laws_toIntS_L3 n (fun out8 => some (out8)) (fun i9 out10 => J' (i9, out10)) a0 x.1 x.2) n ((0 : Int), (List.replicate (a0.length : Int).toNat (0 : Int))))))
def laws_toFeature (n : Nat) (a0 : SFeature) : Option SFeature :=
  some (a0)
def laws_toFeatureS_L3 {R : Type} (n : Nat) (kx0 : List SFeature → Option R) (J : Int → List SFeature → Option R) (a1 : List SFeature) (i2 : Int) (out3 : List SFeature) : Option R :=
  (bif (decide (i2 < (a1.length : Int))) then ix i2 a1.length ((bd (a1.getD i2.toNat dSFeature) fun (e8 : SFeature) => (laws_toFeature n e8).bind fun r9 => ix i2 out3.length (chk (decide (i2.toNat < out3.length)) (J (w64 (i2 + (1 : Int))) (out3.set i2.toNat r9))))) else kx0 out3)
def laws_toFeatureS (n : Nat) (a0 : List SFeature) : Option (List SFeature) :=
  chk (decide ((0 : Int) ≤ (a0.length : Int))) (chk (decide ((a0.length : Int) ≤ (a0.length : Int))) (chk (decide ((a0.length : Int) ≤ 9223372036854775807 ∧ (a0.length : Int) * (48 : Int) ≤ 281474976710656)) (loopN (fun (x : Int × List SFeature) J' => laws_toFeatureS_L3 n (fun out10 => some (out10)) (fun i11 out12 => J' (i11, out12)) a0 x.1 x.2) n ((0 : Int), (List.replicate (a0.length : Int).toNat dSFeature)))))
def laws_toChart (n : Nat) (a0 : SChart) : Option SChart :=
  (laws_toIntS n a0.Depths).bind fun r1 => (laws_toFeatureS n a0.Features).bind fun r2 => some ((⟨a0.Wide, a0.High, r1, r2, a0.Edition⟩ : SChart))
def spec_l1In (n : Nat) (x0 : Int) (a1 : Int) (b2 : Int) : Option Bool :=
  (bif (decide (x0 ≥ a1)) then some ((decide (x0 ≤ b2))) else some (false))
def spec_l6Depth (n : Nat) (d0 : Int) : Option Bool :=
  (spec_l1In n d0 (-1000 : Int) (10000 : Int)).bind fun r1 => some (r1)
def spec_l6Place (n : Nat) (c0 : SChart) (x1 : Int) (y2 : Int) : Option Bool :=
  (bd (w64 (c0.Wide - (1 : Int))) fun (v1 : Int) => (spec_l1In n x1 (0 : Int) v1).bind fun r2 => (bif r2 then (bd (w64 (c0.High - (1 : Int))) fun (v3 : Int) => (spec_l1In n y2 (0 : Int) v3).bind fun r4 => some (r4)) else some (false)))
def spec_l6Feature (n : Nat) (c0 : SChart) (f1 : SFeature) : Option Bool :=
  (spec_l1In n f1.Id (1 : Int) (1000000 : Int)).bind fun r1 => (bif r1 then (spec_l1In n f1.Kind (1 : Int) (9 : Int)).bind fun r2 => (bif r2 then (spec_l6Place n c0 f1.X f1.Y).bind fun r3 => (bif r3 then some ((decide ((f1.Text.size : Int) ≤ (40 : Int)))) else some (false)) else some (false)) else some (false))
def spec_ChartOk_L4 {R : Type} (n : Nat) (kx0 : Option R) (kxr : Bool → Option R) (J : Int → Option R) (i12 : Int) (c13 : SChart) : Option R :=
  (bif (decide (i12 < (c13.Depths.length : Int))) then ix i12 c13.Depths.length ((spec_l6Depth n (c13.Depths.getD i12.toNat (0 : Int))).bind fun r17 => (bif (!r17) then kxr false else J (w64 (i12 + (1 : Int))))) else kx0)
def spec_ChartOk_k0 {R : Type} (n : Nat) (kx2 : Option R) (kxr : Bool → Option R) (J : Int → Option R) (i21 : Int) (c20 : SChart) : Option R :=
  ix i21 c20.Features.length ((bd (c20.Features.getD i21.toNat dSFeature) fun (e22 : SFeature) => (spec_l6Feature n c20 e22).bind fun r23 => (bif (!r23) then kxr false else (bif (decide (i21 > (0 : Int))) then ix (w64 (i21 - (1 : Int))) c20.Features.length ((bd (c20.Features.getD ((w64 (i21 - (1 : Int))).toNat) dSFeature) fun (e25 : SFeature) => ix i21 c20.Features.length ((bd (c20.Features.getD i21.toNat dSFeature) fun (e26 : SFeature) => (bif (decide (e25.Id ≥ e26.Id)) then kxr false else J (w64 (i21 + (1 : Int)))))))) else J (w64 (i21 + (1 : Int)))))))
def spec_ChartOk_L9 {R : Type} (n : Nat) (kx2 : Option R) (kxr : Bool → Option R) (J : Int → Option R) (i19 : Int) (c20 : SChart) : Option R :=
  (bif (decide (i19 < (c20.Features.length : Int))) then spec_ChartOk_k0 n kx2 kxr J i19 c20 else kx2)
def spec_ChartOk (n : Nat) (c0 : SChart) : Option Bool :=
  (spec_l1In n c0.Wide (1 : Int) (12 : Int)).bind fun r1 => (bif (!r1) then some (false) else (spec_l1In n c0.High (1 : Int) (12 : Int)).bind fun r3 => (bif (!r3) then some (false) else (bd (w64 (c0.Wide * c0.High)) fun (v5 : Int) => (bif (!(decide ((c0.Depths.length : Int) = v5))) then some (false) else (bif (decide ((c0.Features.length : Int) > (30 : Int))) then some (false) else (spec_l1In n c0.Edition (0 : Int) (1000000 : Int)).bind fun r8 => (bif (!r8) then some (false) else loopN (fun (x : Int) J' => spec_ChartOk_L4 n (loopN (fun (x : Int) J' => spec_ChartOk_L9 n (some (true)) (fun t43 => some (t43)) J' x c0) n ((0 : Int))) (fun t45 => some (t45)) J' x c0) n ((0 : Int))))))))
def spec_l3Size (n : Nat) (x0 : Int) : Option Int :=
  (bif (decide (x0 < (0 : Int))) then some ((w64 (0 - x0))) else some (x0))
def spec_Near6_k0 {R : Type} (n : Nat) (kx2 : List Int → Option R) (J : Int → List Int → Option R) (x17 : Int) (y18 : Int) (far19 : Int) (d20 : Int) (i24 : Int) (c22 : SChart) (out25 : List Int) : Option R :=
  ix i24 c22.Features.length ((bd (c22.Features.getD i24.toNat dSFeature) fun (e26 : SFeature) => (spec_l3Size n (w64 (e26.X - x17))).bind fun r27 => (spec_l3Size n (w64 (e26.Y - y18))).bind fun r28 => (bif (decide ((w64 (r27 + r28)) = d20)) then chk (decide ((out25 ++ [e26.Id]).length * 8 ≤ 140737488355328)) (J (w64 (i24 + (1 : Int))) (out25 ++ [e26.Id])) else J (w64 (i24 + (1 : Int))) out25)))
def spec_Near6_L8 {R : Type} (n : Nat) (kx2 : List Int → Option R) (J : Int → List Int → Option R) (x17 : Int) (y18 : Int) (far19 : Int) (d20 : Int) (i21 : Int) (c22 : SChart) (out23 : List Int) : Option R :=
  (bif (decide (i21 < (c22.Features.length : Int))) then spec_Near6_k0 n kx2 J x17 y18 far19 d20 i21 c22 out23 else kx2 out23)
def spec_Near6_L5 {R : Type} (n : Nat) (kx0 : List Int → Option R) (J : Int → List Int → Option R) (x9 : Int) (y10 : Int) (far11 : Int) (d12 : Int) (c13 : SChart) (out14 : List Int) : Option R :=
  (bif (decide (d12 ≤ far11)) then loopN (fun (x : Int × List Int) J' => spec_Near6_L8 n (fun out36 => J (w64 (d12 + (1 : Int))) out36) (fun i37 out38 => J' (i37, out38)) x9 y10 far11 d12 x.1 c13 x.2) n ((0 : Int), out14) else kx0 out14)
def spec_Near6 (n : Nat) (c0 : SChart) (x1 : Int) (y2 : Int) (far3 : Int) : Option (List Int) :=
  (spec_ChartOk n c0).bind fun r1 => (bif (!r1) then some ([]) else (spec_l6Place n c0 x1 y2).bind fun r3 => (bif (!r3) then some ([]) else (spec_l1In n far3 (0 : Int) (100 : Int)).bind fun r5 => (bif (!r5) then some ([]) else loopN (fun (x : Int × List Int) J' => spec_Near6_L5 n (fun out46 => some (out46)) (fun d47 out48 => J' (d47, out48)) x1 y2 far3 x.1 c0 x.2) n ((0 : Int), []))))
def impl_in (n : Nat) (n0 : Int) (least1 : Int) (most2 : Int) : Option Bool :=
  (bif (decide (n0 ≥ least1)) then some ((decide (n0 ≤ most2))) else some (false))
def impl_all_1 (n : Nat) (n0 : Int) (a1 : Int) (a2 : Int) : Option Bool :=
  (impl_in n n0 a1 a2).bind fun r1 => some ((!r1))
def slices_IndexFunc_int_int__impl_all_1_L2 {R : Type} (n : Nat) (kx0 : Option R) (kxr : Int → Option R) (J : Int → Option R) (s1 : List Int) (f2 : Int) (f3 : Int) (t4 : Int) (t5 : Int) : Option R :=
  (bif (decide (t5 < t4)) then ix t5 s1.length ((impl_all_1 n (s1.getD t5.toNat (0 : Int)) f2 f3).bind fun r9 => (bif r9 then kxr t5 else J (w64 (t5 + (1 : Int))))) else kx0)
def slices_IndexFunc_int_int__impl_all_1 (n : Nat) (s0 : List Int) (f1c0 : Int) (f1c1 : Int) : Option Int :=
  loopN (fun (x : Int) J' => slices_IndexFunc_int_int__impl_all_1_L2 n (some ((-1 : Int))) (fun t11 => some (t11)) J' s0 f1c0 f1c1 (s0.length : Int) x) n ((0 : Int))
def slices_ContainsFunc_int_int__impl_all_1 (n : Nat) (s0 : List Int) (f1c0 : Int) (f1c1 : Int) : Option Bool :=
  (slices_IndexFunc_int_int__impl_all_1 n s0 f1c0 f1c1).bind fun r1 => some ((decide (r1 ≥ (0 : Int))))
def impl_all (n : Nat) (l0 : List Int) (least1 : Int) (most2 : Int) : Option Bool :=
  (slices_ContainsFunc_int_int__impl_all_1 n l0 least1 most2).bind fun r1 => some ((!r1))
def impl_Chart_place (n : Nat) (c0 : SChart) (x1 : Int) (y2 : Int) : Option Bool :=
  (bd (w64 (c0.Wide - (1 : Int))) fun (v1 : Int) => (impl_in n x1 (0 : Int) v1).bind fun r2 => (bif r2 then (bd (w64 (c0.High - (1 : Int))) fun (v3 : Int) => (impl_in n y2 (0 : Int) v3).bind fun r4 => some (r4)) else some (false)))
def impl_Chart_featureOk (n : Nat) (c0 : SChart) (f1 : SFeature) : Option Bool :=
  (impl_in n f1.Id (1 : Int) (1000000 : Int)).bind fun r1 => (bif r1 then (impl_in n f1.Kind (1 : Int) (9 : Int)).bind fun r2 => (bif r2 then (impl_Chart_place n c0 f1.X f1.Y).bind fun r3 => (bif r3 then some ((decide ((f1.Text.size : Int) ≤ (40 : Int)))) else some (false)) else some (false)) else some (false))
def impl_ChartOk_k0 {R : Type} (n : Nat) (kx0 : Option R) (kxr : Bool → Option R) (J : Int → Option R) (t14 : List SFeature) (t15 : Int) (t18 : Int) (c17 : SChart) : Option R :=
  ix t18 t14.length ((bd (t14.getD t18.toNat dSFeature) fun (e19 : SFeature) => (impl_Chart_featureOk n c17 e19).bind fun r20 => (bif (!r20) then kxr false else (bif (decide (t18 > (0 : Int))) then ix (w64 (t18 - (1 : Int))) c17.Features.length ((bd (c17.Features.getD ((w64 (t18 - (1 : Int))).toNat) dSFeature) fun (e22 : SFeature) => (bif (decide (e22.Id ≥ e19.Id)) then kxr false else J (w64 (t18 + (1 : Int)))))) else J (w64 (t18 + (1 : Int)))))))
def impl_ChartOk_L4 {R : Type} (n : Nat) (kx0 : Option R) (kxr : Bool → Option R) (J : Int → Option R) (t14 : List SFeature) (t15 : Int) (t16 : Int) (c17 : SChart) : Option R :=
  (bif (decide (t16 < t15)) then impl_ChartOk_k0 n kx0 kxr J t14 t15 t16 c17 else kx0)
def impl_ChartOk (n : Nat) (c0 : SChart) : Option Bool :=
  (impl_in n c0.Wide (1 : Int) (12 : Int)).bind fun r1 => (bif (!r1) then some (false) else (impl_in n c0.High (1 : Int) (12 : Int)).bind fun r3 => (bif (!r3) then some (false) else (bd (w64 (c0.Wide * c0.High)) fun (v5 : Int) => (bif (!(decide ((c0.Depths.length : Int) = v5))) then some (false) else (impl_all n c0.Depths (-1000 : Int) (10000 : Int)).bind fun r7 => (bif (!r7) then some (false) else (bif (decide ((c0.Features.length : Int) > (30 : Int))) then some (false) else (impl_in n c0.Edition (0 : Int) (1000000 : Int)).bind fun r10 => (bif (!r10) then some (false) else loopN (fun (x : Int) J' => impl_ChartOk_L4 n (some (true)) (fun t35 => some (t35)) J' c0.Features (c0.Features.length : Int) x c0) n ((0 : Int)))))))))
def impl_size (n : Nat) (n0 : Int) : Option Int :=
  (bif (decide (n0 < (0 : Int))) then some ((w64 (0 - n0))) else some (n0))
def cmp_isNaN_int (n : Nat) (x0 : Int) : Option Bool :=
  some ((!(decide (x0 = x0))))
def cmp_Compare_int (n : Nat) (x0 : Int) (y1 : Int) : Option Int :=
  (cmp_isNaN_int n x0).bind fun r1 => (cmp_isNaN_int n y1).bind fun r2 => (bif r1 then (bif r2 then some ((0 : Int)) else some ((-1 : Int))) else (bif r2 then some ((1 : Int)) else (bif (decide (x0 < y1)) then some ((-1 : Int)) else (bif (decide (x0 > y1)) then some ((1 : Int)) else some ((0 : Int))))))
def slices_Compare_int_int_k0 {R : Type} (n : Nat) (kx0 : Option R) (kxr : Int → Option R) (J : Int → Option R) (s11 : List Int) (s22 : List Int) (t3 : List Int) (t4 : Int) (t6 : Int) : Option R :=
  ix t6 t3.length ((bif (decide (t6 ≥ (s22.length : Int))) then kxr (1 : Int) else ix t6 s22.length ((cmp_Compare_int n (t3.getD t6.toNat (0 : Int)) (s22.getD t6.toNat (0 : Int))).bind fun r12 => (bif (!(decide (r12 = (0 : Int)))) then kxr r12 else J (w64 (t6 + (1 : Int)))))))
def slices_Compare_int_int_L2 {R : Type} (n : Nat) (kx0 : Option R) (kxr : Int → Option R) (J : Int → Option R) (s11 : List Int) (s22 : List Int) (t3 : List Int) (t4 : Int) (t5 : Int) : Option R :=
  (bif (decide (t5 < t4)) then slices_Compare_int_int_k0 n kx0 kxr J s11 s22 t3 t4 t5 else kx0)
def slices_Compare_int_int (n : Nat) (s10 : List Int) (s21 : List Int) : Option Int :=
  loopN (fun (x : Int) J' => slices_Compare_int_int_L2 n ((bif (decide ((s10.length : Int) < (s21.length : Int))) then some ((-1 : Int)) else some ((0 : Int)))) (fun t14 => some (t14)) J' s10 s21 s10 (s10.length : Int) x) n ((0 : Int))
def impl_Near6_1 (n : Nat) (a0 : SArr2_Int) (b1 : SArr2_Int) : Option Int :=
  (slices_Compare_int_int n [a0.x0, a0.x1] [b1.x0, b1.x1]).bind fun r1 => some (r1)
def slices_SortFunc_2_int_2_int__impl_Near6_1 (n : Nat) (l0 : List SArr2_Int) : Option (List SArr2_Int) :=
  sortL dSArr2_Int (fun a b => impl_Near6_1 n a b) l0
def impl_own_int (n : Nat) (l0 : List Int) : Option (List Int) :=
  chk (decide ((0 : Int) ≤ (l0.length : Int))) (chk (decide ((l0.length : Int) ≤ 9223372036854775807 ∧ (l0.length : Int) * (8 : Int) ≤ 281474976710656)) (chk (decide (l0.length * 8 ≤ 140737488355328)) (some (l0))))
def impl_Near6_k0 {R : Type} (n : Nat) (kx0 : List SArr2_Int → Option R) (J : Int → List SArr2_Int → Option R) (x9 : Int) (y10 : Int) (far11 : Int) (t12 : List SFeature) (t13 : Int) (t16 : Int) (l17 : List SArr2_Int) : Option R :=
  ix t16 t12.length ((bd (t12.getD t16.toNat dSFeature) fun (e18 : SFeature) => (impl_size n (w64 (e18.X - x9))).bind fun r19 => (impl_size n (w64 (e18.Y - y10))).bind fun r20 => (bif (decide ((w64 (r19 + r20)) ≤ far11)) then (bd (l17 ++ [(⟨(w64 (r19 + r20)), e18.Id⟩ : SArr2_Int)]) fun (l21 : List SArr2_Int) => chk (decide (l21.length * 16 ≤ 140737488355328)) (J (w64 (t16 + (1 : Int))) l21)) else J (w64 (t16 + (1 : Int))) l17)))
def impl_Near6_L5 {R : Type} (n : Nat) (kx0 : List SArr2_Int → Option R) (J : Int → List SArr2_Int → Option R) (x9 : Int) (y10 : Int) (far11 : Int) (t12 : List SFeature) (t13 : Int) (t14 : Int) (l15 : List SArr2_Int) : Option R :=
  (bif (decide (t14 < t13)) then impl_Near6_k0 n kx0 J x9 y10 far11 t12 t13 t14 l15 else kx0 l15)
def impl_Near6_L14 {R : Type} (n : Nat) (kx2 : List Int → Option R) (J : Int → List Int → Option R) (t28 : Int) (t29 : Int) (out30 : List Int) (t31 : List SArr2_Int) : Option R :=
  (bif (decide (t29 < t28)) then ix t29 t31.length (chk (decide (t29.toNat < t31.length)) ((bd (t31.getD t29.toNat dSArr2_Int) fun (e35 : SArr2_Int) => chk (decide ((out30 ++ [e35.x1]).length * 8 ≤ 140737488355328)) (J (w64 (t29 + (1 : Int))) (out30 ++ [e35.x1]))))) else kx2 out30)
def impl_Near6_k1 (n : Nat)  (x1 : Int) (y2 : Int) (far3 : Int) (c8 : SChart) : Option (List Int) :=
  loopN (fun (x : Int × List SArr2_Int) J' => impl_Near6_L5 n (fun l26 => (slices_SortFunc_2_int_2_int__impl_Near6_1 n l26).bind fun r27 => loopN (fun (x : Int × List Int) J' => impl_Near6_L14 n (fun out36 => (impl_own_int n out36).bind fun r37 => some (r37)) (fun t38 out39 => J' (t38, out39)) (r27.length : Int) x.1 x.2 r27) n ((0 : Int), [])) (fun t40 l41 => J' (t40, l41)) x1 y2 far3 c8.Features (c8.Features.length : Int) x.1 x.2) n ((0 : Int), [])
def impl_Near6 (n : Nat) (c0 : SChart) (x1 : Int) (y2 : Int) (far3 : Int) : Option (List Int) :=
  (impl_ChartOk n c0).bind fun r1 => (bif (!r1) then some ([]) else (impl_Chart_place n c0 x1 y2).bind fun r3 => (bif (!r3) then some ([]) else (impl_in n far3 (0 : Int) (100 : Int)).bind fun r5 => (bif (!r5) then some ([]) else impl_Near6_k1 n  x1 y2 far3 c0)))
def laws_eqIntS_L4 {R : Type} (n : Nat) (kx0 : Option R) (kxr : Bool → Option R) (J : Int → Option R) (a1 : List Int) (b2 : List Int) (i3 : Int) : Option R :=
  (bif (decide (i3 < (a1.length : Int))) then ix i3 a1.length (ix i3 b2.length ((bif (!(decide ((a1.getD i3.toNat (0 : Int)) = (b2.getD i3.toNat (0 : Int))))) then kxr false else J (w64 (i3 + (1 : Int)))))) else kx0)
def laws_eqIntS (n : Nat) (a0 : List Int) (b1 : List Int) : Option Bool :=
  (bif (!(decide ((a0.length : Int) = (b1.length : Int)))) then some (false) else loopN (fun (x : Int) J' => laws_eqIntS_L4 n (some (true)) (fun t9 => some (t9)) J' a0 b1 x) n ((0 : Int)))
def laws_eqFeature (n : Nat) (a0 : SFeature) (b1 : SFeature) : Option Bool :=
  (bif (!(decide (a0.Id = b1.Id))) then some (false) else (bif (!(decide (a0.Kind = b1.Kind))) then some (false) else (bif (!(decide (a0.X = b1.X))) then some (false) else (bif (!(decide (a0.Y = b1.Y))) then some (false) else (bif (!(decide (a0.Text = b1.Text))) then some (false) else some (true))))))
def laws_eqFeatureS_L4 {R : Type} (n : Nat) (kx0 : Option R) (kxr : Bool → Option R) (J : Int → Option R) (a1 : List SFeature) (b2 : List SFeature) (i3 : Int) : Option R :=
  (bif (decide (i3 < (a1.length : Int))) then ix i3 a1.length ((bd (a1.getD i3.toNat dSFeature) fun (e9 : SFeature) => ix i3 b2.length ((bd (b2.getD i3.toNat dSFeature) fun (e10 : SFeature) => (laws_eqFeature n e9 e10).bind fun r11 => (bif (!r11) then kxr false else J (w64 (i3 + (1 : Int)))))))) else kx0)
def laws_eqFeatureS (n : Nat) (a0 : List SFeature) (b1 : List SFeature) : Option Bool :=
  (bif (!(decide ((a0.length : Int) = (b1.length : Int)))) then some (false) else loopN (fun (x : Int) J' => laws_eqFeatureS_L4 n (some (true)) (fun t15 => some (t15)) J' a0 b1 x) n ((0 : Int)))
def laws_eqChart_k0 (n : Nat)  (a0 : SChart) (b1 : SChart) : Option Bool :=
  (bif (!(decide (a0.High = b1.High))) then some (false) else (laws_eqIntS n a0.Depths b1.Depths).bind fun r4 => (bif (!r4) then some (false) else (laws_eqFeatureS n a0.Features b1.Features).bind fun r5 => (bif (!r5) then some (false) else (bif (!(decide (a0.Edition = b1.Edition))) then some (false) else some (true)))))
def laws_eqChart (n : Nat) (a0 : SChart) (b1 : SChart) : Option Bool :=
  (bif (!(decide (a0.Wide = b1.Wide))) then some (false) else laws_eqChart_k0 n  a0 b1)
def laws_markIntS_L2 {R : Type} (n : Nat) (kx0 : Int → List Int → Option R) (J : Int → Int → List Int → Option R) (k1 : Int) (i2 : Int) (p3 : List Int) : Option R :=
  (bif (decide (i2 < (p3.length : Int))) then ix i2 p3.length (chk (decide (i2.toNat < p3.length)) (J (w64 (k1 + (1 : Int))) (w64 (i2 + (1 : Int))) (p3.set i2.toNat k1))) else kx0 k1 p3)
def laws_markIntS (n : Nat) (a0 : List Int) (k1 : Int) : Option (Int × List Int) :=
  loopN (fun (x : Int × Int × List Int) J' => laws_markIntS_L2 n (fun k7 p8 => some (k7, p8)) (fun k9 i10 p11 => J' (k9, i10, p11)) x.1 x.2.1 x.2.2) n (k1, (0 : Int), a0)
def laws_markText_L4 {R : Type} (n : Nat) (kx0 : ByteArray → Option R) (J : Int → ByteArray → Option R) (k2 : Int) (out3 : ByteArray) : Option R :=
  (bif (decide (k2 > (0 : Int))) then (bd (w64 ((48 : Int) + (Int.tmod k2 (10 : Int)))) fun (v8 : Int) => chk (decide ((((bstr [(wu8 v8)]).size + out3.size : Nat) : Int) ≤ 9223372036854775807)) ((bd (w64 (Int.tdiv k2 (10 : Int))) fun (v9 : Int) => J v9 ((bstr [(wu8 v8)]) ++ out3)))) else kx0 out3)
def laws_markText (n : Nat) (k0 : Int) : Option ByteArray :=
  (bif (decide (k0 ≤ (0 : Int))) then some (str [109, 48]) else loopN (fun (x : Int × ByteArray) J' => laws_markText_L4 n (fun out13 => chk (decide ((((str [109]).size + out13.size : Nat) : Int) ≤ 9223372036854775807)) (some ((str [109] ++ out13)))) (fun k14 out15 => J' (k14, out15)) x.1 x.2) n (k0, str []))
def laws_markFeatureS_k0 {R : Type} (n : Nat) (kx0 : Int → List SFeature → Option R) (J : Int → Int → List SFeature → Option R) (k4 : Int) (i5 : Int) (p6 : List SFeature) : Option R :=
  ix i5 p6.length (chk (decide (i5.toNat < p6.length)) ((bd (p6.getD i5.toNat dSFeature) fun (e7 : SFeature) => (bd (p6.set i5.toNat (⟨k4, e7.Kind, e7.X, e7.Y, e7.Text⟩ : SFeature)) fun (l8 : List SFeature) => ix i5 l8.length (chk (decide (i5.toNat < l8.length)) ((bd (l8.getD i5.toNat dSFeature) fun (e9 : SFeature) => (bd (l8.set i5.toNat (⟨e9.Id, (w64 (k4 + (1 : Int))), e9.X, e9.Y, e9.Text⟩ : SFeature)) fun (l10 : List SFeature) => (bd (w64 ((w64 (k4 + (1 : Int))) + (1 : Int))) fun (v11 : Int) => ix i5 l10.length (chk (decide (i5.toNat < l10.length)) ((bd (l10.getD i5.toNat dSFeature) fun (e12 : SFeature) => (bd (l10.set i5.toNat (⟨e12.Id, e12.Kind, v11, e12.Y, e12.Text⟩ : SFeature)) fun (l13 : List SFeature) => ix i5 l13.length (chk (decide (i5.toNat < l13.length)) ((bd (l13.getD i5.toNat dSFeature) fun (e14 : SFeature) => (bd (l13.set i5.toNat (⟨e14.Id, e14.Kind, e14.X, (w64 (v11 + (1 : Int))), e14.Text⟩ : SFeature)) fun (l15 : List SFeature) => (bd (w64 ((w64 (v11 + (1 : Int))) + (1 : Int))) fun (v16 : Int) => (laws_markText n v16).bind fun r17 => ix i5 l15.length (chk (decide (i5.toNat < l15.length)) ((bd (l15.getD i5.toNat dSFeature) fun (e18 : SFeature) => (bd (l15.set i5.toNat (⟨e18.Id, e18.Kind, e18.X, e18.Y, r17⟩ : SFeature)) fun (l19 : List SFeature) => J (w64 (v16 + (1 : Int))) (w64 (i5 + (1 : Int))) l19))))))))))))))))))))))
def laws_markFeatureS_L2 {R : Type} (n : Nat) (kx0 : Int → List SFeature → Option R) (J : Int → Int → List SFeature → Option R) (k1 : Int) (i2 : Int) (p3 : List SFeature) : Option R :=
  (bif (decide (i2 < (p3.length : Int))) then laws_markFeatureS_k0 n kx0 J k1 i2 p3 else kx0 k1 p3)
def laws_markFeatureS (n : Nat) (a0 : List SFeature) (k1 : Int) : Option (Int × List SFeature) :=
  loopN (fun (x : Int × Int × List SFeature) J' => laws_markFeatureS_L2 n (fun k20 p21 => some (k20, p21)) (fun k22 i23 p24 => J' (k22, i23, p24)) x.1 x.2.1 x.2.2) n (k1, (0 : Int), a0)
def laws_markChart (n : Nat) (a0 : SChart) (k1 : Int) : Option (Int × List Int × List SFeature) :=
  (laws_markIntS n a0.Depths k1).bind fun r1 => (laws_markFeatureS n a0.Features r1.1).bind fun r2 => some (r2.1, r1.2, r2.2)
def laws_heldIntS_L2 {R : Type} (n : Nat) (kx0 : Int → Option R) (kxr : Int → Option R) (J : Int → Int → Option R) (a1 : List Int) (k2 : Int) (i3 : Int) : Option R :=
  (bif (decide (i3 < (a1.length : Int))) then ix i3 a1.length ((bif (!(decide ((a1.getD i3.toNat (0 : Int)) = k2))) then kxr (-1 : Int) else J (w64 (k2 + (1 : Int))) (w64 (i3 + (1 : Int))))) else kx0 k2)
def laws_heldIntS (n : Nat) (a0 : List Int) (k1 : Int) : Option Int :=
  loopN (fun (x : Int × Int) J' => laws_heldIntS_L2 n (fun k16 => some (k16)) (fun t17 => some (t17)) (fun k18 i19 => J' (k18, i19)) a0 x.1 x.2) n (k1, (0 : Int))
def laws_FnExactNear6_k0 (n : Nat)  (aX1 : Int) (aY2 : Int) (aFar3 : Int) (m38 : Int) (aC0 : SChart) (t39 : List Int) (t40 : List Int) : Option Bool :=
  (laws_toChart n aC0).bind fun r41 => (impl_Near6 n r41 aX1 aY2 aFar3).bind fun r42 => (laws_eqIntS n r42 t39).bind fun r43 => (bif (!r43) then some (false) else (laws_heldIntS n t40 (1 : Int)).bind fun r49 => (bif (decide (r49 < (0 : Int))) then some (false) else (bif (!(decide (r49 = m38))) then some (false) else some (true))))
def laws_FnExactNear6_k1 (n : Nat)  (aX1 : Int) (aY2 : Int) (aFar3 : Int) (t27 : Bool) (aC0 : SChart) (t28 : List Int) (t29 : List Int) : Option Bool :=
  (bif t27 then some (false) else (laws_markIntS n t29 (1 : Int)).bind fun r55 => (laws_heldIntS n r55.2 (1 : Int)).bind fun r56 => (bif (decide (r56 < (0 : Int))) then some (false) else (bif (!(decide (r56 = r55.1))) then some (false) else laws_FnExactNear6_k0 n  aX1 aY2 aFar3 r55.1 aC0 t28 r55.2)))
def laws_FnExactNear6_k2 (n : Nat)  (aX1 : Int) (aY2 : Int) (aFar3 : Int) (aC0 : SChart) (t7 : List Int) (x08 : Int) (x09 : Int) (x010 : Int) (t11 : List Int) (t12 : List SFeature) (t13 : List Int) : Option Bool :=
  (laws_toChart n aC0).bind fun r14 => (laws_eqChart n (⟨x08, x09, t11, t12, x010⟩ : SChart) r14).bind fun r15 => (bif (!r15) then some (false) else (laws_markChart n (⟨x08, x09, t11, t12, x010⟩ : SChart) (1 : Int)).bind fun r64 => (bif (decide (r64.1 < (0 : Int))) then some (false) else (laws_eqIntS n t13 t7).bind fun r67 => laws_FnExactNear6_k1 n  aX1 aY2 aFar3 (!r67) aC0 t7 t13))
def laws_FnExactNear6_k3 (n : Nat)  (aX1 : Int) (aY2 : Int) (aFar3 : Int) (aC0 : SChart) : Option Bool :=
  (laws_toChart n aC0).bind fun r2 => (spec_Near6 n r2 aX1 aY2 aFar3).bind fun r3 => (laws_toChart n aC0).bind fun r4 => (impl_Near6 n r4 aX1 aY2 aFar3).bind fun r5 => (laws_eqIntS n r5 r3).bind fun r6 => (bif (!r6) then some (false) else laws_FnExactNear6_k2 n  aX1 aY2 aFar3 aC0 r3 r4.Wide r4.High r4.Edition r4.Depths r4.Features r5)
def laws_FnExactNear6 (n : Nat) (aC0 : SChart) (aX1 : Int) (aY2 : Int) (aFar3 : Int) : Option Bool :=
  (laws_szChart n aC0 (1048576 : Int)).bind fun r1 => (bif (decide (r1 < (0 : Int))) then some (true) else laws_FnExactNear6_k3 n  aX1 aY2 aFar3 aC0)
def rng (a b x : Int) : Prop := a ≤ x ∧ x ≤ b
def wfSFeature (x : SFeature) : Prop := rng (-9223372036854775808) 9223372036854775807 x.Id ∧ rng (-9223372036854775808) 9223372036854775807 x.Kind ∧ rng (-9223372036854775808) 9223372036854775807 x.X ∧ rng (-9223372036854775808) 9223372036854775807 x.Y ∧ x.Text.size ≤ 9223372036854775807
def wfSChart (x : SChart) : Prop := rng (-9223372036854775808) 9223372036854775807 x.Wide ∧ rng (-9223372036854775808) 9223372036854775807 x.High ∧ (x.Depths.length ≤ 9223372036854775807 ∧ ∀ y ∈ x.Depths, rng (-9223372036854775808) 9223372036854775807 y) ∧ (x.Features.length ≤ 9223372036854775807 ∧ ∀ y ∈ x.Features, wfSFeature y) ∧ rng (-9223372036854775808) 9223372036854775807 x.Edition
def wfSArr2_Int (x : SArr2_Int) : Prop := rng (-9223372036854775808) 9223372036854775807 x.x0 ∧ rng (-9223372036854775808) 9223372036854775807 x.x1
end Go.Sm

section
set_option linter.unusedSimpArgs false
set_option linter.deprecated false
set_option linter.unusedSectionVars false
set_option linter.unusedVariables false
namespace Go.Sm
/-! ### Of the words that printed functions are made of -/
theorem w64_id {x : Int} (h1 : -9223372036854775808 ≤ x) (h2 : x ≤ 9223372036854775807) : w64 x = x := by
  show (let m := x % (2 ^ 64 : Int); if (true && decide ((2 : Int) ^ 63 ≤ m)) = true then m - 2 ^ 64 else m) = x
  simp only [Bool.true_and, decide_eq_true_eq]
  split <;> omega
theorem w64_rng (x : Int) : -9223372036854775808 ≤ w64 x ∧ w64 x ≤ 9223372036854775807 := by
  show -9223372036854775808 ≤ (let m := x % (2 ^ 64 : Int); if (true && decide ((2 : Int) ^ 63 ≤ m)) = true then m - 2 ^ 64 else m) ∧ (let m := x % (2 ^ 64 : Int); if (true && decide ((2 : Int) ^ 63 ≤ m)) = true then m - 2 ^ 64 else m) ≤ 9223372036854775807
  simp only [Bool.true_and, decide_eq_true_eq]
  split <;> omega
theorem chk_of {R : Type} {b : Bool} {x : Option R} (h : b = true) : chk b x = x := by rw [h]; rfl
theorem chk_true {R : Type} {x : Option R} : chk true x = x := rfl
theorem chk_dec {R : Type} {p : Prop} [Decidable p] {x : Option R} (h : p) : chk (decide p) x = x := chk_of (decide_eq_true h)
theorem ix_of {R : Type} {i : Int} {len : Nat} {x : Option R} (h0 : 0 ≤ i) (h1 : i < (len : Int)) : ix i len x = x := by
  unfold ix
  rw [decide_eq_true h0, decide_eq_true h1]
  rfl
theorem ix_nat {R : Type} {i len : Nat} {x : Option R} (h1 : i < len) : ix (i : Int) len x = x := ix_of (by omega) (by omega)
theorem bif_dec {α : Type} {p : Prop} [Decidable p] {x y : α} : (bif decide p then x else y) = if p then x else y := by
  by_cases h : p <;> simp [h]
theorem bif_not {α : Type} {b : Bool} {x y : α} : (bif !b then x else y) = bif b then y else x := by cases b <;> rfl
theorem bif_and {α : Type} {a b : Bool} {x y : α} : (bif a && b then x else y) = bif a then (bif b then x else y) else y := by cases a <;> rfl
theorem loopN_succ {X R : Type} (b : X → (X → Option R) → Option R) (m : Nat) (x : X) : loopN b (m + 1) x = b x (loopN b m) := rfl
/-- What holds of a loop: by what is left to go. -/
theorem loopN_ind {X R : Type} {b : X → (X → Option R) → Option R} (μ : X → Nat) (I : X → Prop) (Q : X → Option R → Prop)
    (h : ∀ x J, I x → (∀ y, I y → μ y < μ x → Q y (J y)) → Q x (b x J)) : ∀ n x, I x → μ x < n → Q x (loopN b n x)
  | 0, x, hi, hm => absurd hm (Nat.not_lt_zero _)
  | n + 1, x, hi, hm => h x (loopN b n) hi fun y hy hl => loopN_ind μ I Q h n y hy (by omega)
theorem getD_eq {α : Type} {l : List α} {i : Nat} {d : α} (h : i < l.length) : l.getD i d = l[i] := by
  simp [List.getD, h]
theorem w64_succ {k : Nat} (h : k < 9223372036854775807) : w64 ((k : Int) + 1) = ((k + 1 : Nat) : Int) := by
  rw [w64_id (by omega) (by omega)]
  rfl
theorem take_succ_getD {α : Type} {l : List α} {i : Nat} {d : α} (h : i < l.length) : l.take (i + 1) = l.take i ++ [l.getD i d] := by
  rw [List.take_succ, getD_eq h, List.getElem?_eq_getElem h]
  rfl
theorem drop_getD {α : Type} {l : List α} {i : Nat} {d : α} (h : i < l.length) : l.drop i = l.getD i d :: l.drop (i + 1) := by
  rw [getD_eq h]
  exact List.drop_eq_getElem_cons h
theorem bd_eq {α β : Type} (e : α) (f : α → β) : bd e f = f e := rfl
theorem bd_set {α β : Type} {Q : β → Prop} {F : List α → β} {p : List α} {i : Nat} {x : α} (h : ∀ l : List α, l.length = p.length → Q (F l)) : Q (bd (p.set i x) F) := h _ (by simp)
theorem bd_is {α β : Type} {Q : β → Prop} {F : α → β} {e : α} (h : ∀ v : α, v = e → Q (F v)) : Q (bd e F) := h _ rfl
theorem bd_val {α β : Type} {Q : β → Prop} {F : α → β} {e : α} (h : ∀ v : α, Q (F v)) : Q (bd e F) := h _
theorem chk_q {R : Type} {Q : Option R → Prop} {b : Bool} {x : Option R} (h : b = true) (hx : Q x) : Q (chk b x) := by rw [chk_of h]; exact hx
theorem ix_q {R : Type} {Q : Option R → Prop} {i : Int} {len : Nat} {x : Option R} (h0 : 0 ≤ i) (h1 : i < (len : Int)) (hx : Q x) : Q (ix i len x) := by rw [ix_of h0 h1]; exact hx
theorem bd_upd {α β : Type} {Q : β → Prop} {F : List α → β} {p : List α} {i : Nat} {x d : α} (hi : i < p.length) (h : ∀ l : List α, l.length = p.length → l.getD i d = x → (∀ j, j ≠ i → l.getD j d = p.getD j d) → Q (F l)) : Q (bd (p.set i x) F) :=
  h _ (by simp) (by simp [List.getD, hi]) (fun j hj => by simp [List.getD, List.getElem?_set, Ne.symm hj])
/-- A list written from the front. -/
theorem set_take {α : Type} {a : List α} {d : α} {m k : Nat} (h : k < a.length) (hm : m = a.length := by rfl) : (a.take k ++ (List.replicate m d).drop k).set k (a.getD k d) = a.take (k + 1) ++ (List.replicate m d).drop (k + 1) := by
  subst hm
  have h1 : (a.take k).length = k := by simp; omega
  rw [List.set_append_right _ _ (by omega), h1, Nat.sub_self, take_succ_getD h, List.append_assoc]
  congr 1
  rw [List.drop_eq_getElem_cons (by simp; exact h)]
  rfl
/-! ### Loops over 0 .. len, by what is left -/
/-- Steps k, k+1, .. told one after the other; J: what comes behind a step. -/
def forK {S R : Type} (step : Nat → S → (S → Option R) → Option R) (fin : S → Option R) : Nat → Nat → S → Option R
  | 0, _, s => fin s
  | m + 1, k, s => step k s fun s' => forK step fin m (k + 1) s'
theorem loop_forK {X S R : Type} {b : X → (X → Option R) → Option R} {enc : Nat → S → X} {len : Nat} {step : Nat → S → (S → Option R) → Option R} {fin : S → Option R} (I : Nat → S → Prop)
    (hstep : ∀ k s J J', k < len → I k s → (∀ s', I (k + 1) s' → J (enc (k + 1) s') = J' s') → b (enc k s) J = step k s J') (hfin : ∀ s J, I len s → b (enc len s) J = fin s) :
    ∀ m k s n, k + m = len → m < n → I k s → loopN b n (enc k s) = forK step fin m k s
  | 0, k, s, 0, _, h, _ => absurd h (Nat.lt_irrefl _)
  | 0, k, s, n + 1, hk, _, hi => by
    have hk : k = len := by omega
    subst hk
    exact hfin s _ hi
  | m + 1, k, s, 0, _, h, _ => absurd h (Nat.not_lt_zero _)
  | m + 1, k, s, n + 1, hk, hn, hi => by
    show b (enc k s) (loopN b n) = step k s fun s' => forK step fin m (k + 1) s'
    exact hstep k s _ _ (by omega) hi fun s' hi' => loop_forK I hstep hfin m (k + 1) s' n (by omega) (by omega) hi'
/-- The first k at which f answers; at none: z. -/
def scanK {R : Type} (f : Nat → Option (Option R)) (z : Option R) : Nat → Nat → Option R
  | 0, _ => z
  | m + 1, k => match f k with
    | some r => r
    | none => scanK f z m (k + 1)
theorem loop_scan {X R : Type} {b : X → (X → Option R) → Option R} {enc : Nat → X} {len : Nat} {f : Nat → Option (Option R)} {z : Option R}
    (hstep : ∀ k J, k < len → b (enc k) J = match f k with | some r => r | none => J (enc (k + 1))) (hfin : ∀ J, b (enc len) J = z) :
    ∀ m k n, k + m = len → m < n → loopN b n (enc k) = scanK f z m k
  | 0, k, 0, _, h => absurd h (Nat.lt_irrefl _)
  | 0, k, n + 1, hk, _ => by
    have hk : k = len := by omega
    subst hk
    exact hfin _
  | m + 1, k, 0, _, h => absurd h (Nat.not_lt_zero _)
  | m + 1, k, n + 1, hk, hn => by
    show b (enc k) (loopN b n) = _
    rw [hstep k _ (by omega)]
    unfold scanK
    cases f k with
    | some r => rfl
    | none => exact loop_scan hstep hfin m (k + 1) n (by omega) (by omega)
/-- Is p so of all of k, .. k + m - 1? -/
theorem scan_all {R : Type} {p : Nat → Bool} {r z : Option R} : ∀ m k, scanK (fun k => bif p k then none else some r) z m k = bif (List.range' k m).all p then z else r
  | 0, k => rfl
  | m + 1, k => by
    rw [scanK, List.range'_succ, List.all_cons]
    cases h : p k with
    | true => simp only [cond_true, Bool.true_and]; exact scan_all m (k + 1)
    | false => rfl
theorem scan_any {R : Type} {p : Nat → Bool} {r z : Option R} : ∀ m k, scanK (fun k => bif p k then some r else none) z m k = bif (List.range' k m).any p then r else z
  | 0, k => rfl
  | m + 1, k => by
    rw [scanK, List.range'_succ, List.any_cons]
    cases h : p k with
    | false => simp only [cond_false, Bool.false_or]; exact scan_any m (k + 1)
    | true => rfl
theorem mgetI_mputI {β : Type} (l : List (Int × β)) (n m : Int) (v : β) : mgetI (mputI l n v) m = if m = n then some v else mgetI l m := by
  unfold mgetI mputI
  induction l with
  | nil =>
    by_cases h : m = n <;> simp [h]
  | cons a l ih =>
    rw [List.findIdx?_cons]
    by_cases h : n = a.1
    · simp only [h, decide_true, if_true, Option.elim_some, List.set_cons_zero, List.find?_cons]
      by_cases h2 : m = a.1
      · simp [h2]
      · simp [h2]
    · simp only [h, decide_false, Bool.false_eq_true, if_false]
      cases hf : l.findIdx? (fun e => decide (n = e.1)) with
      | none =>
        rw [hf] at ih
        simp only [Option.elim_none] at ih
        simp only [Option.map_none, Option.elim_none, List.cons_append, List.find?_cons]
        by_cases h2 : m = a.1
        · have : m ≠ n := fun e => h (e ▸ h2)
          simp [h2]
          simp [h2] at this
          simp [this]
        · simp only [h2, decide_false]
          exact ih
      | some i =>
        rw [hf] at ih
        simp only [Option.elim_some] at ih
        simp only [Option.map_some, Option.elim_some, List.set_cons_succ, List.find?_cons]
        by_cases h2 : m = a.1
        · have : m ≠ n := fun e => h (e ▸ h2)
          simp [h2]
          simp [h2] at this
          simp [this]
        · simp only [h2, decide_false]
          exact ih
theorem mgetI_nil {β : Type} (m : Int) : mgetI ([] : List (Int × β)) m = none := rfl
/-! ### Chains of tests -/
theorem bif_and' {α : Type} {a b : Bool} {x y : α} : (bif a then (bif b then x else y) else y) = bif a && b then x else y := by cases a <;> rfl
theorem bif_or' {α : Type} {a b : Bool} {x y : α} : (bif a then y else (bif b then x else y)) = bif !a && b then x else y := by cases a <;> rfl
theorem bif_and2 {α : Type} {a b : Bool} {x y : α} : (bif a then (bif b then y else x) else y) = bif a && !b then x else y := by cases a <;> cases b <;> rfl
theorem bif_or2 {α : Type} {a b : Bool} {x y : α} : (bif a then y else (bif b then y else x)) = bif !a && !b then x else y := by cases a <;> cases b <;> rfl
theorem bif_some {α β : Type} {a : Bool} {x y : α} {f : α → Option β} : (bif a then some x else some y).bind f = bif a then f x else f y := by cases a <;> rfl
theorem bif_tf {a : Bool} : (bif a then some true else some false) = some a := by cases a <;> rfl
theorem bif_ft {a : Bool} : (bif a then some false else some true) = some (!a) := by cases a <;> rfl
theorem bif_sf {a b : Bool} : (bif a then some b else some false) = some (a && b) := by cases a <;> rfl
theorem all_range_succ {p : Nat → Bool} {k : Nat} : (List.range (k + 1)).all p = ((List.range k).all p && p k) := by
  rw [List.range_succ, List.all_append]
  simp
theorem any_range_succ {p : Nat → Bool} {k : Nat} : (List.range (k + 1)).any p = ((List.range k).any p || p k) := by
  rw [List.range_succ, List.any_append]
  simp
theorem all_range_not {p : Nat → Bool} {k m : Nat} (hk : k < m) (h : p k = false) : (List.range m).all p = false := by
  rw [Bool.eq_false_iff]
  intro e
  rw [List.all_eq_true] at e
  rw [e k (List.mem_range.2 hk)] at h
  cases h
theorem any_range_of {p : Nat → Bool} {k m : Nat} (hk : k < m) (h : p k = true) : (List.range m).any p = true := by
  rw [List.any_eq_true]
  exact ⟨k, List.mem_range.2 hk, h⟩
/-- A loop that looks at k = 0, 1, .. and leaves at the first that is not so. -/
theorem loop_all {R : Type} {b : Int → (Int → Option R) → Option R} {len : Nat} {p : Nat → Bool} {no yes : Option R} (hlen : len ≤ 9223372036854775807)
    (hstep : ∀ (k : Nat) (J : Int → Option R), k < len → (∀ j, j < k → p j = true) → b (k : Int) J = bif p k then J ((k + 1 : Nat) : Int) else no) (hfin : ∀ J, (∀ j, j < len → p j = true) → b (len : Int) J = yes) {n : Nat} (hn : len < n) :
    loopN b n (0 : Int) = bif (List.range len).all p then yes else no := by
  refine loopN_ind (fun x => len - x.toNat) (fun x => ∃ k : Nat, k ≤ len ∧ x = (k : Int) ∧ (List.range k).all p = true) (fun x r => r = bif (List.range len).all p then yes else no) ?_ n _ ⟨0, by omega, rfl, rfl⟩ (by simp; omega)
  rintro _ J ⟨k, hk, rfl, hb⟩ ih
  have hb' : ∀ j, j < k → p j = true := fun j hj => List.all_eq_true.1 hb j (List.mem_range.2 hj)
  by_cases h : k < len
  · rw [hstep k J h hb']
    cases hp : p k with
    | true => exact ih _ ⟨k + 1, h, rfl, by rw [all_range_succ, hb, hp]; rfl⟩ (by simp; omega)
    | false => rw [all_range_not h hp]; rfl
  · have : k = len := by omega
    subst this
    rw [hfin _ hb', hb]
    rfl
/-- The same, a state turned on the way (its invariant: I). -/
theorem loop_allS {S R : Type} {X : Type} {enc : Int → S → X} {b : X → (X → Option R) → Option R} {len : Nat} {p : Nat → Bool} {I : Nat → S → Prop} {no yes : Option R}
    (hstep : ∀ (k : Nat) (s : S) (J : X → Option R), k < len → I k s → (∀ j, j < k → p j = true) → ∃ s', (p k = true → I (k + 1) s') ∧ b (enc (k : Int) s) J = bif p k then J (enc ((k + 1 : Nat) : Int) s') else no) (hfin : ∀ s J, I len s → (∀ j, j < len → p j = true) → b (enc (len : Int) s) J = yes) {n : Nat} (hn : len < n) {s0 : S} (h0 : I 0 s0) :
    loopN b n (enc (0 : Int) s0) = bif (List.range len).all p then yes else no := by
  have key : ∀ m (k : Nat) (s : S) n, k + m = len → m < n → I k s → (List.range k).all p = true → loopN b n (enc (k : Int) s) = bif (List.range len).all p then yes else no := by
    intro m
    induction m with
    | zero =>
      intro k s n hk hn hi hb
      have hb' : ∀ j, j < k → p j = true := fun j hj => List.all_eq_true.1 hb j (List.mem_range.2 hj)
      have hk : k = len := by omega
      subst hk
      cases n with
      | zero => omega
      | succ n => rw [loopN_succ, hfin s _ hi hb', hb]; rfl
    | succ m ih =>
      intro k s n hk hn hi hb
      have hb' : ∀ j, j < k → p j = true := fun j hj => List.all_eq_true.1 hb j (List.mem_range.2 hj)
      cases n with
      | zero => omega
      | succ n =>
        rw [loopN_succ]
        obtain ⟨s', h1, h2⟩ := hstep k s (loopN b n) (by omega) hi hb'
        rw [h2]
        cases hp : p k with
        | true => exact ih (k + 1) s' n (by omega) (by omega) (h1 hp) (by rw [all_range_succ, hb, hp]; rfl)
        | false => rw [all_range_not (by omega : k < len) hp]; rfl
  exact key len 0 s0 n (by omega) hn h0 rfl
/-- A loop over 0 .. len that never leaves early; its state: I. -/
theorem loop_runS {S R : Type} {X : Type} {enc : Int → S → X} {b : X → (X → Option R) → Option R} {len : Nat} {I : Nat → S → Prop} {Q : Option R → Prop}
    (hstep : ∀ (k : Nat) (s : S) (J : X → Option R), k < len → I k s → ∃ s', I (k + 1) s' ∧ b (enc (k : Int) s) J = J (enc ((k + 1 : Nat) : Int) s')) (hfin : ∀ s J, I len s → Q (b (enc (len : Int) s) J)) {n : Nat} (hn : len < n) {s0 : S} (h0 : I 0 s0) :
    Q (loopN b n (enc (0 : Int) s0)) := by
  have key : ∀ m (k : Nat) (s : S) n, k + m = len → m < n → I k s → Q (loopN b n (enc (k : Int) s)) := by
    intro m
    induction m with
    | zero =>
      intro k s n hk hn hi
      have hk : k = len := by omega
      subst hk
      cases n with
      | zero => omega
      | succ n => rw [loopN_succ]; exact hfin s _ hi
    | succ m ih =>
      intro k s n hk hn hi
      cases n with
      | zero => omega
      | succ n =>
        rw [loopN_succ]
        obtain ⟨s', h1, h2⟩ := hstep k s (loopN b n) (by omega) hi
        rw [h2]
        exact ih (k + 1) s' n (by omega) (by omega) h1
  exact key len 0 s0 n (by omega) hn h0
/-! ### Sums over lists -/
def sumOf {α : Type} (f : α → Nat) : List α → Nat
  | [] => 0
  | a :: l => f a + sumOf f l
theorem sumOf_append {α : Type} (f : α → Nat) : ∀ a b : List α, sumOf f (a ++ b) = sumOf f a + sumOf f b
  | [], b => by simp [sumOf]
  | x :: a, b => by simp only [List.cons_append, sumOf, sumOf_append f a b]; omega
theorem sumOf_take_succ {α : Type} {f : α → Nat} {l : List α} {k : Nat} {d : α} (h : k < l.length) : sumOf f (l.take (k + 1)) = sumOf f (l.take k) + f (l.getD k d) := by
  rw [take_succ_getD (d := d) h, sumOf_append]
  simp [sumOf]
theorem sumOf_take_le {α : Type} (f : α → Nat) (l : List α) (k : Nat) : sumOf f (l.take k) ≤ sumOf f l := by
  have := sumOf_append f (l.take k) (l.drop k)
  rw [List.take_append_drop] at this
  omega
theorem sumOf_mem {α : Type} {f : α → Nat} {l : List α} {k : Nat} {d : α} (h : k < l.length) : f (l.getD k d) ≤ sumOf f l := by
  have h1 := sumOf_take_succ (f := f) (d := d) h
  have h2 := sumOf_take_le f l (k + 1)
  omega
theorem sumOf_lin {α : Type} {f g : α → Nat} {c s : Nat} (h : ∀ y, f y ≤ c * g y + s) : ∀ l : List α, sumOf f l ≤ c * sumOf g l + s * l.length
  | [] => by simp [sumOf]
  | a :: l => by
    have h1 := h a
    have h2 := sumOf_lin h l
    simp only [sumOf, List.length_cons, Nat.mul_add, Nat.mul_succ]
    omega
theorem sumOf_const {α : Type} (c : Nat) : ∀ l : List α, sumOf (fun _ => c) l = c * l.length
  | [] => by simp [sumOf]
  | a :: l => by simp only [sumOf, sumOf_const c l, List.length_cons, Nat.mul_succ]; omega
theorem getD_set {α : Type} {l : List α} {k : Nat} {x d : α} (h : k < l.length) : (l.set k x).getD k d = x := by simp [List.getD, h]
theorem getD_set_ne {α : Type} {l : List α} {k j : Nat} {x d : α} (h : j ≠ k) : (l.set k x).getD j d = l.getD j d := by simp [List.getD, List.getElem?_set, Ne.symm h]
theorem getD_mem {α : Type} {l : List α} {k : Nat} {d : α} (h : k < l.length) : l.getD k d ∈ l := by rw [getD_eq h]; exact List.getElem_mem h
theorem take_drop_set {α : Type} {a : List α} {d : α} {m k : Nat} {x : α} (h : k < a.length) (hm : m = a.length) (hx : x = a.getD k d) : (a.take k ++ (List.replicate m d).drop k).set k x = a.take (k + 1) ++ (List.replicate m d).drop (k + 1) := by
  subst hx
  exact set_take h hm
/-! ### The first that is so -/
def idxOf (p : Nat → Bool) (m : Nat) : Int := match (List.range m).find? p with
  | some k => (k : Int)
  | none => -1
theorem find_range_none {p : Nat → Bool} {m : Nat} (h : ∀ j, j < m → p j = false) : (List.range m).find? p = none := by
  rw [List.find?_eq_none]
  intro x hx
  rw [h x (List.mem_range.1 hx)]
  simp
theorem find_range_some {p : Nat → Bool} {m k : Nat} (hk : k < m) (hp : p k = true) (h : ∀ j, j < k → p j = false) : (List.range m).find? p = some k := by
  have e : m = k + (m - k) := by omega
  rw [e, List.range_add, List.find?_append, find_range_none h, Option.none_or]
  obtain ⟨r, hr⟩ : ∃ r, m - k = r + 1 := ⟨m - k - 1, by omega⟩
  rw [hr, List.range_succ_eq_map]
  simp [hp]
theorem idxOf_ge (p : Nat → Bool) (m : Nat) : decide (idxOf p m ≥ 0) = (List.range m).any p := by
  unfold idxOf
  cases h : (List.range m).find? p with
  | none =>
    rw [List.find?_eq_none] at h
    rw [show (List.range m).any p = false from by rw [List.any_eq_false]; exact h]
    rfl
  | some k =>
    have h1 := List.find?_some h
    rw [show (List.range m).any p = true from List.any_eq_true.2 ⟨k, List.mem_of_find?_eq_some h, h1⟩]
    exact decide_eq_true (by show (0 : Int) ≤ (k : Int); omega)
theorem idxOf_lt (p : Nat → Bool) (m : Nat) : decide (idxOf p m < 0) = !(List.range m).any p := by
  rw [← idxOf_ge]
  by_cases h : idxOf p m < 0
  · rw [decide_eq_true h, decide_eq_false (by omega)]; rfl
  · rw [decide_eq_false h, decide_eq_true (by omega)]; rfl
theorem find_range (p : Nat → Bool) : ∀ m, ((List.range m).find? p = none ∧ ∀ j, j < m → p j = false) ∨ ∃ k, (List.range m).find? p = some k ∧ k < m ∧ p k = true ∧ ∀ j, j < k → p j = false
  | 0 => .inl ⟨rfl, fun j hj => absurd hj (Nat.not_lt_zero _)⟩
  | m + 1 => by
    rcases find_range p m with ⟨h1, h2⟩ | ⟨k, h1, h2, h3, h4⟩
    · cases hp : p m with
      | true => exact .inr ⟨m, find_range_some (by omega) hp h2, by omega, hp, h2⟩
      | false =>
        have : ∀ j, j < m + 1 → p j = false := fun j hj => by
          by_cases e : j = m
          · rw [e]; exact hp
          · exact h2 j (by omega)
        exact .inl ⟨find_range_none this, this⟩
    · exact .inr ⟨k, find_range_some (by omega) h3 h4, by omega, h3, h4⟩
theorem idxOf_spec (p : Nat → Bool) (m : Nat) : (idxOf p m = -1 ∧ ∀ j, j < m → p j = false) ∨ ∃ k : Nat, idxOf p m = (k : Int) ∧ k < m ∧ p k = true ∧ ∀ j, j < k → p j = false := by
  unfold idxOf
  rcases find_range p m with ⟨h1, h2⟩ | ⟨k, h1, h2, h3, h4⟩
  · rw [h1]; exact .inl ⟨rfl, h2⟩
  · rw [h1]; exact .inr ⟨k, rfl, h2, h3, h4⟩
/-- A loop that looks at k = 0, 1, .. and leaves at the first that is so. -/
theorem loop_find {R : Type} {b : Int → (Int → Option R) → Option R} {len : Nat} {p : Nat → Bool} {yes : Nat → Option R} {no : Option R} (hlen : len ≤ 9223372036854775807)
    (hstep : ∀ (k : Nat) (J : Int → Option R), k < len → (∀ j, j < k → p j = false) → b (k : Int) J = bif p k then yes k else J ((k + 1 : Nat) : Int)) (hfin : ∀ J, (∀ j, j < len → p j = false) → b (len : Int) J = no) {n : Nat} (hn : len < n) :
    loopN b n (0 : Int) = match (List.range len).find? p with | some k => yes k | none => no := by
  refine loopN_ind (fun x => len - x.toNat) (fun x => ∃ k : Nat, k ≤ len ∧ x = (k : Int) ∧ ∀ j, j < k → p j = false) (fun x r => r = match (List.range len).find? p with | some k => yes k | none => no) ?_ n _ ⟨0, by omega, rfl, fun j hj => absurd hj (Nat.not_lt_zero _)⟩ (by simp; omega)
  rintro _ J ⟨k, hk, rfl, hb⟩ ih
  by_cases h : k < len
  · rw [hstep k J h hb]
    cases hp : p k with
    | false => exact ih _ ⟨k + 1, h, rfl, fun j hj => by
        by_cases e : j = k
        · rw [e]; exact hp
        · exact hb j (by omega)⟩ (by simp; omega)
    | true => rw [find_range_some h hp hb]; rfl
  · have : k = len := by omega
    subst this
    rw [hfin _ hb, find_range_none hb]
theorem loop_idx {b : Int → (Int → Option Int) → Option Int} {len : Nat} {p : Nat → Bool} (hlen : len ≤ 9223372036854775807)
    (hstep : ∀ (k : Nat) (J : Int → Option Int), k < len → (∀ j, j < k → p j = false) → b (k : Int) J = bif p k then some (k : Int) else J ((k + 1 : Nat) : Int)) (hfin : ∀ J, (∀ j, j < len → p j = false) → b (len : Int) J = some (-1)) {n : Nat} (hn : len < n) :
    loopN b n (0 : Int) = some (idxOf p len) := by
  rw [loop_find (yes := fun k => some (k : Int)) (no := some (-1)) hlen hstep hfin hn]
  unfold idxOf
  cases (List.range len).find? p <;> rfl
theorem byteAt_rng (s : ByteArray) (k : Nat) : 0 ≤ byteAt s k ∧ byteAt s k ≤ 255 := by
  unfold byteAt
  have := (s.data.getD k 0).toNat_lt
  omega
theorem range_any {α : Type} {l : List α} {d : α} {f : α → Bool} : (List.range l.length).any (fun k => f (l.getD k d)) = l.any f := by
  induction l with
  | nil => rfl
  | cons a l ih =>
    rw [List.length_cons, List.range_succ_eq_map, List.any_cons, List.any_map, List.any_cons, ← ih]
    rfl
theorem range_all {α : Type} {l : List α} {d : α} {f : α → Bool} : (List.range l.length).all (fun k => f (l.getD k d)) = l.all f := by
  induction l with
  | nil => rfl
  | cons a l ih =>
    rw [List.length_cons, List.range_succ_eq_map, List.all_cons, List.all_map, List.all_cons, ← ih]
    rfl
theorem all_congr_lt {p q : Nat → Bool} {m : Nat} (h : ∀ k, k < m → p k = q k) : (List.range m).all p = (List.range m).all q := by
  rw [Bool.eq_iff_iff, List.all_eq_true, List.all_eq_true]
  constructor
  · intro g x hx; rw [← h x (List.mem_range.1 hx)]; exact g x hx
  · intro g x hx; rw [h x (List.mem_range.1 hx)]; exact g x hx
theorem any_congr_lt {p q : Nat → Bool} {m : Nat} (h : ∀ k, k < m → p k = q k) : (List.range m).any p = (List.range m).any q := by
  rw [Bool.eq_iff_iff, List.any_eq_true, List.any_eq_true]
  constructor
  · rintro ⟨x, hx, g⟩; exact ⟨x, hx, by rw [← h x (List.mem_range.1 hx)]; exact g⟩
  · rintro ⟨x, hx, g⟩; exact ⟨x, hx, by rw [h x (List.mem_range.1 hx)]; exact g⟩
theorem guard_sz {w : Nat} {x : Option Bool} (h : w ≤ 1048576 → x = some true) : (bif decide ((if (w : Int) ≤ 1048576 then 1048576 - (w : Int) else -1) < 0) then some true else x) = some true := by
  by_cases c : (w : Int) ≤ 1048576
  · rw [if_pos c, decide_eq_false (by omega), cond_false]
    exact h (by omega)
  · rw [if_neg c]
    rfl
end Go.Sm
end

section
set_option linter.unusedSimpArgs false
set_option linter.deprecated false
set_option linter.unusedSectionVars false
set_option linter.unusedVariables false
set_option linter.unusedSimpArgs false
namespace Go.Sm
attribute [local irreducible] bd chk ix loopN
theorem laws_markText_ok {n : Nat} (k : Int) (hk : k ≤ 1000000000) (hn : 1000000000 < n) : ∃ t, laws_markText n k = some t := by
  unfold laws_markText
  rw [bif_dec]
  split
  · exact ⟨_, rfl⟩
  · refine loopN_ind (fun x => x.1.toNat) (fun x => 0 ≤ x.1 ∧ x.1 + (x.2.size : Int) ≤ 1000000000) (fun x r => ∃ t, r = some t) ?_ n _ ⟨by omega, by show k + ((str []).size : Int) ≤ _; simp [str, ByteArray.size]; omega⟩ (by simp; omega)
    rintro ⟨k, out⟩ J ⟨h0, h1⟩ ih
    unfold laws_markText_L4
    dsimp only at h0 h1 ⊢
    have e1 : ∀ l : List Int, (bstr l).size = l.length := fun l => by simp [bstr, ByteArray.size]
    have e2 : (str [109]).size = 1 := rfl
    have e3 : k.tdiv 10 = k / 10 := Int.tdiv_eq_ediv_of_nonneg h0
    simp only [bd_eq]
    rw [bif_dec, e3]
    split
    · rw [e1, chk_dec (by simp; omega), w64_id (x := k / 10) (by omega) (by omega)]
      refine ih _ ⟨by dsimp only; omega, ?_⟩ (by dsimp only; omega)
      rw [ByteArray.size_append, e1]
      simp
      omega
    · rw [e2, chk_dec (by omega)]
      exact ⟨_, rfl⟩
theorem laws_markText_q {β : Type} {Q : Option β → Prop} {n : Nat} {k : Int} {F : ByteArray → Option β} (hk : k ≤ 1000000000) (hn : 1000000000 < n) (h : ∀ t, laws_markText n k = some t → Q (F t)) : Q ((laws_markText n k).bind F) := by
  obtain ⟨t, ht⟩ := laws_markText_ok (n := n) k hk hn
  rw [ht]
  exact h t ht
def w_LInt (a : List Int) : Nat := a.length
theorem laws_szIntS_ok {n : Nat} (a : List Int) {left : Int} (h : (a.length ≤ 9223372036854775807 ∧ ∀ y ∈ a, rng (-9223372036854775808) 9223372036854775807 y)) (h0 : 0 ≤ left) (h1 : left ≤ 1048576) (hn : 1000000000 < n) : laws_szIntS n a left = some (if (w_LInt a : Int) ≤ left then left - (w_LInt a : Int) else -1) := by
  have hw : w_LInt a = a.length := rfl
  unfold laws_szIntS
  rw [w64_id (by have := h.1; omega) (by omega), bd_eq, bif_dec]
  by_cases c : (a.length : Int) ≤ left
  · rw [if_neg (by omega), if_pos (by omega)]
    congr 1
  · rw [if_pos (by omega), if_neg (by omega)]
def w_SFeature (a : SFeature) : Nat := a.Text.size
theorem laws_szFeature_ok {n : Nat} (a : SFeature) {left : Int} (h : wfSFeature a) (h0 : 0 ≤ left) (h1 : left ≤ 1048576) (hn : 1000000000 < n) : laws_szFeature n a left = some (if (w_SFeature a : Int) ≤ left then left - (w_SFeature a : Int) else -1) := by
  have hw : w_SFeature a = a.Text.size := rfl
  unfold laws_szFeature
  rw [w64_id (by have := h.2.2.2.2; omega) (by omega), bd_eq, bif_dec]
  by_cases c0 : (a.Text.size : Int) ≤ left
  case neg => rw [if_pos (by omega), if_neg (by omega)]
  rw [if_neg (by omega)]
  rw [if_pos (by omega)]
  try (refine congrArg some ?_; omega)
def w_LSFeature (a : List SFeature) : Nat := a.length + sumOf (fun y => w_SFeature y) a
theorem laws_szFeatureS_ok {n : Nat} (a : List SFeature) {left : Int} (h : (a.length ≤ 9223372036854775807 ∧ ∀ y ∈ a, wfSFeature y)) (h0 : 0 ≤ left) (h1 : left ≤ 1048576) (hn : 1000000000 < n) : laws_szFeatureS n a left = some (if (w_LSFeature a : Int) ≤ left then left - (w_LSFeature a : Int) else -1) := by
  have hw : w_LSFeature a = a.length + sumOf (fun y => w_SFeature y) a := rfl
  unfold laws_szFeatureS
  rw [w64_id (by have := h.1; omega) (by omega), bd_eq, bif_dec]
  by_cases c : (a.length : Int) ≤ left
  case neg => rw [if_pos (by omega), if_neg (by omega)]
  rw [if_neg (by omega)]
  refine loopN_ind (fun x => a.length - x.2.toNat) (fun x => ∃ k : Nat, k ≤ a.length ∧ x = (left - (a.length : Int) - (sumOf (fun y => w_SFeature y) (a.take k) : Int), (k : Int)) ∧ (sumOf (fun y => w_SFeature y) (a.take k) : Int) ≤ left - (a.length : Int))
    (fun x r => r = some (if (w_LSFeature a : Int) ≤ left then left - (w_LSFeature a : Int) else -1)) ?_ n _ ⟨0, by omega, by simp [sumOf], by simp [sumOf]; omega⟩ (by simp; omega)
  rintro _ J ⟨k, hk, rfl, hb⟩ ih
  unfold laws_szFeatureS_L5
  by_cases h2 : k < a.length
  · have s1 := sumOf_take_succ (f := fun y => w_SFeature y) (d := dSFeature) h2
    have s2 := sumOf_take_le (fun y => w_SFeature y) a (k + 1)
    try simp only at s1
    simp only [Int.ofNat_lt, h2, decide_true, cond_true, ix_nat h2, Int.toNat_natCast, bd_eq]
    rw [laws_szFeature_ok (n := n) (a.getD k dSFeature) (h.2 _ (getD_mem h2)) (by omega) (by omega) hn, Option.bind_some, bif_dec]
    by_cases c2 : (w_SFeature (a.getD k dSFeature) : Int) ≤ left - (a.length : Int) - (sumOf (fun y => w_SFeature y) (a.take k) : Int)
    · rw [if_pos c2, if_neg (by omega), w64_succ (by omega)]
      exact ih (_, ((k + 1 : Nat) : Int)) ⟨k + 1, h2, Prod.ext (by dsimp only; omega) rfl, by omega⟩ (by simp; omega)
    · rw [if_neg c2, if_pos (by omega), if_neg (by omega)]
  · have : k = a.length := by omega
    subst this
    rw [List.take_length] at hb ⊢
    simp only [Int.lt_irrefl, decide_false, cond_false]
    rw [if_pos (by omega)]
    congr 1
    omega
def w_SChart (a : SChart) : Nat := w_LInt a.Depths + w_LSFeature a.Features
theorem laws_szChart_ok {n : Nat} (a : SChart) {left : Int} (h : wfSChart a) (h0 : 0 ≤ left) (h1 : left ≤ 1048576) (hn : 1000000000 < n) : laws_szChart n a left = some (if (w_SChart a : Int) ≤ left then left - (w_SChart a : Int) else -1) := by
  have hw : w_SChart a = w_LInt a.Depths + w_LSFeature a.Features := rfl
  unfold laws_szChart
  rw [laws_szIntS_ok (n := n) a.Depths h.2.2.1 (by omega) (by omega) hn, Option.bind_some, bif_dec]
  by_cases c0 : (w_LInt a.Depths : Int) ≤ left
  case neg => rw [if_neg c0, if_pos (by omega), if_neg (by omega)]
  rw [if_pos c0, if_neg (by omega)]
  rw [laws_szFeatureS_ok (n := n) a.Features h.2.2.2.1 (by omega) (by omega) hn, Option.bind_some, bif_dec]
  by_cases c1 : (w_LSFeature a.Features : Int) ≤ left - (w_LInt a.Depths : Int)
  case neg => rw [if_neg c1, if_pos (by omega), if_neg (by omega)]
  rw [if_pos c1, if_neg (by omega)]
  rw [if_pos (by omega)]
  try (refine congrArg some ?_; omega)
theorem laws_toIntS_ok {n : Nat} (a : List Int) (hb : w_LInt a ≤ 100000000) (hn : 1000000000 < n) : laws_toIntS n a = some a := by
  have hw0 : a.length ≤ 100000000 := by have hw : w_LInt a = a.length := rfl; omega
  unfold laws_toIntS
  rw [chk_dec (by omega), chk_dec (by omega), chk_dec (by omega)]
  refine loopN_ind (fun x => a.length - x.1.toNat) (fun x => ∃ k : Nat, k ≤ a.length ∧ x = ((k : Int), a.take k ++ (List.replicate a.length (0 : Int)).drop k)) (fun x r => r = some a) ?_ n _ ⟨0, by omega, by simp⟩ (by simp; omega)
  rintro _ J ⟨k, hk, rfl⟩ ih
  unfold laws_toIntS_L3
  dsimp only
  have hl : (a.take k ++ (List.replicate a.length (0 : Int)).drop k).length = a.length := by simp; omega
  by_cases h : k < a.length
  · have g := ih (((k + 1 : Nat) : Int), a.take (k + 1) ++ (List.replicate a.length (0 : Int)).drop (k + 1)) ⟨k + 1, h, rfl⟩ (by simp; omega)
    have hk2 : k < (a.take k ++ (List.replicate a.length (0 : Int)).drop k).length := by omega
    simp only [Int.ofNat_lt, h, hk2, decide_true, cond_true, ix_nat h, ix_nat hk2, chk_of, bd_eq, Option.bind_some, Int.toNat_natCast, w64_succ (show k < 9223372036854775807 by omega)]
    rw [take_drop_set (d := (0 : Int)) h rfl rfl]
    exact g
  · have : k = a.length := by omega
    subst this
    simp
theorem laws_toFeature_ok {n : Nat} (a : SFeature) (h : w_SFeature a ≤ 100000000) (hn : 1000000000 < n) : laws_toFeature n a = some a := by
  have hw : w_SFeature a = a.Text.size := rfl
  simp [laws_toFeature]
theorem laws_toFeatureS_ok {n : Nat} (a : List SFeature) (hb : w_LSFeature a ≤ 100000000) (hn : 1000000000 < n) : laws_toFeatureS n a = some a := by
  have hw0 : a.length ≤ 100000000 := by have hw : w_LSFeature a = a.length + sumOf (fun y => w_SFeature y) a := rfl; omega
  unfold laws_toFeatureS
  rw [chk_dec (by omega), chk_dec (by omega), chk_dec (by omega)]
  refine loopN_ind (fun x => a.length - x.1.toNat) (fun x => ∃ k : Nat, k ≤ a.length ∧ x = ((k : Int), a.take k ++ (List.replicate a.length dSFeature).drop k)) (fun x r => r = some a) ?_ n _ ⟨0, by omega, by simp⟩ (by simp; omega)
  rintro _ J ⟨k, hk, rfl⟩ ih
  unfold laws_toFeatureS_L3
  dsimp only
  have hl : (a.take k ++ (List.replicate a.length dSFeature).drop k).length = a.length := by simp; omega
  by_cases h : k < a.length
  · have g := ih (((k + 1 : Nat) : Int), a.take (k + 1) ++ (List.replicate a.length dSFeature).drop (k + 1)) ⟨k + 1, h, rfl⟩ (by simp; omega)
    have s1 := sumOf_mem (f := fun y => w_SFeature y) (d := dSFeature) h
    have hw : w_LSFeature a = a.length + sumOf (fun y => w_SFeature y) a := rfl
    try simp only at s1
    have hk2 : k < (a.take k ++ (List.replicate a.length dSFeature).drop k).length := by omega
    simp only [Int.ofNat_lt, h, hk2, decide_true, cond_true, ix_nat h, ix_nat hk2, chk_of, bd_eq, Option.bind_some, Int.toNat_natCast, w64_succ (show k < 9223372036854775807 by omega), laws_toFeature_ok (n := n) (a.getD k dSFeature) (by omega) hn]
    rw [take_drop_set (d := dSFeature) h rfl rfl]
    exact g
  · have : k = a.length := by omega
    subst this
    simp
theorem laws_toChart_ok {n : Nat} (a : SChart) (h : w_SChart a ≤ 100000000) (hn : 1000000000 < n) : laws_toChart n a = some a := by
  have hw : w_SChart a = w_LInt a.Depths + w_LSFeature a.Features := rfl
  simp [laws_toChart, laws_toIntS_ok (n := n) a.Depths (by omega) hn, laws_toFeatureS_ok (n := n) a.Features (by omega) hn]
theorem laws_eqIntS_ok {n : Nat} (a : List Int) (hb : w_LInt a ≤ 100000000) (hn : 1000000000 < n) : laws_eqIntS n a a = some true := by
  have hw0 : a.length ≤ 100000000 := by have hw : w_LInt a = a.length := rfl; omega
  unfold laws_eqIntS
  simp only [decide_true, Bool.not_true, cond_false]
  refine loopN_ind (fun x => a.length - x.toNat) (fun x => ∃ k : Nat, k ≤ a.length ∧ x = (k : Int)) (fun x r => r = some true) ?_ n _ ⟨0, by omega, rfl⟩ (by simp; omega)
  rintro _ J ⟨k, hk, rfl⟩ ih
  unfold laws_eqIntS_L4
  by_cases h : k < a.length
  · have g := ih ((k + 1 : Nat) : Int) ⟨k + 1, h, rfl⟩ (by simp; omega)
    simp only [Int.ofNat_lt, h, decide_true, cond_true, ix_nat h, Bool.not_true, cond_false, bd_eq, Option.bind_some, beq_self_eq_true, Int.toNat_natCast, w64_succ (show k < 9223372036854775807 by omega)]
    exact g
  · simp [h]
theorem laws_eqFeature_ok {n : Nat} (a : SFeature) (h : w_SFeature a ≤ 100000000) (hn : 1000000000 < n) : laws_eqFeature n a a = some true := by
  have hw : w_SFeature a = a.Text.size := rfl
  simp [laws_eqFeature]
theorem laws_eqFeatureS_ok {n : Nat} (a : List SFeature) (hb : w_LSFeature a ≤ 100000000) (hn : 1000000000 < n) : laws_eqFeatureS n a a = some true := by
  have hw0 : a.length ≤ 100000000 := by have hw : w_LSFeature a = a.length + sumOf (fun y => w_SFeature y) a := rfl; omega
  unfold laws_eqFeatureS
  simp only [decide_true, Bool.not_true, cond_false]
  refine loopN_ind (fun x => a.length - x.toNat) (fun x => ∃ k : Nat, k ≤ a.length ∧ x = (k : Int)) (fun x r => r = some true) ?_ n _ ⟨0, by omega, rfl⟩ (by simp; omega)
  rintro _ J ⟨k, hk, rfl⟩ ih
  unfold laws_eqFeatureS_L4
  by_cases h : k < a.length
  · have g := ih ((k + 1 : Nat) : Int) ⟨k + 1, h, rfl⟩ (by simp; omega)
    have s1 := sumOf_mem (f := fun y => w_SFeature y) (d := dSFeature) h
    have hw : w_LSFeature a = a.length + sumOf (fun y => w_SFeature y) a := rfl
    try simp only at s1
    simp only [Int.ofNat_lt, h, decide_true, cond_true, ix_nat h, Bool.not_true, cond_false, bd_eq, Option.bind_some, beq_self_eq_true, Int.toNat_natCast, w64_succ (show k < 9223372036854775807 by omega), laws_eqFeature_ok (n := n) (a.getD k dSFeature) (by omega) hn]
    exact g
  · simp [h]
theorem laws_eqChart_ok {n : Nat} (a : SChart) (h : w_SChart a ≤ 100000000) (hn : 1000000000 < n) : laws_eqChart n a a = some true := by
  have hw : w_SChart a = w_LInt a.Depths + w_LSFeature a.Features := rfl
  simp [laws_eqChart, laws_eqChart_k0, laws_eqIntS_ok (n := n) a.Depths (by omega) hn, laws_eqFeatureS_ok (n := n) a.Features (by omega) hn]
def Mk_LInt (n : Nat) (k : Int) (a x : Int) : Prop := x = k
def n_LInt (a : List Int) : Nat := sumOf (fun y => 1) a
theorem n_LInt_eq (a : List Int) : n_LInt a = 1 * a.length := sumOf_const 1 a
theorem n_LInt_le (a : List Int) : n_LInt a ≤ 1 * w_LInt a := by
  have h := n_LInt_eq a
  have h2 : w_LInt a = a.length := rfl
  omega
theorem laws_markIntS_i {n : Nat} (a : List Int) (k0 : Int) (hk0 : 0 ≤ k0) (hb : k0 + ((n_LInt a : Nat) : Int) ≤ 900000000) (hw : w_LInt a ≤ 100000000) (hn : 1000000000 < n) :
    ∃ p : List Int, laws_markIntS n a k0 = some (k0 + ((n_LInt a : Nat) : Int), p) ∧ p.length = a.length ∧ ∀ i, i < a.length → Mk_LInt n (k0 + ((sumOf (fun y => 1) (a.take i) : Nat) : Int)) (a.getD i (0 : Int)) (p.getD i (0 : Int)) := by
  have hw0 : a.length ≤ 100000000 := by have hw : w_LInt a = a.length := rfl; omega
  have hnA : n_LInt a = sumOf (fun y => 1) a := rfl
  unfold laws_markIntS
  refine loopN_ind (fun x => a.length - x.2.1.toNat) (fun x => ∃ (k : Nat) (p : List Int), k ≤ a.length ∧ x = (k0 + ((sumOf (fun y => 1) (a.take k) : Nat) : Int), (k : Int), p) ∧ p.length = a.length ∧
      (∀ i, i < k → Mk_LInt n (k0 + ((sumOf (fun y => 1) (a.take i) : Nat) : Int)) (a.getD i (0 : Int)) (p.getD i (0 : Int))) ∧ ∀ i, k ≤ i → p.getD i (0 : Int) = a.getD i (0 : Int))
    (fun x r => ∃ p : List Int, r = some (k0 + ((n_LInt a : Nat) : Int), p) ∧ p.length = a.length ∧ ∀ i, i < a.length → Mk_LInt n (k0 + ((sumOf (fun y => 1) (a.take i) : Nat) : Int)) (a.getD i (0 : Int)) (p.getD i (0 : Int))) ?_ n _ ⟨0, a, by omega, by simp [sumOf], rfl, by omega, fun _ _ => rfl⟩ (by simp; omega)
  rintro _ J ⟨k, p, hk, rfl, hp, hm, hrest⟩ ih
  by_cases h : k < a.length
  · have h' : k < p.length := by omega
    have s1 := sumOf_take_succ (f := fun y => 1) (d := (0 : Int)) h
    have s2 := sumOf_take_le (fun y => 1) a (k + 1)
    try simp only at s1
    obtain ⟨kk, hkk⟩ : ∃ kk : Int, kk = k0 + ((sumOf (fun y => 1) (a.take k) : Nat) : Int) := ⟨_, rfl⟩
    have hpk := hrest k (Nat.le_refl _)
    have step : ∀ (K : Int → List Int → Option (Int × List Int)) (J : Int → Int → List Int → Option (Int × List Int)), laws_markIntS_L2 n K J kk (k : Int) p = J (kk + 1) ((k : Int) + 1) (p.set k (kk)) := fun K J => by
      unfold laws_markIntS_L2
      simp (disch := omega) only [Int.ofNat_lt, h', decide_true, cond_true, ix_nat h', List.length_set, chk_of, chk_true, bd_eq, getD_set h', List.set_set, hpk, Int.toNat_natCast, w64_id, Int.add_assoc, Int.reduceAdd, Option.bind_some]
    dsimp only
    rw [← hkk]
    refine (congrArg (fun z => ∃ q : List Int, z = some (k0 + ((n_LInt a : Nat) : Int), q) ∧ q.length = a.length ∧ ∀ i, i < a.length → Mk_LInt n (k0 + ((sumOf (fun y => 1) (a.take i) : Nat) : Int)) (a.getD i (0 : Int)) (q.getD i (0 : Int))) (step _ _)).mpr ?_
    refine ih _ ⟨k + 1, _, h, Prod.ext (by dsimp only; omega) (Prod.ext (by dsimp only; omega) rfl), by simpa using hp, fun i hi => ?_, fun i hi => ?_⟩ (by dsimp only; omega)
    · by_cases e : i = k
      · subst e
        rw [getD_set h', ← hkk]
        unfold Mk_LInt
        exact rfl
      · rw [getD_set_ne e]
        exact hm i (by omega)
    · rw [getD_set_ne (by omega)]
      exact hrest i (by omega)
  · have : k = a.length := by omega
    subst this
    unfold laws_markIntS_L2
    simp only [hp, Int.lt_irrefl, decide_false, cond_false]
    rw [List.take_length]
    exact ⟨p, rfl, hp, hm⟩
theorem laws_heldIntS_i {n : Nat} (a p : List Int) (hp : p.length = a.length) (k0 : Int) (hk0 : 0 ≤ k0) (hb : k0 + ((n_LInt a : Nat) : Int) ≤ 900000000) (hw : w_LInt a ≤ 100000000) (hn : 1000000000 < n)
    (hm : ∀ i, i < a.length → Mk_LInt n (k0 + ((sumOf (fun y => 1) (a.take i) : Nat) : Int)) (a.getD i (0 : Int)) (p.getD i (0 : Int))) : laws_heldIntS n p k0 = some (k0 + ((n_LInt a : Nat) : Int)) := by
  have hw0 : a.length ≤ 100000000 := by have hw : w_LInt a = a.length := rfl; omega
  have hnA : n_LInt a = sumOf (fun y => 1) a := rfl
  unfold laws_heldIntS
  refine loopN_ind (fun x => a.length - x.2.toNat) (fun x => ∃ (k : Nat), k ≤ a.length ∧ x = (k0 + ((sumOf (fun y => 1) (a.take k) : Nat) : Int), (k : Int)))
    (fun x r => r = some (k0 + ((n_LInt a : Nat) : Int))) ?_ n _ ⟨0, by omega, by simp [sumOf]⟩ (by simp; omega)
  rintro _ J ⟨k, hk, rfl⟩ ih
  by_cases h : k < a.length
  · have h' : k < p.length := by omega
    have s1 := sumOf_take_succ (f := fun y => 1) (d := (0 : Int)) h
    have s2 := sumOf_take_le (fun y => 1) a (k + 1)
    try simp only at s1
    have hmk := hm k h
    unfold Mk_LInt at hmk
    obtain ⟨kk, hkk⟩ : ∃ kk : Int, kk = k0 + ((sumOf (fun y => 1) (a.take k) : Nat) : Int) := ⟨_, rfl⟩
    rw [← hkk] at hmk
    try simp (disch := omega) only [Int.add_assoc, Int.reduceAdd] at hmk
    have e0 := hmk
    have step : ∀ (K K2 : Int → Option Int) (J : Int → Int → Option Int), laws_heldIntS_L2 n K K2 J p kk (k : Int) = J (kk + 1) ((k : Int) + 1) := fun K K2 J => by
      unfold laws_heldIntS_L2
      simp (disch := omega) only [Int.ofNat_lt, h', decide_true, cond_true, ix_nat h', bd_eq, Int.toNat_natCast, w64_id, Int.add_assoc, Int.reduceAdd, Option.bind_some, Bool.not_true, cond_false, beq_self_eq_true, decide_eq_false_iff_not, Int.not_lt, bif_dec, if_neg, e0]
    dsimp only
    rw [← hkk]
    refine (step _ _ _).trans ?_
    exact ih (_, _) ⟨k + 1, h, Prod.ext (by dsimp only; omega) (by dsimp only; omega)⟩ (by dsimp only; omega)
  · have : k = a.length := by omega
    subst this
    unfold laws_heldIntS_L2
    simp only [hp, Int.lt_irrefl, decide_false, cond_false]
    rw [List.take_length]
    rfl
theorem laws_markIntS_ok {n : Nat} (a : List Int) (k0 : Int) (hk0 : 0 ≤ k0) (hb : k0 + ((n_LInt a : Nat) : Int) ≤ 900000000) (hw : w_LInt a ≤ 100000000) (hn : 1000000000 < n) : ∃ p : List Int, laws_markIntS n a k0 = some (k0 + ((n_LInt a : Nat) : Int), p) ∧ laws_heldIntS n p k0 = some (k0 + ((n_LInt a : Nat) : Int)) := by
  obtain ⟨p, h1, h2, h3⟩ := laws_markIntS_i (n := n) a k0 hk0 hb hw hn
  exact ⟨p, h1, laws_heldIntS_i a p h2 k0 hk0 hb hw hn h3⟩
def Mk_LSFeature (n : Nat) (k : Int) (a x : SFeature) : Prop := x.Id = k ∧ x.Kind = k + 1 ∧ x.X = k + 2 ∧ x.Y = k + 3 ∧ laws_markText n (k + 4) = some x.Text
def n_LSFeature (a : List SFeature) : Nat := sumOf (fun y => 5) a
theorem n_LSFeature_eq (a : List SFeature) : n_LSFeature a = 5 * a.length := sumOf_const 5 a
theorem n_LSFeature_le (a : List SFeature) : n_LSFeature a ≤ 5 * w_LSFeature a := by
  have h := n_LSFeature_eq a
  have h2 : w_LSFeature a = a.length + sumOf (fun y : SFeature => w_SFeature y) a := rfl
  omega
theorem laws_markFeatureS_i {n : Nat} (a : List SFeature) (k0 : Int) (hk0 : 0 ≤ k0) (hb : k0 + ((n_LSFeature a : Nat) : Int) ≤ 900000000) (hw : w_LSFeature a ≤ 100000000) (hn : 1000000000 < n) :
    ∃ p : List SFeature, laws_markFeatureS n a k0 = some (k0 + ((n_LSFeature a : Nat) : Int), p) ∧ p.length = a.length ∧ ∀ i, i < a.length → Mk_LSFeature n (k0 + ((sumOf (fun y => 5) (a.take i) : Nat) : Int)) (a.getD i dSFeature) (p.getD i dSFeature) := by
  have hw0 : a.length ≤ 100000000 := by have hw : w_LSFeature a = a.length + sumOf (fun y => w_SFeature y) a := rfl; omega
  have hnA : n_LSFeature a = sumOf (fun y => 5) a := rfl
  unfold laws_markFeatureS
  refine loopN_ind (fun x => a.length - x.2.1.toNat) (fun x => ∃ (k : Nat) (p : List SFeature), k ≤ a.length ∧ x = (k0 + ((sumOf (fun y => 5) (a.take k) : Nat) : Int), (k : Int), p) ∧ p.length = a.length ∧
      (∀ i, i < k → Mk_LSFeature n (k0 + ((sumOf (fun y => 5) (a.take i) : Nat) : Int)) (a.getD i dSFeature) (p.getD i dSFeature)) ∧ ∀ i, k ≤ i → p.getD i dSFeature = a.getD i dSFeature)
    (fun x r => ∃ p : List SFeature, r = some (k0 + ((n_LSFeature a : Nat) : Int), p) ∧ p.length = a.length ∧ ∀ i, i < a.length → Mk_LSFeature n (k0 + ((sumOf (fun y => 5) (a.take i) : Nat) : Int)) (a.getD i dSFeature) (p.getD i dSFeature)) ?_ n _ ⟨0, a, by omega, by simp [sumOf], rfl, by omega, fun _ _ => rfl⟩ (by simp; omega)
  rintro _ J ⟨k, p, hk, rfl, hp, hm, hrest⟩ ih
  by_cases h : k < a.length
  · have h' : k < p.length := by omega
    have s1 := sumOf_take_succ (f := fun y => 5) (d := dSFeature) h
    have s2 := sumOf_take_le (fun y => 5) a (k + 1)
    try simp only at s1
    obtain ⟨kk, hkk⟩ : ∃ kk : Int, kk = k0 + ((sumOf (fun y => 5) (a.take k) : Nat) : Int) := ⟨_, rfl⟩
    have hpk := hrest k (Nat.le_refl _)
    have s3 := sumOf_mem (f := fun y => w_SFeature y) (d := dSFeature) h
    have hwx : w_LSFeature a = a.length + sumOf (fun y => w_SFeature y) a := rfl
    try simp only at s3
    have hwy : w_SFeature (a.getD k dSFeature) = ((a.getD k dSFeature).Text).size := rfl
    obtain ⟨t0, ht0⟩ := laws_markText_ok (n := n) (kk + 4) (by omega) hn
    have step : ∀ (K : Int → List SFeature → Option (Int × List SFeature)) (J : Int → Int → List SFeature → Option (Int × List SFeature)), laws_markFeatureS_L2 n K J kk (k : Int) p = J (kk + 5) ((k : Int) + 1) (p.set k (⟨(kk), (kk + 1), (kk + 2), (kk + 3), (t0)⟩ : SFeature)) := fun K J => by
      unfold laws_markFeatureS_L2
      simp (disch := omega) only [laws_markFeatureS_k0, Int.ofNat_lt, h', decide_true, cond_true, ix_nat h', List.length_set, chk_of, chk_true, bd_eq, getD_set h', List.set_set, hpk, Int.toNat_natCast, w64_id, Int.add_assoc, Int.reduceAdd, Option.bind_some, ht0]
    dsimp only
    rw [← hkk]
    refine (congrArg (fun z => ∃ q : List SFeature, z = some (k0 + ((n_LSFeature a : Nat) : Int), q) ∧ q.length = a.length ∧ ∀ i, i < a.length → Mk_LSFeature n (k0 + ((sumOf (fun y => 5) (a.take i) : Nat) : Int)) (a.getD i dSFeature) (q.getD i dSFeature)) (step _ _)).mpr ?_
    refine ih _ ⟨k + 1, _, h, Prod.ext (by dsimp only; omega) (Prod.ext (by dsimp only; omega) rfl), by simpa using hp, fun i hi => ?_, fun i hi => ?_⟩ (by dsimp only; omega)
    · by_cases e : i = k
      · subst e
        rw [getD_set h', ← hkk]
        unfold Mk_LSFeature
        exact ⟨rfl, rfl, rfl, rfl, ht0⟩
      · rw [getD_set_ne e]
        exact hm i (by omega)
    · rw [getD_set_ne (by omega)]
      exact hrest i (by omega)
  · have : k = a.length := by omega
    subst this
    unfold laws_markFeatureS_L2
    simp only [hp, Int.lt_irrefl, decide_false, cond_false]
    rw [List.take_length]
    exact ⟨p, rfl, hp, hm⟩
theorem laws_markFeatureS_ok {n : Nat} (a : List SFeature) (k0 : Int) (hk0 : 0 ≤ k0) (hb : k0 + ((n_LSFeature a : Nat) : Int) ≤ 900000000) (hw : w_LSFeature a ≤ 100000000) (hn : 1000000000 < n) : ∃ p : List SFeature, laws_markFeatureS n a k0 = some (k0 + ((n_LSFeature a : Nat) : Int), p) := by
  obtain ⟨p, h1, h2, h3⟩ := laws_markFeatureS_i (n := n) a k0 hk0 hb hw hn
  exact ⟨p, h1⟩
theorem laws_markChart_ok {n : Nat} (a : SChart) (k0 : Int) (hk0 : 0 ≤ k0) (hb : k0 + ((n_LInt a.Depths + n_LSFeature a.Features : Nat) : Int) ≤ 900000000) (hw : w_SChart a ≤ 100000000) (hn : 1000000000 < n) : ∃ w0 w1, laws_markChart n a k0 = some (k0 + ((n_LInt a.Depths + n_LSFeature a.Features : Nat) : Int), w0, w1) := by
  have hww : w_SChart a = w_LInt a.Depths + w_LSFeature a.Features := rfl
  obtain ⟨w0, x0, y0⟩ := laws_markIntS_ok (n := n) a.Depths (k0) (by omega) (by omega) (by omega) hn
  obtain ⟨w1, x1⟩ := laws_markFeatureS_ok (n := n) a.Features (k0 + (n_LInt a.Depths : Int)) (by omega) (by omega) (by omega) hn
  refine ⟨w0, w1, ?_⟩
  unfold laws_markChart
  simp only [x0, x1, Option.bind_some]
  first | done | (congr 2; omega)
end Go.Sm
end

section
set_option linter.unusedSimpArgs false
set_option linter.deprecated false
set_option linter.unusedSectionVars false
set_option linter.unusedVariables false
set_option linter.unusedSimpArgs false
namespace Go.Sm
attribute [local irreducible] bd chk ix loopN
theorem in_spec5 (n : Nat) (x a b : Int) : spec_l1In n x a b = some (decide (a ≤ x ∧ x ≤ b)) := by
  unfold spec_l1In
  by_cases h0 : a ≤ x <;> by_cases h1 : x ≤ b <;> simp [h0, h1]
theorem in_impl5 (n : Nat) (x a b : Int) : impl_in n x a b = some (decide (a ≤ x ∧ x ≤ b)) := by
  unfold impl_in
  by_cases h0 : a ≤ x <;> by_cases h1 : x ≤ b <;> simp [h0, h1]
def placeOk (c : SChart) (x y : Int) : Bool := decide (0 ≤ x ∧ x ≤ w64 (c.Wide - 1)) && decide (0 ≤ y ∧ y ≤ w64 (c.High - 1))
theorem place_spec (n : Nat) (c : SChart) (x y : Int) : spec_l6Place n c x y = some (placeOk c x y) := by
  unfold spec_l6Place placeOk
  simp only [in_spec5, bd_eq, Option.bind_some]
  cases decide (0 ≤ x ∧ x ≤ w64 (c.Wide - 1)) <;> rfl
theorem place_impl (n : Nat) (c : SChart) (x y : Int) : impl_Chart_place n c x y = some (placeOk c x y) := by
  unfold impl_Chart_place placeOk
  simp only [in_impl5, bd_eq, Option.bind_some]
  cases decide (0 ≤ x ∧ x ≤ w64 (c.Wide - 1)) <;> rfl
def featOk (c : SChart) (f : SFeature) : Bool := decide (1 ≤ f.Id ∧ f.Id ≤ 1000000) && (decide (1 ≤ f.Kind ∧ f.Kind ≤ 9) && (placeOk c f.X f.Y && decide ((f.Text.size : Int) ≤ 40)))
theorem feat_spec (n : Nat) (c : SChart) (f : SFeature) : spec_l6Feature n c f = some (featOk c f) := by
  unfold spec_l6Feature featOk
  simp only [in_spec5, place_spec, Option.bind_some]
  cases decide (1 ≤ f.Id ∧ f.Id ≤ 1000000) <;> cases decide (1 ≤ f.Kind ∧ f.Kind ≤ 9) <;> cases placeOk c f.X f.Y <;> rfl
theorem feat_impl (n : Nat) (c : SChart) (f : SFeature) : impl_Chart_featureOk n c f = some (featOk c f) := by
  unfold impl_Chart_featureOk featOk
  simp only [in_impl5, place_impl, Option.bind_some]
  cases decide (1 ≤ f.Id ∧ f.Id ≤ 1000000) <;> cases decide (1 ≤ f.Kind ∧ f.Kind ≤ 9) <;> cases placeOk c f.X f.Y <;> rfl
/-- The feature at i is right, and above the one before. -/
def featAt (c : SChart) (i : Nat) : Prop := featOk c (c.Features.getD i dSFeature) = true ∧ (0 < i → ¬ (c.Features.getD (i - 1) dSFeature).Id ≥ (c.Features.getD i dSFeature).Id)
instance (c : SChart) (i : Nat) : Decidable (featAt c i) := by unfold featAt; exact inferInstance
def featsOk (c : SChart) : Prop := ∀ i, i < c.Features.length → featAt c i
instance (c : SChart) : Decidable (featsOk c) := Nat.decidableBallLT _ _
def depthOk (d : Int) : Bool := decide (-1000 ≤ d ∧ d ≤ 10000)
def depthsOk (c : SChart) : Prop := ∀ i, i < c.Depths.length → depthOk (c.Depths.getD i 0) = true
instance (c : SChart) : Decidable (depthsOk c) := Nat.decidableBallLT _ _
theorem feats_spec {n : Nat} (c : SChart) (kr : Bool → Option Bool) (hk : kr = fun t => some t) (hl : c.Features.length ≤ 1048576) (hn : 1000000000 < n) :
    loopN (fun (x : Int) J' => spec_ChartOk_L9 n (some true) kr J' x c) n (0 : Int) = some (decide (featsOk c)) := by
  subst hk
  refine loopN_ind (fun x => c.Features.length - x.toNat) (fun x => ∃ k : Nat, k ≤ c.Features.length ∧ x = (k : Int) ∧ ∀ i, i < k → featAt c i) (fun x r => r = some (decide (featsOk c))) ?_ n _ ⟨0, by omega, rfl, by omega⟩ (by simp; omega)
  rintro _ J ⟨k, hk, rfl, hg⟩ ih
  unfold spec_ChartOk_L9
  by_cases h : k < c.Features.length
  · simp only [Int.ofNat_lt, h, decide_true, cond_true]
    unfold spec_ChartOk_k0
    simp only [ix_nat h, Int.toNat_natCast, bd_eq, feat_spec, Option.bind_some, bif_not]
    have hbad : ¬ featAt c k → some (decide (featsOk c)) = some false := fun hb => by rw [decide_eq_false (fun hf : featsOk c => hb (hf k h))]
    have hgo : featAt c k → J ((k + 1 : Nat) : Int) = some (decide (featsOk c)) := fun hf => ih _ ⟨k + 1, h, rfl, fun i hi => by
      by_cases e : i = k
      · rw [e]; exact hf
      · exact hg i (by omega)⟩ (by simp; omega)
    cases h1 : featOk c (c.Features.getD k dSFeature) with
    | false =>
      rw [hbad (fun hf => by rw [hf.1] at h1; cases h1)]
      rfl
    | true =>
      rw [cond_true]
      by_cases h0 : 0 < k
      · have e0 : decide ((k : Int) > 0) = true := decide_eq_true (by omega)
        have e1 : w64 ((k : Int) - 1) = ((k - 1 : Nat) : Int) := by rw [w64_id (by omega) (by omega)]; omega
        rw [e0, cond_true, e1, ix_nat (by omega), Int.toNat_natCast, bif_dec, w64_succ (by omega)]
        split
        · rename_i h2
          rw [hbad (fun hf => hf.2 h0 h2)]
        · rename_i h2
          exact hgo ⟨h1, fun _ => h2⟩
      · have e0 : decide ((k : Int) > 0) = false := decide_eq_false (by omega)
        rw [e0, cond_false, w64_succ (by omega)]
        exact hgo ⟨h1, fun h => absurd h h0⟩
  · have : k = c.Features.length := by omega
    subst this
    simp only [Int.lt_irrefl, decide_false, cond_false]
    rw [decide_eq_true (show featsOk c from hg)]
theorem feats_impl {n : Nat} (c : SChart) (hl : c.Features.length ≤ 1048576) (hn : 1000000000 < n) :
    loopN (fun (x : Int) J' => impl_ChartOk_L4 n (some true) (fun t => some t) J' c.Features (c.Features.length : Int) x c) n (0 : Int) = some (decide (featsOk c)) := by
  refine loopN_ind (fun x => c.Features.length - x.toNat) (fun x => ∃ k : Nat, k ≤ c.Features.length ∧ x = (k : Int) ∧ ∀ i, i < k → featAt c i) (fun x r => r = some (decide (featsOk c))) ?_ n _ ⟨0, by omega, rfl, by omega⟩ (by simp; omega)
  rintro _ J ⟨k, hk, rfl, hg⟩ ih
  unfold impl_ChartOk_L4
  by_cases h : k < c.Features.length
  · simp only [Int.ofNat_lt, h, decide_true, cond_true]
    unfold impl_ChartOk_k0
    simp only [ix_nat h, Int.toNat_natCast, bd_eq, feat_impl, Option.bind_some, bif_not]
    have hbad : ¬ featAt c k → some (decide (featsOk c)) = some false := fun hb => by rw [decide_eq_false (fun hf : featsOk c => hb (hf k h))]
    have hgo : featAt c k → J ((k + 1 : Nat) : Int) = some (decide (featsOk c)) := fun hf => ih _ ⟨k + 1, h, rfl, fun i hi => by
      by_cases e : i = k
      · rw [e]; exact hf
      · exact hg i (by omega)⟩ (by simp; omega)
    cases h1 : featOk c (c.Features.getD k dSFeature) with
    | false =>
      rw [hbad (fun hf => by rw [hf.1] at h1; cases h1)]
      rfl
    | true =>
      rw [cond_true]
      by_cases h0 : 0 < k
      · have e0 : decide ((k : Int) > 0) = true := decide_eq_true (by omega)
        have e1 : w64 ((k : Int) - 1) = ((k - 1 : Nat) : Int) := by rw [w64_id (by omega) (by omega)]; omega
        rw [e0, cond_true, e1, ix_nat (by omega), Int.toNat_natCast, bif_dec, w64_succ (by omega)]
        split
        · rename_i h2
          rw [hbad (fun hf => hf.2 h0 h2)]
        · rename_i h2
          exact hgo ⟨h1, fun _ => h2⟩
      · have e0 : decide ((k : Int) > 0) = false := decide_eq_false (by omega)
        rw [e0, cond_false, w64_succ (by omega)]
        exact hgo ⟨h1, fun h => absurd h h0⟩
  · have : k = c.Features.length := by omega
    subst this
    simp only [Int.lt_irrefl, decide_false, cond_false]
    rw [decide_eq_true (show featsOk c from hg)]
theorem depths_spec {n : Nat} (c : SChart) (kx : Option Bool) (hl : c.Depths.length ≤ 1048576) (hn : 1000000000 < n) :
    loopN (fun (x : Int) J' => spec_ChartOk_L4 n kx (fun t => some t) J' x c) n (0 : Int) = if depthsOk c then kx else some false := by
  refine loopN_ind (fun x => c.Depths.length - x.toNat) (fun x => ∃ k : Nat, k ≤ c.Depths.length ∧ x = (k : Int) ∧ ∀ i, i < k → depthOk (c.Depths.getD i 0) = true) (fun x r => r = if depthsOk c then kx else some false) ?_ n _ ⟨0, by omega, rfl, by omega⟩ (by simp; omega)
  rintro _ J ⟨k, hk, rfl, hg⟩ ih
  unfold spec_ChartOk_L4 spec_l6Depth
  by_cases h : k < c.Depths.length
  · simp only [Int.ofNat_lt, h, decide_true, cond_true, ix_nat h, Int.toNat_natCast, bd_eq, in_spec5, Option.bind_some, bif_not]
    cases h1 : depthOk (c.Depths.getD k 0) with
    | false =>
      rw [if_neg (fun hf : depthsOk c => by rw [hf k h] at h1; cases h1)]
      rw [depthOk] at h1
      rw [h1]
      rfl
    | true =>
      have h1' := h1
      rw [depthOk] at h1'
      rw [h1', cond_true, w64_succ (by omega)]
      exact ih _ ⟨k + 1, h, rfl, fun i hi => by
        by_cases e : i = k
        · rw [e]; exact h1
        · exact hg i (by omega)⟩ (by simp; omega)
  · have : k = c.Depths.length := by omega
    subst this
    simp only [Int.lt_irrefl, decide_false, cond_false]
    rw [if_pos (show depthsOk c from hg)]
theorem all_impl {n : Nat} (c : SChart) (hl : c.Depths.length ≤ 1048576) (hn : 1000000000 < n) : impl_all n c.Depths (-1000) 10000 = some (decide (depthsOk c)) := by
  unfold impl_all slices_ContainsFunc_int_int__impl_all_1
  have : ∃ r, slices_IndexFunc_int_int__impl_all_1 n c.Depths (-1000) 10000 = some r ∧ decide (r ≥ 0) = !decide (depthsOk c) := by
    unfold slices_IndexFunc_int_int__impl_all_1
    refine loopN_ind (fun x => c.Depths.length - x.toNat) (fun x => ∃ k : Nat, k ≤ c.Depths.length ∧ x = (k : Int) ∧ ∀ i, i < k → depthOk (c.Depths.getD i 0) = true) (fun x r => ∃ r', r = some r' ∧ decide (r' ≥ 0) = !decide (depthsOk c)) ?_ n _ ⟨0, by omega, rfl, by omega⟩ (by simp; omega)
    rintro _ J ⟨k, hk, rfl, hg⟩ ih
    unfold slices_IndexFunc_int_int__impl_all_1_L2 impl_all_1
    by_cases h : k < c.Depths.length
    · simp only [Int.ofNat_lt, h, decide_true, cond_true, ix_nat h, Int.toNat_natCast, in_impl5, Option.bind_some, bif_not]
      cases h1 : depthOk (c.Depths.getD k 0) with
      | false =>
        have h2 : decide (depthsOk c) = false := decide_eq_false (fun hf : depthsOk c => by rw [hf k h] at h1; cases h1)
        rw [depthOk] at h1
        rw [h1, h2]
        exact ⟨_, rfl, by simp⟩
      | true =>
        have h1' := h1
        rw [depthOk] at h1'
        rw [h1', cond_true, w64_succ (by omega)]
        exact ih _ ⟨k + 1, h, rfl, fun i hi => by
          by_cases e : i = k
          · rw [e]; exact h1
          · exact hg i (by omega)⟩ (by simp; omega)
    · have : k = c.Depths.length := by omega
      subst this
      simp only [Int.lt_irrefl, decide_false, cond_false]
      exact ⟨_, rfl, by rw [decide_eq_true (show depthsOk c from hg)]; rfl⟩
  obtain ⟨r, h1, h2⟩ := this
  rw [h1]
  simp only [Option.bind_some, h2, Bool.not_not]
def chOk (c : SChart) : Prop := (1 ≤ c.Wide ∧ c.Wide ≤ 12) ∧ (1 ≤ c.High ∧ c.High ≤ 12) ∧ (c.Depths.length : Int) = w64 (c.Wide * c.High) ∧ (c.Features.length : Int) ≤ 30 ∧ (0 ≤ c.Edition ∧ c.Edition ≤ 1000000) ∧ depthsOk c ∧ featsOk c
instance (c : SChart) : Decidable (chOk c) := by unfold chOk; exact inferInstance
theorem ch_spec {n : Nat} (c : SChart) (h1 : c.Depths.length ≤ 1048576) (h2 : c.Features.length ≤ 1048576) (hn : 1000000000 < n) : spec_ChartOk n c = some (decide (chOk c)) := by
  unfold spec_ChartOk
  simp only [in_spec5, Option.bind_some, bif_not, bd_eq, bif_dec, feats_spec c _ rfl h2 hn, depths_spec c _ h1 hn]
  by_cases a1 : 1 ≤ c.Wide ∧ c.Wide ≤ 12
  · by_cases a2 : 1 ≤ c.High ∧ c.High ≤ 12
    · by_cases a3 : (c.Depths.length : Int) = w64 (c.Wide * c.High)
      · by_cases a4 : (c.Features.length : Int) ≤ 30
        · by_cases a5 : 0 ≤ c.Edition ∧ c.Edition ≤ 1000000
          · by_cases a6 : depthsOk c
            · rw [if_pos a1, if_pos a2, if_pos a3, if_neg (by omega), if_pos a5, if_pos a6]
              exact congrArg some (decide_eq_decide.2 ⟨fun h => ⟨a1, a2, a3, a4, a5, a6, h⟩, fun h => h.2.2.2.2.2.2⟩)
            · rw [if_pos a1, if_pos a2, if_pos a3, if_neg (by omega), if_pos a5, if_neg a6, decide_eq_false (fun h : chOk c => a6 h.2.2.2.2.2.1)]
          · rw [if_pos a1, if_pos a2, if_pos a3, if_neg (by omega), if_neg a5, decide_eq_false (fun h : chOk c => a5 h.2.2.2.2.1)]
        · rw [if_pos a1, if_pos a2, if_pos a3, if_pos (by omega), decide_eq_false (fun h : chOk c => a4 h.2.2.2.1)]
      · rw [if_pos a1, if_pos a2, if_neg a3, decide_eq_false (fun h : chOk c => a3 h.2.2.1)]
    · rw [if_pos a1, if_neg a2, decide_eq_false (fun h : chOk c => a2 h.2.1)]
  · rw [if_neg a1, decide_eq_false (fun h : chOk c => a1 h.1)]
theorem ch_impl {n : Nat} (c : SChart) (h1 : c.Depths.length ≤ 1048576) (h2 : c.Features.length ≤ 1048576) (hn : 1000000000 < n) : impl_ChartOk n c = some (decide (chOk c)) := by
  unfold impl_ChartOk
  simp only [in_impl5, Option.bind_some, bif_not, bd_eq, bif_dec, feats_impl c h2 hn, all_impl c h1 hn]
  by_cases a1 : 1 ≤ c.Wide ∧ c.Wide ≤ 12
  · by_cases a2 : 1 ≤ c.High ∧ c.High ≤ 12
    · by_cases a3 : (c.Depths.length : Int) = w64 (c.Wide * c.High)
      · by_cases a6 : depthsOk c
        · by_cases a4 : (c.Features.length : Int) ≤ 30
          · by_cases a5 : 0 ≤ c.Edition ∧ c.Edition ≤ 1000000
            · rw [if_pos a1, if_pos a2, if_pos a3, if_pos a6, if_neg (by omega), if_pos a5]
              exact congrArg some (decide_eq_decide.2 ⟨fun h => ⟨a1, a2, a3, a4, a5, a6, h⟩, fun h => h.2.2.2.2.2.2⟩)
            · rw [if_pos a1, if_pos a2, if_pos a3, if_pos a6, if_neg (by omega), if_neg a5, decide_eq_false (fun h : chOk c => a5 h.2.2.2.2.1)]
          · rw [if_pos a1, if_pos a2, if_pos a3, if_pos a6, if_pos (by omega), decide_eq_false (fun h : chOk c => a4 h.2.2.2.1)]
        · rw [if_pos a1, if_pos a2, if_pos a3, if_neg a6, decide_eq_false (fun h : chOk c => a6 h.2.2.2.2.2.1)]
      · rw [if_pos a1, if_pos a2, if_neg a3, decide_eq_false (fun h : chOk c => a3 h.2.2.1)]
    · rw [if_pos a1, if_neg a2, decide_eq_false (fun h : chOk c => a2 h.2.1)]
  · rw [if_neg a1, decide_eq_false (fun h : chOk c => a1 h.1)]
end Go.Sm
end

section
set_option linter.unusedSimpArgs false
set_option linter.deprecated false
set_option linter.unusedSectionVars false
set_option linter.unusedVariables false
set_option linter.unusedSimpArgs false
namespace Go.Sm
attribute [local irreducible] bd chk ix loopN
theorem place_iff {c : SChart} {x y : Int} (hw : 1 ≤ c.Wide ∧ c.Wide ≤ 12) (hh : 1 ≤ c.High ∧ c.High ≤ 12) (h : placeOk c x y = true) : (0 ≤ x ∧ x ≤ 11) ∧ 0 ≤ y ∧ y ≤ 11 := by
  unfold placeOk at h
  rw [w64_id (by omega) (by omega), w64_id (by omega) (by omega)] at h
  simp only [Bool.and_eq_true, decide_eq_true_eq] at h
  omega
def absI (v : Int) : Int := if v < 0 then 0 - v else v
theorem absI_rng {v : Int} (h : -11 ≤ v ∧ v ≤ 11) : 0 ≤ absI v ∧ absI v ≤ 11 := by
  unfold absI; split <;> omega
theorem size_spec (n : Nat) {v : Int} (h : -100 ≤ v ∧ v ≤ 100) : spec_l3Size n v = some (absI v) := by
  unfold spec_l3Size absI
  rw [bif_dec]
  split
  · rw [w64_id (by omega) (by omega)]
  · rfl
theorem size_impl (n : Nat) {v : Int} (h : -100 ≤ v ∧ v ≤ 100) : impl_size n v = some (absI v) := by
  unfold impl_size absI
  rw [bif_dec]
  split
  · rw [w64_id (by omega) (by omega)]
  · rfl
def dstF (x y : Int) (f : SFeature) : Int := absI (f.X - x) + absI (f.Y - y)
def pairF (x y : Int) (f : SFeature) : SArr2_Int := ⟨dstF x y f, f.Id⟩
structure NearOk (F : List SFeature) (x y : Int) : Prop where
  len : F.length ≤ 30
  inc : F.Pairwise fun a b => a.Id < b.Id
  rng : ∀ f ∈ F, (-11 ≤ f.X - x ∧ f.X - x ≤ 11) ∧ -11 ≤ f.Y - y ∧ f.Y - y ≤ 11
theorem ids_lt {c : SChart} (h : featsOk c) : ∀ j i, i < j → j < c.Features.length → (c.Features.getD i dSFeature).Id < (c.Features.getD j dSFeature).Id
  | 0, i, hi, _ => absurd hi (Nat.not_lt_zero _)
  | j + 1, i, hi, hj => by
    have h1 := (h (j + 1) hj).2 (by omega)
    simp only [Nat.add_sub_cancel] at h1
    by_cases e : i = j
    · rw [e]; omega
    · have := ids_lt h j i (by omega) (by omega)
      omega
theorem near_ok {c : SChart} (h : chOk c) {x y : Int} (hp : placeOk c x y = true) : NearOk c.Features x y := by
  obtain ⟨h1, h2, _, h4, _, _, h7⟩ := h
  have hxy := place_iff h1 h2 hp
  refine ⟨by omega, ?_, fun f hf => ?_⟩
  · rw [List.pairwise_iff_getElem]
    intro i j hi hj hij
    have := ids_lt h7 j i hij hj
    rwa [getD_eq hi, getD_eq hj] at this
  · obtain ⟨i, hi, rfl⟩ := List.getElem_of_mem hf
    have h3 := (h7 i hi).1
    rw [getD_eq hi] at h3
    unfold featOk at h3
    simp only [Bool.and_eq_true] at h3
    have := place_iff h1 h2 h3.2.2.1
    omega
theorem dst_rng {F : List SFeature} {x y : Int} (h : NearOk F x y) {f : SFeature} (hf : f ∈ F) : 0 ≤ dstF x y f ∧ dstF x y f ≤ 22 := by
  obtain ⟨h1, h2⟩ := h.rng f hf
  have := absI_rng h1
  have := absI_rng h2
  unfold dstF
  omega
/-! ### By rings -/
def ringL (F : List SFeature) (x y : Int) (d : Nat) : List SFeature := F.filter fun f => decide (dstF x y f = (d : Int))
def ringsL (F : List SFeature) (x y : Int) : Nat → List SArr2_Int
  | 0 => []
  | d + 1 => ringsL F x y d ++ (ringL F x y d).map (pairF x y)
theorem rings_perm {F : List SFeature} {x y : Int} (h : NearOk F x y) : ∀ d : Nat, (ringsL F x y d).Perm ((F.filter fun f => decide (dstF x y f < (d : Int))).map (pairF x y))
  | 0 => by
    have : (F.filter fun f => decide (dstF x y f < ((0 : Nat) : Int))) = [] := by
      rw [List.filter_eq_nil_iff]
      intro f hf
      have := dst_rng h hf
      simp only [decide_eq_true_eq]
      omega
    rw [this]
    exact List.Perm.refl _
  | d + 1 => by
    have h1 := rings_perm h d
    have h2 : ((F.filter fun f => decide (dstF x y f < (d : Int))) ++ ringL F x y d).Perm (F.filter fun f => decide (dstF x y f < ((d + 1 : Nat) : Int))) := by
      have := List.filter_append_perm (fun f => decide (dstF x y f < (d : Int))) (F.filter fun f => decide (dstF x y f < ((d + 1 : Nat) : Int)))
      rw [List.filter_filter, List.filter_filter] at this
      have e1 : (F.filter fun f => decide (dstF x y f < (d : Int)) && decide (dstF x y f < ((d + 1 : Nat) : Int))) = F.filter fun f => decide (dstF x y f < (d : Int)) := List.filter_congr fun f _ => by
        by_cases e : dstF x y f < (d : Int)
        · rw [decide_eq_true e, decide_eq_true (by omega)]; rfl
        · rw [decide_eq_false e]; rfl
      have e2 : (F.filter fun f => !decide (dstF x y f < (d : Int)) && decide (dstF x y f < ((d + 1 : Nat) : Int))) = ringL F x y d := List.filter_congr fun f _ => by
        rw [Bool.eq_iff_iff]
        simp only [Bool.and_eq_true, Bool.not_eq_true', decide_eq_false_iff_not, decide_eq_true_eq]
        omega
      rw [e1, e2] at this
      exact this
    show (ringsL F x y d ++ (ringL F x y d).map (pairF x y)).Perm _
    refine (h1.append (List.Perm.refl _)).trans ?_
    rw [← List.map_append]
    exact h2.map _
def lexlt (a b : SArr2_Int) : Prop := a.x0 < b.x0 ∨ (a.x0 = b.x0 ∧ a.x1 < b.x1)
theorem rings_lt {F : List SFeature} {x y : Int} : ∀ (d : Nat) (a : SArr2_Int), a ∈ ringsL F x y d → a.x0 < (d : Int)
  | 0, a, h => by cases h
  | d + 1, a, h => by
    rcases List.mem_append.1 h with h | h
    · have := rings_lt d a h; omega
    · obtain ⟨f, hf, rfl⟩ := List.mem_map.1 h
      have := (List.mem_filter.1 hf).2
      simp only [decide_eq_true_eq] at this
      show dstF x y f < _
      omega
theorem rings_sorted {F : List SFeature} {x y : Int} (h : NearOk F x y) : ∀ d : Nat, (ringsL F x y d).Pairwise lexlt
  | 0 => List.Pairwise.nil
  | d + 1 => by
    refine List.pairwise_append.2 ⟨rings_sorted h d, ?_, fun a ha b hb => ?_⟩
    · rw [List.pairwise_map]
      refine List.Pairwise.imp_of_mem (fun {a b} ha hb hab => ?_) (h.inc.filter fun f => decide (dstF x y f = (d : Int)))
      have h1 := (List.mem_filter.1 ha).2
      have h2 := (List.mem_filter.1 hb).2
      simp only [decide_eq_true_eq] at h1 h2
      exact .inr ⟨by show dstF x y a = dstF x y b; omega, hab⟩
    · have h1 := rings_lt d a ha
      obtain ⟨f, hf, rfl⟩ := List.mem_map.1 hb
      have h2 := (List.mem_filter.1 hf).2
      simp only [decide_eq_true_eq] at h2
      exact .inl (by show a.x0 < dstF x y f; omega)
def cfP (a b : SArr2_Int) : Int := if a.x0 < b.x0 then -1 else if a.x0 > b.x0 then 1 else if a.x1 < b.x1 then -1 else if a.x1 > b.x1 then 1 else 0
theorem cfP_lt {a b : SArr2_Int} : cfP a b < 0 ↔ lexlt a b := by
  unfold cfP lexlt
  split
  · omega
  · split
    · omega
    · split
      · omega
      · split <;> omega
theorem compare_int (n : Nat) (x y : Int) : cmp_Compare_int n x y = some (if x < y then -1 else if x > y then 1 else 0) := by
  unfold cmp_Compare_int cmp_isNaN_int
  simp only [decide_true, Bool.not_true, Option.bind_some, cond_false, bif_dec]
  by_cases h : x < y
  · rw [if_pos h, if_pos h]
  · rw [if_neg h, if_neg h]
    split <;> rfl
theorem cmpP {n : Nat} (a b : SArr2_Int) (hn : 1000000000 < n) : impl_Near6_1 n a b = some (cfP a b) := by
  obtain ⟨m, rfl⟩ : ∃ m, n = m + 3 := ⟨n - 3, by omega⟩
  unfold impl_Near6_1 slices_Compare_int_int
  have e : loopN (fun (x : Int) J' => slices_Compare_int_int_L2 (m + 3) ((bif (decide ((([a.x0, a.x1] : List Int).length : Int) < (([b.x0, b.x1] : List Int).length : Int))) then some ((-1 : Int)) else some ((0 : Int)))) (fun t14 => some (t14)) J' [a.x0, a.x1] [b.x0, b.x1] [a.x0, a.x1] (([a.x0, a.x1] : List Int).length : Int) x) (m + 3) (0 : Int) = some (cfP a b) := by
    rw [loopN_succ]
    unfold slices_Compare_int_int_L2 slices_Compare_int_int_k0
    have i0 : ∀ {R : Type} {x : Option R}, ix (0 : Int) 2 x = x := fun {R x} => ix_of (by omega) (by omega)
    have i1 : ∀ {R : Type} {x : Option R}, ix (1 : Int) 2 x = x := fun {R x} => ix_of (by omega) (by omega)
    simp only [List.length_cons, List.length_nil, Nat.zero_add, Nat.reduceAdd, Int.ofNat_eq_natCast, Int.reduceLT, show ((0 : Int) < ((2 : Nat) : Int)) = True from by simp, decide_true, cond_true, i0, show decide ((0 : Int) ≥ ((2 : Nat) : Int)) = false from rfl, cond_false, compare_int, Option.bind_some, Int.toNat_zero, List.getD_cons_zero]
    unfold cfP
    by_cases h1 : a.x0 < b.x0
    · simp only [if_pos h1]; rfl
    · by_cases h2 : a.x0 > b.x0
      · simp only [if_neg h1, if_pos h2]; rfl
      · simp only [if_neg h1, if_neg h2, decide_true, Bool.not_true, cond_false]
        rw [show w64 ((0 : Int) + 1) = 1 from w64_id (by omega) (by omega), loopN_succ]
        simp only [show decide ((1 : Int) < ((2 : Nat) : Int)) = true from rfl, cond_true, i1, show decide ((1 : Int) ≥ ((2 : Nat) : Int)) = false from rfl, cond_false, Option.bind_some, show Int.toNat 1 = 1 from rfl, List.getD_cons_succ, List.getD_cons_zero]
        by_cases h3 : a.x1 < b.x1
        · simp only [if_pos h3]; rfl
        · by_cases h4 : a.x1 > b.x1
          · simp only [if_neg h3, if_pos h4]; rfl
          · simp only [if_neg h3, if_neg h4, decide_true, Bool.not_true, cond_false]
            rw [show w64 ((1 : Int) + 1) = 2 from w64_id (by omega) (by omega), loopN_succ]
            rfl
  rw [e]
  rfl
theorem near_sort {n : Nat} {F : List SFeature} {x y : Int} (h : NearOk F x y) {far : Nat} (hn : 1000000000 < n) :
    slices_SortFunc_2_int_2_int__impl_Near6_1 n ((F.filter fun f => decide (dstF x y f < ((far + 1 : Nat) : Int))).map (pairF x y)) = some (ringsL F x y (far + 1)) := by
  unfold slices_SortFunc_2_int_2_int__impl_Near6_1
  have hlen : ((F.filter fun f => decide (dstF x y f < ((far + 1 : Nat) : Int))).map (pairF x y)).length ≤ 30 := by
    rw [List.length_map]
    exact Nat.le_trans (List.length_filter_le _ _) h.len
  obtain ⟨l', h1, h2, h3⟩ := sortL_ok (d := dSArr2_Int) (cmp := fun a b => impl_Near6_1 n a b) (cf := cfP) (l := (F.filter fun f => decide (dstF x y f < ((far + 1 : Nat) : Int))).map (pairF x y))
    (fun a _ b _ => cmpP a b hn) (fun a _ => by rw [cfP_lt]; unfold lexlt; omega) (fun a _ b _ c _ => by simp only [cfP_lt]; unfold lexlt; omega) (fun a _ b _ c _ => by simp only [cfP_lt]; unfold lexlt; omega) (by omega)
  rw [h1]
  congr 1
  refine List.Perm.eq_of_pairwise (le := fun a b => ¬ lexlt b a) ?_ (h3.imp fun h => by rwa [cfP_lt] at h) ((rings_sorted h (far + 1)).imp fun h => by unfold lexlt at *; omega) (h2.trans (rings_perm h (far + 1)).symm)
  intro a b _ _ h4 h5
  unfold lexlt at h4 h5
  cases a
  cases b
  simp only [SArr2_Int.mk.injEq]
  dsimp only at h4 h5
  omega
end Go.Sm
end

section
set_option linter.unusedSimpArgs false
set_option linter.deprecated false
set_option linter.unusedSectionVars false
set_option linter.unusedVariables false
set_option linter.unusedSimpArgs false
namespace Go.Sm
attribute [local irreducible] bd chk ix loopN
def nearR (c : SChart) (x y far : Int) : List Int := if chOk c ∧ placeOk c x y = true ∧ (0 ≤ far ∧ far ≤ 100) then (ringsL c.Features x y (far.toNat + 1)).map (fun p => p.x1) else []
theorem rings_len {F : List SFeature} {x y : Int} (h : NearOk F x y) (d : Nat) : (ringsL F x y d).length ≤ 30 := by
  rw [(rings_perm h d).length_eq, List.length_map]
  exact Nat.le_trans (List.length_filter_le _ _) h.len
theorem filter_take_succ {α : Type} {l : List α} {p : α → Bool} {k : Nat} {d : α} (h : k < l.length) : (l.take (k + 1)).filter p = (l.take k).filter p ++ (bif p (l.getD k d) then [l.getD k d] else []) := by
  rw [take_succ_getD (d := d) h, List.filter_append]
  cases hp : p (l.getD k d) with
  | true => simp [List.filter, hp, -List.getD_eq_getElem?_getD]
  | false => simp [List.filter, hp, -List.getD_eq_getElem?_getD]
theorem filter_take_len {α : Type} (l : List α) (p : α → Bool) (k : Nat) : ((l.take k).filter p).length ≤ l.length := by
  have h1 := List.length_filter_le p (l.take k)
  have h2 : (l.take k).length ≤ l.length := by rw [List.length_take]; omega
  omega
theorem near_spec {n : Nat} (c : SChart) (x y far : Int) (h1 : c.Depths.length ≤ 1048576) (h2 : c.Features.length ≤ 1048576) (hn : 1000000000 < n) : spec_Near6 n c x y far = some (nearR c x y far) := by
  unfold spec_Near6 nearR
  rw [ch_spec c h1 h2 hn, place_spec, in_spec5]
  simp only [Option.bind_some, bif_not]
  by_cases hc : chOk c
  · rw [decide_eq_true hc, cond_true]
    cases hp : placeOk c x y with
    | false =>
      rw [if_neg (fun h => by cases h.2.1)]
      rfl
    | true =>
      rw [cond_true]
      by_cases hf : 0 ≤ far ∧ far ≤ 100
      · rw [decide_eq_true hf, cond_true, if_pos ⟨hc, rfl, hf⟩]
        obtain ⟨r, rfl⟩ : ∃ r : Nat, far = (r : Int) := ⟨far.toNat, by omega⟩
        rw [Int.toNat_natCast]
        have hN := near_ok hc hp
        generalize hF : c.Features = F at hN
        have hlF : F.length = c.Features.length := by rw [hF]
        refine loop_runS (S := List Int) (enc := fun d s => (d, s)) (len := r + 1) (I := fun d s => s = (ringsL F x y d).map (fun p => p.x1)) (Q := fun z => z = some ((ringsL F x y (r + 1)).map (fun p => p.x1))) (fun d s J hd hi => ?_) (fun s J hi => ?_) (by omega) (s0 := []) rfl
        · refine ⟨_, rfl, ?_⟩
          subst hi
          have hb := rings_len hN d
          show spec_Near6_L5 n _ _ x y (r : Int) (d : Int) c _ = _
          unfold spec_Near6_L5
          rw [decide_eq_true (by omega), cond_true]
          refine loop_runS (S := List Int) (enc := fun i s => (i, s)) (len := F.length) (I := fun i s => s = (ringsL F x y d).map (fun p => p.x1) ++ ((F.take i).filter fun f => decide (dstF x y f = (d : Int))).map (fun f => f.Id)) (Q := fun z => z = J (((d + 1 : Nat) : Int), (ringsL F x y (d + 1)).map (fun p => p.x1))) (fun i s J2 hi hs => ?_) (fun s J2 hs => ?_) (by omega) (s0 := _) (by simp)
          · refine ⟨_, rfl, ?_⟩
            subst hs
            obtain ⟨b1, b2⟩ := hN.rng _ (getD_mem (d := dSFeature) hi)
            have b3 := dst_rng hN (getD_mem (d := dSFeature) hi)
            have hlen := filter_take_len F (fun f => decide (dstF x y f = (d : Int))) i
            show spec_Near6_L8 n _ _ x y (r : Int) (d : Int) (i : Int) c _ = _
            unfold spec_Near6_L8 spec_Near6_k0
            rw [filter_take_succ (d := dSFeature) hi]
            simp only [hF, Int.ofNat_lt, hi, decide_true, cond_true, ix_nat hi, Int.toNat_natCast, bd_eq]
            rw [w64_id (x := (F.getD i dSFeature).X - x) (by omega) (by omega), w64_id (x := (F.getD i dSFeature).Y - y) (by omega) (by omega), size_spec n (by omega), Option.bind_some, size_spec n (by omega), Option.bind_some]
            change (bif decide (w64 (dstF x y (F.getD i dSFeature)) = (d : Int)) then _ else _) = _
            rw [w64_id (by omega) (by omega), w64_succ (by omega)]
            cases decide (dstF x y (F.getD i dSFeature) = (d : Int)) with
            | true =>
              rw [cond_true, cond_true, chk_dec (by simp only [List.length_append, List.length_map, List.length_singleton]; have := hN.len; omega)]
              simp only [List.map_append, List.map_cons, List.map_nil, List.append_assoc]
            | false =>
              rw [cond_false, cond_false]
              simp only [List.append_nil]
          · subst hs
            show spec_Near6_L8 n _ _ x y (r : Int) (d : Int) (F.length : Int) c _ = _
            unfold spec_Near6_L8
            rw [hF, decide_eq_false (by omega), cond_false, w64_succ (by omega), List.take_length]
            show _ = J (_, (ringsL F x y d ++ (ringL F x y d).map (pairF x y)).map (fun p => p.x1))
            rw [List.map_append, List.map_map]
            rfl
        · subst hi
          show spec_Near6_L5 n _ _ x y (r : Int) ((r + 1 : Nat) : Int) c _ = _
          unfold spec_Near6_L5
          rw [decide_eq_false (by omega), cond_false]
      · rw [decide_eq_false hf, cond_false, if_neg (fun h => hf h.2.2)]
  · rw [decide_eq_false hc, cond_false, if_neg (fun h => hc h.1)]
theorem near_impl {n : Nat} (c : SChart) (x y far : Int) (h1 : c.Depths.length ≤ 1048576) (h2 : c.Features.length ≤ 1048576) (hn : 1000000000 < n) : impl_Near6 n c x y far = some (nearR c x y far) := by
  unfold impl_Near6 nearR
  rw [ch_impl c h1 h2 hn, place_impl, in_impl5]
  simp only [Option.bind_some, bif_not]
  by_cases hc : chOk c
  · rw [decide_eq_true hc, cond_true]
    cases hp : placeOk c x y with
    | false =>
      rw [if_neg (fun h => by cases h.2.1)]
      rfl
    | true =>
      rw [cond_true]
      by_cases hf : 0 ≤ far ∧ far ≤ 100
      · rw [decide_eq_true hf, cond_true, if_pos ⟨hc, rfl, hf⟩]
        obtain ⟨r, rfl⟩ : ∃ r : Nat, far = (r : Int) := ⟨far.toNat, by omega⟩
        rw [Int.toNat_natCast]
        have hN := near_ok hc hp
        unfold impl_Near6_k1
        generalize hF : c.Features = F at hN
        refine loop_runS (S := List SArr2_Int) (enc := fun d s => (d, s)) (len := F.length) (I := fun i s => s = ((F.take i).filter fun f => decide (dstF x y f < ((r + 1 : Nat) : Int))).map (pairF x y)) (Q := fun z => z = some ((ringsL F x y (r + 1)).map (fun p => p.x1))) (fun i s J2 hi hs => ?_) (fun s J hi => ?_) (by have := hN.len; omega) (s0 := []) rfl
        · refine ⟨_, rfl, ?_⟩
          subst hs
          obtain ⟨b1, b2⟩ := hN.rng _ (getD_mem (d := dSFeature) hi)
          have b3 := dst_rng hN (getD_mem (d := dSFeature) hi)
          have hlen := filter_take_len F (fun f => decide (dstF x y f < ((r + 1 : Nat) : Int))) i
          have hl := hN.len
          show impl_Near6_L5 n _ _ x y (r : Int) F (F.length : Int) (i : Int) _ = _
          unfold impl_Near6_L5 impl_Near6_k0
          rw [filter_take_succ (d := dSFeature) hi]
          simp only [Int.ofNat_lt, hi, decide_true, cond_true, ix_nat hi, Int.toNat_natCast, bd_eq]
          rw [w64_id (x := (F.getD i dSFeature).X - x) (by omega) (by omega), w64_id (x := (F.getD i dSFeature).Y - y) (by omega) (by omega), size_impl n (by omega), Option.bind_some, size_impl n (by omega), Option.bind_some]
          change (bif decide (w64 (dstF x y (F.getD i dSFeature)) ≤ (r : Int)) then chk (decide ((_ ++ [(⟨w64 (dstF x y (F.getD i dSFeature)), _⟩ : SArr2_Int)]).length * 16 ≤ _)) (J2 (_, _ ++ [(⟨w64 (dstF x y (F.getD i dSFeature)), _⟩ : SArr2_Int)])) else _) = _
          rw [w64_id (by omega) (by omega), w64_succ (by omega)]
          by_cases e : dstF x y (F.getD i dSFeature) ≤ (r : Int)
          · have e' : decide (dstF x y (F.getD i dSFeature) < ((r + 1 : Nat) : Int)) = true := decide_eq_true (by omega)
            rw [decide_eq_true e, e', cond_true, cond_true, chk_dec (by simp only [List.length_append, List.length_map, List.length_singleton]; omega)]
            simp only [List.map_append, List.map_cons, List.map_nil]
            rfl
          · have e' : decide (dstF x y (F.getD i dSFeature) < ((r + 1 : Nat) : Int)) = false := decide_eq_false (by omega)
            rw [decide_eq_false e, e', cond_false, cond_false]
            simp only [List.append_nil]
        · subst hi
          show impl_Near6_L5 n _ _ x y (r : Int) F (F.length : Int) (F.length : Int) _ = _
          unfold impl_Near6_L5
          rw [decide_eq_false (by omega), cond_false, List.take_length]
          dsimp only
          rw [near_sort hN hn, Option.bind_some]
          have hb := rings_len hN (r + 1)
          generalize ringsL F x y (r + 1) = G at *
          refine loop_runS (S := List Int) (enc := fun d s => (d, s)) (len := G.length) (I := fun i s => s = (G.take i).map (fun p => p.x1)) (Q := fun z => z = some (G.map (fun p => p.x1))) (fun i s J2 hi hs => ?_) (fun s J hi => ?_) (by omega) (s0 := []) rfl
          · refine ⟨_, rfl, ?_⟩
            subst hs
            show impl_Near6_L14 n _ _ (G.length : Int) (i : Int) _ G = _
            unfold impl_Near6_L14
            rw [take_succ_getD (d := dSArr2_Int) hi]
            simp only [Int.ofNat_lt, hi, decide_true, cond_true, ix_nat hi, Int.toNat_natCast, bd_eq, chk_true]
            rw [chk_dec (by simp only [List.length_append, List.length_map, List.length_singleton, List.length_take]; omega), w64_succ (by omega)]
            simp only [List.map_append, List.map_cons, List.map_nil]
          · subst hi
            show impl_Near6_L14 n _ _ (G.length : Int) (G.length : Int) _ G = _
            unfold impl_Near6_L14
            rw [decide_eq_false (by omega), cond_false, List.take_length]
            have : impl_own_int n (G.map fun p => p.x1) = some (G.map fun p => p.x1) := by
              unfold impl_own_int
              rw [chk_dec (by rw [List.length_map]; omega), chk_dec (by rw [List.length_map]; omega), chk_dec (by rw [List.length_map]; omega)]
            dsimp only
            rw [this, Option.bind_some]
      · rw [decide_eq_false hf, cond_false, if_neg (fun h => hf h.2.2)]
  · rw [decide_eq_false hc, cond_false, if_neg (fun h => hc h.1)]
theorem nearR_len (c : SChart) (x y far : Int) : (nearR c x y far).length ≤ 30 := by
  unfold nearR
  split
  · rename_i h
    rw [List.length_map]
    exact rings_len (near_ok h.1 h.2.1) _
  · exact Nat.zero_le _
end Go.Sm
end

section
set_option linter.unusedSimpArgs false
set_option linter.deprecated false
set_option linter.unusedSectionVars false
set_option linter.unusedVariables false
set_option linter.unusedSimpArgs false
namespace Go.Sm
attribute [local irreducible] bd chk ix loopN
theorem laws_FnExactNear6_true (aC0 : SChart) (aX1 : Int) (aY2 : Int) (aFar3 : Int) (h0 : wfSChart aC0) (h1 : rng (-9223372036854775808) 9223372036854775807 aX1) (h2 : rng (-9223372036854775808) 9223372036854775807 aY2) (h3 : rng (-9223372036854775808) 9223372036854775807 aFar3) : ∃ n, laws_FnExactNear6 n aC0 aX1 aY2 aFar3 = some true := by
  refine ⟨1000000001, ?_⟩
  generalize hN : (1000000001 : Nat) = n
  have hn : 1000000000 < n := by omega
  unfold laws_FnExactNear6
  rw [laws_szChart_ok (n := n) aC0 (left := 1048576) h0 (by omega) (by omega) hn, Option.bind_some]
  refine guard_sz fun hw => ?_
  have w1 : w_SChart aC0 = w_LInt aC0.Depths + w_LSFeature aC0.Features := rfl
  have w2 : w_LInt aC0.Depths = aC0.Depths.length := rfl
  have w3 : w_LSFeature aC0.Features = aC0.Features.length + sumOf (fun y => w_SFeature y) aC0.Features := rfl
  have hS := near_spec (n := n) aC0 aX1 aY2 aFar3 (by omega) (by omega) hn
  have hI := near_impl (n := n) aC0 aX1 aY2 aFar3 (by omega) (by omega) hn
  have hl := nearR_len aC0 aX1 aY2 aFar3
  generalize nearR aC0 aX1 aY2 aFar3 = R at *
  have w4 : w_LInt R = R.length := rfl
  have n1 := n_LInt_le aC0.Depths
  have n2 := n_LSFeature_le aC0.Features
  have n3 := n_LInt_le R
  obtain ⟨u1, u2, m1⟩ := laws_markChart_ok (n := n) aC0 1 (by omega) (by omega) (by omega) hn
  obtain ⟨v1, p1, p2⟩ := laws_markIntS_ok (n := n) R 1 (by omega) (by omega) (by omega) hn
  have d1 : decide (1 + ((n_LInt aC0.Depths + n_LSFeature aC0.Features : Nat) : Int) < 0) = false := decide_eq_false (by omega)
  have d2 : decide (1 + ((n_LInt R : Nat) : Int) < 0) = false := decide_eq_false (by omega)
  have e1 : (⟨aC0.Wide, aC0.High, aC0.Depths, aC0.Features, aC0.Edition⟩ : SChart) = aC0 := rfl
  unfold laws_FnExactNear6_k3 laws_FnExactNear6_k2 laws_FnExactNear6_k1 laws_FnExactNear6_k0
  simp only [laws_toChart_ok aC0 (show _ ≤ 100000000 by omega) hn, hS, hI, Option.bind_some, laws_eqChart_ok aC0 (show _ ≤ 100000000 by omega) hn, laws_eqIntS_ok R (show _ ≤ 100000000 by omega) hn,
    e1, m1, p1, p2, d1, d2, decide_true, beq_self_eq_true, Bool.not_true, cond_false, cond_true]
end Go.Sm
end
