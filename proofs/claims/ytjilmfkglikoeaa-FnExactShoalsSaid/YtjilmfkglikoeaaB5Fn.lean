import Derived.Test.YtjilmfkglikoeaaEngA
/- The functions as plain functions over data, and that the law answers true for all arguments. Proved here: laws.FnExactShoals returns true for every chart and every need, and leaves its arguments as they were; no conditions. -/
section
set_option linter.unusedSimpArgs false
set_option linter.deprecated false
set_option linter.unusedSectionVars false
set_option linter.unusedVariables false
namespace Go.Sm
structure SFeature where
  Id : Int
  Kind : Int
  X : Int
  Y : Int
  Text : ByteArray
structure SChart where
  Wide : Int
  High : Int
  Depths : List Int
  Features : List SFeature
  Edition : Int
def dSFeature : SFeature := ⟨(0 : Int), (0 : Int), (0 : Int), (0 : Int), str []⟩
def dSChart : SChart := ⟨(0 : Int), (0 : Int), [], [], (0 : Int)⟩
def laws_szIntS (n : Nat) (a0 : List Int) (left1 : Int) : Option Int :=
  (bd (w64 (left1 - (a0.length : Int))) fun (v1 : Int) => (bif (decide (v1 < (0 : Int))) then some ((-1 : Int)) else some (v1)))
def laws_szFeature (n : Nat) (a0 : SFeature) (left1 : Int) : Option Int :=
  (bd (w64 (left1 - (a0.Text.size : Int))) fun (v1 : Int) => (bif (decide (v1 < (0 : Int))) then some ((-1 : Int)) else some (v1)))
def laws_szFeatureS_L5 {R : Type} (n : Nat) (kx0 : Int → Option R) (kxr : Int → Option R) (J : Int → Int → Option R) (a3 : List SFeature) (left4 : Int) (i5 : Int) : Option R :=
  (bif (decide (i5 < (a3.length : Int))) then ix i5 a3.length ((bd (a3.getD i5.toNat dSFeature) fun (e12 : SFeature) => (laws_szFeature n e12 left4).bind fun r13 => (bif (decide (r13 < (0 : Int))) then kxr (-1 : Int) else J r13 (w64 (i5 + (1 : Int)))))) else kx0 left4)
def laws_szFeatureS (n : Nat) (a0 : List SFeature) (left1 : Int) : Option Int :=
  (bd (w64 (left1 - (a0.length : Int))) fun (v1 : Int) => (bif (decide (v1 < (0 : Int))) then some ((-1 : Int)) else loopN (fun (x : Int × Int) J' => laws_szFeatureS_L5 n (fun left20 => some (left20)) (fun t21 => some (t21)) (fun left22 i23 => J' (left22, i23)) a0 x.1 x.2) n (v1, (0 : Int))))
def laws_szChart (n : Nat) (a0 : SChart) (left1 : Int) : Option Int :=
  (laws_szIntS n a0.Depths left1).bind fun r1 => (bif (decide (r1 < (0 : Int))) then some ((-1 : Int)) else (laws_szFeatureS n a0.Features r1).bind fun r5 => (bif (decide (r5 < (0 : Int))) then some ((-1 : Int)) else some (r5)))
def laws_toIntS_L3 {R : Type} (n : Nat) (kx0 : List Int → Option R) (J : Int → List Int → Option R) (a1 : List Int) (i2 : Int) (out3 : List Int) : Option R :=
  (bif (decide (i2 < (a1.length : Int))) then ix i2 a1.length (ix i2 out3.length (chk (decide (i2.toNat < out3.length)) ((bd (out3.set i2.toNat (a1.getD i2.toNat (0 : Int))) fun (l7 : List Int) => J (w64 (i2 + (1 : Int))) l7)))) else kx0 out3)
def laws_toIntS (n : Nat) (a0 : List Int) : Option (List Int) :=
  chk (decide ((0 : Int) ≤ (a0.length : Int))) (chk (decide ((a0.length : Int) ≤ (a0.length : Int))) (chk (decide ((a0.length : Int) ≤ 9223372036854775807 ∧ (a0.length : Int) * (8 : Int) ≤ 281474976710656)) (loopN (fun (x : Int × List Int) J' => laws_toIntS_L3 n (fun out8 => some (out8)) (fun i9 out10 => J' (i9, out10)) a0 x.1 x.2) n ((0 : Int), (List.replicate (a0.length : Int).toNat (0 : Int))))))
def laws_toFeature (n : Nat) (a0 : SFeature) : Option SFeature :=
  some (a0)
def laws_toFeatureS_L3 {R : Type} (n : Nat) (kx0 : List SFeature → Option R) (J : Int → List SFeature → Option R) (a1 : List SFeature) (i2 : Int) (out3 : List SFeature) : Option R :=
  (bif (decide (i2 < (a1.length : Int))) then ix i2 a1.length ((bd (a1.getD i2.toNat dSFeature) fun (e8 : SFeature) => (laws_toFeature n e8).bind fun r9 => ix i2 out3.length (chk (decide (i2.toNat < out3.length)) (J (w64 (i2 + (1 : Int))) (out3.set i2.toNat r9))))) else kx0 out3)
def laws_toFeatureS (n : Nat) (a0 : List SFeature) : Option (List SFeature) :=
  chk (decide ((0 : Int) ≤ (a0.length : Int))) (chk (decide ((a0.length : Int) ≤ (a0.length : Int))) (chk (decide ((a0.length : Int) ≤ 9223372036854775807 ∧ (a0.length : Int) * (48 : Int) ≤ 281474976710656)) (loopN (fun (x : Int × List SFeature) J' => laws_toFeatureS_L3 n (fun out10 => some (out10)) (fun i11 out12 => J' (i11, out12)) a0 x.1 x.2) n ((0 : Int), (List.replicate (a0.length : Int).toNat dSFeature)))))
def laws_toChart (n : Nat) (a0 : SChart) : Option SChart :=
  (laws_toIntS n a0.Depths).bind fun r1 => (laws_toFeatureS n a0.Features).bind fun r2 => some ((⟨a0.Wide, a0.High, r1, r2, a0.Edition⟩ : SChart))
def spec_l1In (n : Nat) (x0 : Int) (a1 : Int) (b2 : Int) : Option Bool :=
  (bif (decide (x0 ≥ a1)) then some ((decide (x0 ≤ b2))) else some (false))
def spec_l6Depth (n : Nat) (d0 : Int) : Option Bool :=
  (spec_l1In n d0 (-1000 : Int) (10000 : Int)).bind fun r1 => some (r1)
def spec_l6Place (n : Nat) (c0 : SChart) (x1 : Int) (y2 : Int) : Option Bool :=
  (bd (w64 (c0.Wide - (1 : Int))) fun (v1 : Int) => (spec_l1In n x1 (0 : Int) v1).bind fun r2 => (bif r2 then (bd (w64 (c0.High - (1 : Int))) fun (v3 : Int) => (spec_l1In n y2 (0 : Int) v3).bind fun r4 => some (r4)) else some (false)))
def spec_l6Feature (n : Nat) (c0 : SChart) (f1 : SFeature) : Option Bool :=
  (spec_l1In n f1.Id (1 : Int) (1000000 : Int)).bind fun r1 => (bif r1 then (spec_l1In n f1.Kind (1 : Int) (9 : Int)).bind fun r2 => (bif r2 then (spec_l6Place n c0 f1.X f1.Y).bind fun r3 => (bif r3 then some ((decide ((f1.Text.size : Int) ≤ (40 : Int)))) else some (false)) else some (false)) else some (false))
def spec_ChartOk_L4 {R : Type} (n : Nat) (kx0 : Option R) (kxr : Bool → Option R) (J : Int → Option R) (i12 : Int) (c13 : SChart) : Option R :=
  (bif (decide (i12 < (c13.Depths.length : Int))) then ix i12 c13.Depths.length ((spec_l6Depth n (c13.Depths.getD i12.toNat (0 : Int))).bind fun r17 => (bif (!r17) then kxr false else J (w64 (i12 + (1 : Int))))) else kx0)
def spec_ChartOk_k0 {R : Type} (n : Nat) (kx2 : Option R) (kxr : Bool → Option R) (J : Int → Option R) (i21 : Int) (c20 : SChart) : Option R :=
  ix i21 c20.Features.length ((bd (c20.Features.getD i21.toNat dSFeature) fun (e22 : SFeature) => (spec_l6Feature n c20 e22).bind fun r23 => (bif (!r23) then kxr false else (bif (decide (i21 > (0 : Int))) then ix (w64 (i21 - (1 : Int))) c20.Features.length ((bd (c20.Features.getD ((w64 (i21 - (1 : Int))).toNat) dSFeature) fun (e25 : SFeature) => ix i21 c20.Features.length ((bd (c20.Features.getD i21.toNat dSFeature) fun (e26 : SFeature) => (bif (decide (e25.Id ≥ e26.Id)) then kxr false else J (w64 (i21 + (1 : Int)))))))) else J (w64 (i21 + (1 : Int)))))))
def spec_ChartOk_L9 {R : Type} (n : Nat) (kx2 : Option R) (kxr : Bool → Option R) (J : Int → Option R) (i19 : Int) (c20 : SChart) : Option R :=
  (bif (decide (i19 < (c20.Features.length : Int))) then spec_ChartOk_k0 n kx2 kxr J i19 c20 else kx2)
def spec_ChartOk (n : Nat) (c0 : SChart) : Option Bool :=
  (spec_l1In n c0.Wide (1 : Int) (12 : Int)).bind fun r1 => (bif (!r1) then some (false) else (spec_l1In n c0.High (1 : Int) (12 : Int)).bind fun r3 => (bif (!r3) then some (false) else (bd (w64 (c0.Wide * c0.High)) fun (v5 : Int) => (bif (!(decide ((c0.Depths.length : Int) = v5))) then some (false) else (bif (decide ((c0.Features.length : Int) > (30 : Int))) then some (false) else (spec_l1In n c0.Edition (0 : Int) (1000000 : Int)).bind fun r8 => (bif (!r8) then some (false) else loopN (fun (x : Int) J' => spec_ChartOk_L4 n (loopN (fun (x : Int) J' => spec_ChartOk_L9 n (some (true)) (fun t43 => some (t43)) J' x c0) n ((0 : Int))) (fun t45 => some (t45)) J' x c0) n ((0 : Int))))))))
def spec_Shoals_L3 {R : Type} (n : Nat) (kx0 : List Int → Option R) (J : Int → List Int → Option R) (need1 : Int) (i2 : Int) (c3 : SChart) (out4 : List Int) : Option R :=
  (bif (decide (i2 < (c3.Depths.length : Int))) then (spec_ChartOk n c3).bind fun r5 => (bif r5 then ix i2 c3.Depths.length ((bif (decide ((c3.Depths.getD i2.toNat (0 : Int)) < need1)) then chk (decide ((out4 ++ [i2]).length * 8 ≤ 140737488355328)) (J (w64 (i2 + (1 : Int))) (out4 ++ [i2])) else J (w64 (i2 + (1 : Int))) out4)) else kx0 out4) else kx0 out4)
def spec_Shoals (n : Nat) (c0 : SChart) (need1 : Int) : Option (List Int) :=
  loopN (fun (x : Int × List Int) J' => spec_Shoals_L3 n (fun out27 => some (out27)) (fun i28 out29 => J' (i28, out29)) need1 x.1 c0 x.2) n ((0 : Int), [])
def impl_in (n : Nat) (n0 : Int) (least1 : Int) (most2 : Int) : Option Bool :=
  (bif (decide (n0 ≥ least1)) then some ((decide (n0 ≤ most2))) else some (false))
def impl_all_1 (n : Nat) (n0 : Int) (a1 : Int) (a2 : Int) : Option Bool :=
  (impl_in n n0 a1 a2).bind fun r1 => some ((!r1))
def slices_IndexFunc_int_int__impl_all_1_L2 {R : Type} (n : Nat) (kx0 : Option R) (kxr : Int → Option R) (J : Int → Option R) (s1 : List Int) (f2 : Int) (f3 : Int) (t4 : Int) (t5 : Int) : Option R :=
  (bif (decide (t5 < t4)) then ix t5 s1.length ((impl_all_1 n (s1.getD t5.toNat (0 : Int)) f2 f3).bind fun r9 => (bif r9 then kxr t5 else J (w64 (t5 + (1 : Int))))) else kx0)
def slices_IndexFunc_int_int__impl_all_1 (n : Nat) (s0 : List Int) (f1c0 : Int) (f1c1 : Int) : Option Int :=
  loopN (fun (x : Int) J' => slices_IndexFunc_int_int__impl_all_1_L2 n (some ((-1 : Int))) (fun t11 => some (t11)) J' s0 f1c0 f1c1 (s0.length : Int) x) n ((0 : Int))
def slices_ContainsFunc_int_int__impl_all_1 (n : Nat) (s0 : List Int) (f1c0 : Int) (f1c1 : Int) : Option Bool :=
  (slices_IndexFunc_int_int__impl_all_1 n s0 f1c0 f1c1).bind fun r1 => some ((decide (r1 ≥ (0 : Int))))
def impl_all (n : Nat) (l0 : List Int) (least1 : Int) (most2 : Int) : Option Bool :=
  (slices_ContainsFunc_int_int__impl_all_1 n l0 least1 most2).bind fun r1 => some ((!r1))
def impl_Chart_place (n : Nat) (c0 : SChart) (x1 : Int) (y2 : Int) : Option Bool :=
  (bd (w64 (c0.Wide - (1 : Int))) fun (v1 : Int) => (impl_in n x1 (0 : Int) v1).bind fun r2 => (bif r2 then (bd (w64 (c0.High - (1 : Int))) fun (v3 : Int) => (impl_in n y2 (0 : Int) v3).bind fun r4 => some (r4)) else some (false)))
def impl_Chart_featureOk (n : Nat) (c0 : SChart) (f1 : SFeature) : Option Bool :=
  (impl_in n f1.Id (1 : Int) (1000000 : Int)).bind fun r1 => (bif r1 then (impl_in n f1.Kind (1 : Int) (9 : Int)).bind fun r2 => (bif r2 then (impl_Chart_place n c0 f1.X f1.Y).bind fun r3 => (bif r3 then some ((decide ((f1.Text.size : Int) ≤ (40 : Int)))) else some (false)) else some (false)) else some (false))
def impl_ChartOk_k0 {R : Type} (n : Nat) (kx0 : Option R) (kxr : Bool → Option R) (J : Int → Option R) (t14 : List SFeature) (t15 : Int) (t18 : Int) (c17 : SChart) : Option R :=
  ix t18 t14.length ((bd (t14.getD t18.toNat dSFeature) fun (e19 : SFeature) => (impl_Chart_featureOk n c17 e19).bind fun r20 => (bif (!r20) then kxr false else (bif (decide (t18 > (0 : Int))) then ix (w64 (t18 - (1 : Int))) c17.Features.length ((bd (c17.Features.getD ((w64 (t18 - (1 : Int))).toNat) dSFeature) fun (e22 : SFeature) => (bif (decide (e22.Id ≥ e19.Id)) then kxr false else J (w64 (t18 + (1 : Int)))))) else J (w64 (t18 + (1 : Int)))))))
def impl_ChartOk_L4 {R : Type} (n : Nat) (kx0 : Option R) (kxr : Bool → Option R) (J : Int → Option R) (t14 : List SFeature) (t15 : Int) (t16 : Int) (c17 : SChart) : Option R :=
  (bif (decide (t16 < t15)) then impl_ChartOk_k0 n kx0 kxr J t14 t15 t16 c17 else kx0)
def impl_ChartOk (n : Nat) (c0 : SChart) : Option Bool :=
  (impl_in n c0.Wide (1 : Int) (12 : Int)).bind fun r1 => (bif (!r1) then some (false) else (impl_in n c0.High (1 : Int) (12 : Int)).bind fun r3 => (bif (!r3) then some (false) else (bd (w64 (c0.Wide * c0.High)) fun (v5 : Int) => (bif (!(decide ((c0.Depths.length : Int) = v5))) then some (false) else (impl_all n c0.Depths (-1000 : Int) (10000 : Int)).bind fun r7 => (bif (!r7) then some (false) else (bif (decide ((c0.Features.length : Int) > (30 : Int))) then some (false) else (impl_in n c0.Edition (0 : Int) (1000000 : Int)).bind fun r10 => (bif (!r10) then some (false) else loopN (fun (x : Int) J' => impl_ChartOk_L4 n (some (true)) (fun t35 => some (t35)) J' c0.Features (c0.Features.length : Int) x c0) n ((0 : Int)))))))))
def impl_own_int (n : Nat) (l0 : List Int) : Option (List Int) :=
  chk (decide ((0 : Int) ≤ (l0.length : Int))) (chk (decide ((l0.length : Int) ≤ 9223372036854775807 ∧ (l0.length : Int) * (8 : Int) ≤ 281474976710656)) (chk (decide (l0.length * 8 ≤ 140737488355328)) (some (l0))))
def impl_Shoals_L5 {R : Type} (n : Nat) (kx0 : List Int → Option R) (J : Int → List Int → Option R) (need3 : Int) (t4 : List Int) (t5 : Int) (t6 : Int) (out7 : List Int) : Option R :=
  (bif (decide (t6 < t5)) then ix t6 t4.length ((bif (decide ((t4.getD t6.toNat (0 : Int)) < need3)) then chk (decide ((out7 ++ [t6]).length * 8 ≤ 140737488355328)) (J (w64 (t6 + (1 : Int))) (out7 ++ [t6])) else J (w64 (t6 + (1 : Int))) out7)) else kx0 out7)
def impl_Shoals (n : Nat) (c0 : SChart) (need1 : Int) : Option (List Int) :=
  (impl_ChartOk n c0).bind fun r1 => (bif (!r1) then some ([]) else loopN (fun (x : Int × List Int) J' => impl_Shoals_L5 n (fun out22 => (impl_own_int n out22).bind fun r23 => some (r23)) (fun t24 out25 => J' (t24, out25)) need1 c0.Depths (c0.Depths.length : Int) x.1 x.2) n ((0 : Int), []))
def laws_eqIntS_L4 {R : Type} (n : Nat) (kx0 : Option R) (kxr : Bool → Option R) (J : Int → Option R) (a1 : List Int) (b2 : List Int) (i3 : Int) : Option R :=
  (bif (decide (i3 < (a1.length : Int))) then ix i3 a1.length (ix i3 b2.length ((bif (!(decide ((a1.getD i3.toNat (0 : Int)) = (b2.getD i3.toNat (0 : Int))))) then kxr false else J (w64 (i3 + (1 : Int)))))) else kx0)
def laws_eqIntS (n : Nat) (a0 : List Int) (b1 : List Int) : Option Bool :=
  (bif (!(decide ((a0.length : Int) = (b1.length : Int)))) then some (false) else loopN (fun (x : Int) J' => laws_eqIntS_L4 n (some (true)) (fun t9 => some (t9)) J' a0 b1 x) n ((0 : Int)))
def laws_eqFeature (n : Nat) (a0 : SFeature) (b1 : SFeature) : Option Bool :=
  (bif (!(decide (a0.Id = b1.Id))) then some (false) else (bif (!(decide (a0.Kind = b1.Kind))) then some (false) else (bif (!(decide (a0.X = b1.X))) then some (false) else (bif (!(decide (a0.Y = b1.Y))) then some (false) else (bif (!(decide (a0.Text = b1.Text))) then some (false) else some (true))))))
def laws_eqFeatureS_L4 {R : Type} (n : Nat) (kx0 : Option R) (kxr : Bool → Option R) (J : Int → Option R) (a1 : List SFeature) (b2 : List SFeature) (i3 : Int) : Option R :=
  (bif (decide (i3 < (a1.length : Int))) then ix i3 a1.length ((bd (a1.getD i3.toNat dSFeature) fun (e9 : SFeature) => ix i3 b2.length ((bd (b2.getD i3.toNat dSFeature) fun (e10 : SFeature) => (laws_eqFeature n e9 e10).bind fun r11 => (bif (!r11) then kxr false else J (w64 (i3 + (1 : Int)))))))) else kx0)
def laws_eqFeatureS (n : Nat) (a0 : List SFeature) (b1 : List SFeature) : Option Bool :=
  (bif (!(decide ((a0.length : Int) = (b1.length : Int)))) then some (false) else loopN (fun (x : Int) J' => laws_eqFeatureS_L4 n (some (true)) (fun t15 => some (t15)) J' a0 b1 x) n ((0 : Int)))
def laws_eqChart_k0 (n : Nat)  (a0 : SChart) (b1 : SChart) : Option Bool :=
  (bif (!(decide (a0.High = b1.High))) then some (false) else (laws_eqIntS n a0.Depths b1.Depths).bind fun r4 => (bif (!r4) then some (false) else (laws_eqFeatureS n a0.Features b1.Features).bind fun r5 => (bif (!r5) then some (false) else (bif (!(decide (a0.Edition = b1.Edition))) then some (false) else some (true)))))
def laws_eqChart (n : Nat) (a0 : SChart) (b1 : SChart) : Option Bool :=
  (bif (!(decide (a0.Wide = b1.Wide))) then some (false) else laws_eqChart_k0 n  a0 b1)
def laws_markIntS_L2 {R : Type} (n : Nat) (kx0 : Int → List Int → Option R) (J : Int → Int → List Int → Option R) (k1 : Int) (i2 : Int) (p3 : List Int) : Option R :=
  (bif (decide (i2 < (p3.length : Int))) then ix i2 p3.length (chk (decide (i2.toNat < p3.length)) (J (w64 (k1 + (1 : Int))) (w64 (i2 + (1 : Int))) (p3.set i2.toNat k1))) else kx0 k1 p3)
def laws_markIntS (n : Nat) (a0 : List Int) (k1 : Int) : Option (Int × List Int) :=
  loopN (fun (x : Int × Int × List Int) J' => laws_markIntS_L2 n (fun k7 p8 => some (k7, p8)) (fun k9 i10 p11 => J' (k9, i10, p11)) x.1 x.2.1 x.2.2) n (k1, (0 : Int), a0)
def laws_markText_L4 {R : Type} (n : Nat) (kx0 : ByteArray → Option R) (J : Int → ByteArray → Option R) (k2 : Int) (out3 : ByteArray) : Option R :=
  (bif (decide (k2 > (0 : Int))) then (bd (w64 ((48 : Int) + (Int.tmod k2 (10 : Int)))) fun (v8 : Int) => chk (decide ((((bstr [(wu8 v8)]).size + out3.size : Nat) : Int) ≤ 9223372036854775807)) ((bd (w64 (Int.tdiv k2 (10 : Int))) fun (v9 : Int) => J v9 ((bstr [(wu8 v8)]) ++ out3)))) else kx0 out3)
def laws_markText (n : Nat) (k0 : Int) : Option ByteArray :=
  (bif (decide (k0 ≤ (0 : Int))) then some (str [109, 48]) else loopN (fun (x : Int × ByteArray) J' => laws_markText_L4 n (fun out13 => chk (decide ((((str [109]).size + out13.size : Nat) : Int) ≤ 9223372036854775807)) (some ((str [109] ++ out13)))) (fun k14 out15 => J' (k14, out15)) x.1 x.2) n (k0, str []))
def laws_markFeatureS_k0 {R : Type} (n : Nat) (kx0 : Int → List SFeature → Option R) (J : Int → Int → List SFeature → Option R) (k4 : Int) (i5 : Int) (p6 : List SFeature) : Option R :=
  ix i5 p6.length (chk (decide (i5.toNat < p6.length)) ((bd (p6.getD i5.toNat dSFeature) fun (e7 : SFeature) => (bd (p6.set i5.toNat (⟨k4, e7.Kind, e7.X, e7.Y, e7.Text⟩ : SFeature)) fun (l8 : List SFeature) => ix i5 l8.length (chk (decide (i5.toNat < l8.length)) ((bd (l8.getD i5.toNat dSFeature) fun (e9 : SFeature) => (bd (l8.set i5.toNat (⟨e9.Id, (w64 (k4 + (1 : Int))), e9.X, e9.Y, e9.Text⟩ : SFeature)) fun (l10 : List SFeature) => (bd (w64 ((w64 (k4 + (1 : Int))) + (1 : Int))) fun (v11 : Int) => ix i5 l10.length (chk (decide (i5.toNat < l10.length)) ((bd (l10.getD i5.toNat dSFeature) fun (e12 : SFeature) => (bd (l10.set i5.toNat (⟨e12.Id, e12.Kind, v11, e12.Y, e12.Text⟩ : SFeature)) fun (l13 : List SFeature) => ix i5 l13.length (chk (decide (i5.toNat < l13.length)) ((bd (l13.getD i5.toNat dSFeature) fun (e14 : SFeature) => (bd (l13.set i5.toNat (⟨e14.Id, e14.Kind, e14.X, (w64 (v11 + (1 : Int))), e14.Text⟩ : SFeature)) fun (l15 : List SFeature) => (bd (w64 ((w64 (v11 + (1 : Int))) + (1 : Int))) fun (v16 : Int) => (laws_markText n v16).bind fun r17 => ix i5 l15.length (chk (decide (i5.toNat < l15.length)) ((bd (l15.getD i5.toNat dSFeature) fun (e18 : SFeature) => (bd (l15.set i5.toNat (⟨e18.Id, e18.Kind, e18.X, e18.Y, r17⟩ : SFeature)) fun (l19 : List SFeature) => J (w64 (v16 + (1 : Int))) (w64 (i5 + (1 : Int))) l19))))))))))))))))))))))
def laws_markFeatureS_L2 {R : Type} (n : Nat) (kx0 : Int → List SFeature → Option R) (J : Int → Int → List SFeature → Option R) (k1 : Int) (i2 : Int) (p3 : List SFeature) : Option R :=
  (bif (decide (i2 < (p3.length : Int))) then laws_markFeatureS_k0 n kx0 J k1 i2 p3 else kx0 k1 p3)
def laws_markFeatureS (n : Nat) (a0 : List SFeature) (k1 : Int) : Option (Int × List SFeature) :=
  loopN (fun (x : Int × Int × List SFeature) J' => laws_markFeatureS_L2 n (fun k20 p21 => some (k20, p21)) (fun k22 i23 p24 => J' (k22, i23, p24)) x.1 x.2.1 x.2.2) n (k1, (0 : Int), a0)
def laws_markChart (n : Nat) (a0 : SChart) (k1 : Int) : Option (Int × List Int × List SFeature) :=
  (laws_markIntS n a0.Depths k1).bind fun r1 => (laws_markFeatureS n a0.Features r1.1).bind fun r2 => some (r2.1, r1.2, r2.2)
def laws_heldIntS_L2 {R : Type} (n : Nat) (kx0 : Int → Option R) (kxr : Int → Option R) (J : Int → Int → Option R) (a1 : List Int) (k2 : Int) (i3 : Int) : Option R :=
  (bif (decide (i3 < (a1.length : Int))) then ix i3 a1.length ((bif (!(decide ((a1.getD i3.toNat (0 : Int)) = k2))) then kxr (-1 : Int) else J (w64 (k2 + (1 : Int))) (w64 (i3 + (1 : Int))))) else kx0 k2)
def laws_heldIntS (n : Nat) (a0 : List Int) (k1 : Int) : Option Int :=
  loopN (fun (x : Int × Int) J' => laws_heldIntS_L2 n (fun k16 => some (k16)) (fun t17 => some (t17)) (fun k18 i19 => J' (k18, i19)) a0 x.1 x.2) n (k1, (0 : Int))
def laws_FnExactShoals_k0 (n : Nat)  (aNeed1 : Int) (m38 : Int) (aC0 : SChart) (t39 : List Int) (t40 : List Int) : Option Bool :=
  (laws_toChart n aC0).bind fun r41 => (impl_Shoals n r41 aNeed1).bind fun r42 => (laws_eqIntS n r42 t39).bind fun r43 => (bif (!r43) then some (false) else (laws_heldIntS n t40 (1 : Int)).bind fun r49 => (bif (decide (r49 < (0 : Int))) then some (false) else (bif (!(decide (r49 = m38))) then some (false) else some (true))))
def laws_FnExactShoals_k1 (n : Nat)  (aNeed1 : Int) (aC0 : SChart) (t16 : List Int) (x017 : Int) (x018 : Int) (x019 : Int) (t20 : List Int) (t21 : List SFeature) (t22 : List Int) : Option Bool :=
  (laws_markChart n (⟨x017, x018, t20, t21, x019⟩ : SChart) (1 : Int)).bind fun r23 => (bif (decide (r23.1 < (0 : Int))) then some (false) else (laws_eqIntS n t22 t16).bind fun r26 => (bif (!r26) then some (false) else (laws_markIntS n t22 (1 : Int)).bind fun r66 => (laws_heldIntS n r66.2 (1 : Int)).bind fun r67 => (bif (decide (r67 < (0 : Int))) then some (false) else (bif (!(decide (r67 = r66.1))) then some (false) else laws_FnExactShoals_k0 n  aNeed1 r66.1 aC0 t16 r66.2))))
def laws_FnExactShoals_k2 (n : Nat)  (aNeed1 : Int) (aC0 : SChart) : Option Bool :=
  (laws_toChart n aC0).bind fun r2 => (spec_Shoals n r2 aNeed1).bind fun r3 => (laws_toChart n aC0).bind fun r4 => (impl_Shoals n r4 aNeed1).bind fun r5 => (laws_eqIntS n r5 r3).bind fun r6 => (bif (!r6) then some (false) else (laws_toChart n aC0).bind fun r75 => (laws_eqChart n r4 r75).bind fun r76 => (bif (!r76) then some (false) else laws_FnExactShoals_k1 n  aNeed1 aC0 r3 r4.Wide r4.High r4.Edition r4.Depths r4.Features r5))
def laws_FnExactShoals (n : Nat) (aC0 : SChart) (aNeed1 : Int) : Option Bool :=
  (laws_szChart n aC0 (1048576 : Int)).bind fun r1 => (bif (decide (r1 < (0 : Int))) then some (true) else laws_FnExactShoals_k2 n  aNeed1 aC0)
def rng (a b x : Int) : Prop := a ≤ x ∧ x ≤ b
def wfSFeature (x : SFeature) : Prop := rng (-9223372036854775808) 9223372036854775807 x.Id ∧ rng (-9223372036854775808) 9223372036854775807 x.Kind ∧ rng (-9223372036854775808) 9223372036854775807 x.X ∧ rng (-9223372036854775808) 9223372036854775807 x.Y ∧ x.Text.size ≤ 9223372036854775807
def wfSChart (x : SChart) : Prop := rng (-9223372036854775808) 9223372036854775807 x.Wide ∧ rng (-9223372036854775808) 9223372036854775807 x.High ∧ (x.Depths.length ≤ 9223372036854775807 ∧ ∀ y ∈ x.Depths, rng (-9223372036854775808) 9223372036854775807 y) ∧ (x.Features.length ≤ 9223372036854775807 ∧ ∀ y ∈ x.Features, wfSFeature y) ∧ rng (-9223372036854775808) 9223372036854775807 x.Edition
end Go.Sm
end

section
set_option linter.unusedSimpArgs false
set_option linter.deprecated false
set_option linter.unusedSectionVars false
set_option linter.unusedVariables false
namespace Go.Sm
/-! ### Of the words that printed functions are made of -/
theorem w64_id {x : Int} (h1 : -9223372036854775808 ≤ x) (h2 : x ≤ 9223372036854775807) : w64 x = x := by
  show (let m := x % (2 ^ 64 : Int); if (true && decide ((2 : Int) ^ 63 ≤ m)) = true then m - 2 ^ 64 else m) = x
  simp only [Bool.true_and, decide_eq_true_eq]
  split <;> omega
theorem w64_rng (x : Int) : -9223372036854775808 ≤ w64 x ∧ w64 x ≤ 9223372036854775807 := by
  show -9223372036854775808 ≤ (let m := x % (2 ^ 64 : Int); if (true && decide ((2 : Int) ^ 63 ≤ m)) = true then m - 2 ^ 64 else m) ∧ (let m := x % (2 ^ 64 : Int); if (true && decide ((2 : Int) ^ 63 ≤ m)) = true then m - 2 ^ 64 else m) ≤ 9223372036854775807
  simp only [Bool.true_and, decide_eq_true_eq]
  split <;> omega
theorem chk_of {R : Type} {b : Bool} {x : Option R} (h : b = true) : chk b x = x := by rw [h]; rfl
theorem chk_dec {R : Type} {p : Prop} [Decidable p] {x : Option R} (h : p) : chk (decide p) x = x := chk_of (decide_eq_true h)
theorem ix_of {R : Type} {i : Int} {len : Nat} {x : Option R} (h0 : 0 ≤ i) (h1 : i < (len : Int)) : ix i len x = x := by
  unfold ix
  rw [decide_eq_true h0, decide_eq_true h1]
  rfl
theorem ix_nat {R : Type} {i len : Nat} {x : Option R} (h1 : i < len) : ix (i : Int) len x = x := ix_of (by omega) (by omega)
theorem bif_dec {α : Type} {p : Prop} [Decidable p] {x y : α} : (bif decide p then x else y) = if p then x else y := by
  by_cases h : p <;> simp [h]
theorem bif_not {α : Type} {b : Bool} {x y : α} : (bif !b then x else y) = bif b then y else x := by cases b <;> rfl
theorem bif_and {α : Type} {a b : Bool} {x y : α} : (bif a && b then x else y) = bif a then (bif b then x else y) else y := by cases a <;> rfl
theorem loopN_succ {X R : Type} (b : X → (X → Option R) → Option R) (m : Nat) (x : X) : loopN b (m + 1) x = b x (loopN b m) := rfl
/-- What holds of a loop: by what is left to go. -/
theorem loopN_ind {X R : Type} {b : X → (X → Option R) → Option R} (μ : X → Nat) (I : X → Prop) (Q : X → Option R → Prop)
    (h : ∀ x J, I x → (∀ y, I y → μ y < μ x → Q y (J y)) → Q x (b x J)) : ∀ n x, I x → μ x < n → Q x (loopN b n x)
  | 0, x, hi, hm => absurd hm (Nat.not_lt_zero _)
  | n + 1, x, hi, hm => h x (loopN b n) hi fun y hy hl => loopN_ind μ I Q h n y hy (by omega)
theorem getD_eq {α : Type} {l : List α} {i : Nat} {d : α} (h : i < l.length) : l.getD i d = l[i] := by
  simp [List.getD, h]
theorem w64_succ {k : Nat} (h : k < 9223372036854775807) : w64 ((k : Int) + 1) = ((k + 1 : Nat) : Int) := by
  rw [w64_id (by omega) (by omega)]
  rfl
theorem take_succ_getD {α : Type} {l : List α} {i : Nat} {d : α} (h : i < l.length) : l.take (i + 1) = l.take i ++ [l.getD i d] := by
  rw [List.take_succ, getD_eq h, List.getElem?_eq_getElem h]
  rfl
theorem drop_getD {α : Type} {l : List α} {i : Nat} {d : α} (h : i < l.length) : l.drop i = l.getD i d :: l.drop (i + 1) := by
  rw [getD_eq h]
  exact List.drop_eq_getElem_cons h
theorem bd_eq {α β : Type} (e : α) (f : α → β) : bd e f = f e := rfl
theorem bd_set {α β : Type} {Q : β → Prop} {F : List α → β} {p : List α} {i : Nat} {x : α} (h : ∀ l : List α, l.length = p.length → Q (F l)) : Q (bd (p.set i x) F) := h _ (by simp)
theorem bd_is {α β : Type} {Q : β → Prop} {F : α → β} {e : α} (h : ∀ v : α, v = e → Q (F v)) : Q (bd e F) := h _ rfl
theorem bd_val {α β : Type} {Q : β → Prop} {F : α → β} {e : α} (h : ∀ v : α, Q (F v)) : Q (bd e F) := h _
theorem chk_q {R : Type} {Q : Option R → Prop} {b : Bool} {x : Option R} (h : b = true) (hx : Q x) : Q (chk b x) := by rw [chk_of h]; exact hx
theorem ix_q {R : Type} {Q : Option R → Prop} {i : Int} {len : Nat} {x : Option R} (h0 : 0 ≤ i) (h1 : i < (len : Int)) (hx : Q x) : Q (ix i len x) := by rw [ix_of h0 h1]; exact hx
theorem bd_upd {α β : Type} {Q : β → Prop} {F : List α → β} {p : List α} {i : Nat} {x d : α} (hi : i < p.length) (h : ∀ l : List α, l.length = p.length → l.getD i d = x → (∀ j, j ≠ i → l.getD j d = p.getD j d) → Q (F l)) : Q (bd (p.set i x) F) :=
  h _ (by simp) (by simp [List.getD, hi]) (fun j hj => by simp [List.getD, List.getElem?_set, Ne.symm hj])
/-- A list written from the front. -/
theorem set_take {α : Type} {a : List α} {d : α} {m k : Nat} (h : k < a.length) (hm : m = a.length := by rfl) : (a.take k ++ (List.replicate m d).drop k).set k (a.getD k d) = a.take (k + 1) ++ (List.replicate m d).drop (k + 1) := by
  subst hm
  have h1 : (a.take k).length = k := by simp; omega
  rw [List.set_append_right _ _ (by omega), h1, Nat.sub_self, take_succ_getD h, List.append_assoc]
  congr 1
  rw [List.drop_eq_getElem_cons (by simp; exact h)]
  rfl
end Go.Sm
end

section
set_option linter.unusedSimpArgs false
set_option linter.deprecated false
set_option linter.unusedSectionVars false
set_option linter.unusedVariables false
set_option linter.unusedSimpArgs false
namespace Go.Sm
attribute [local irreducible] bd chk ix loopN
theorem laws_markText_ok {n : Nat} (k : Int) (hk : k ≤ 1000000000) (hn : 1000000000 < n) : ∃ t, laws_markText n k = some t := by
  unfold laws_markText
  rw [bif_dec]
  split
  · exact ⟨_, rfl⟩
  · refine loopN_ind (fun x => x.1.toNat) (fun x => 0 ≤ x.1 ∧ x.1 + (x.2.size : Int) ≤ 1000000000) (fun x r => ∃ t, r = some t) ?_ n _ ⟨by omega, by show k + ((str []).size : Int) ≤ _; simp [str, ByteArray.size]; omega⟩ (by simp; omega)
    rintro ⟨k, out⟩ J ⟨h0, h1⟩ ih
    unfold laws_markText_L4
    dsimp only at h0 h1 ⊢
    have e1 : ∀ l : List Int, (bstr l).size = l.length := fun l => by simp [bstr, ByteArray.size]
    have e2 : (str [109]).size = 1 := rfl
    have e3 : k.tdiv 10 = k / 10 := Int.tdiv_eq_ediv_of_nonneg h0
    simp only [bd_eq]
    rw [bif_dec, e3]
    split
    · rw [e1, chk_dec (by simp; omega), w64_id (x := k / 10) (by omega) (by omega)]
      refine ih _ ⟨by dsimp only; omega, ?_⟩ (by dsimp only; omega)
      rw [ByteArray.size_append, e1]
      simp
      omega
    · rw [e2, chk_dec (by omega)]
      exact ⟨_, rfl⟩
theorem laws_markText_q {β : Type} {Q : Option β → Prop} {n : Nat} {k : Int} {F : ByteArray → Option β} (hk : k ≤ 1000000000) (hn : 1000000000 < n) (h : ∀ t, laws_markText n k = some t → Q (F t)) : Q ((laws_markText n k).bind F) := by
  obtain ⟨t, ht⟩ := laws_markText_ok (n := n) k hk hn
  rw [ht]
  exact h t ht
theorem laws_szIntS_ok {n : Nat} (a : List Int) {left : Int} (h : (a.length ≤ 9223372036854775807 ∧ ∀ y ∈ a, rng (-9223372036854775808) 9223372036854775807 y)) (hl : 0 ≤ left) (hl2 : left ≤ 1048576) (hn : 1000000000 < n) :
    ∃ r, laws_szIntS n a left = some r ∧ r ≤ left ∧ (0 ≤ r → (a.length : Int) ≤ left) := by
  unfold laws_szIntS
  obtain ⟨h0, h1⟩ := h
  rw [w64_id (by omega) (by omega), bd_eq, bif_dec]
  split
  · exact ⟨-1, rfl, by omega, by omega⟩
  · exact ⟨_, rfl, by omega, by omega⟩
theorem laws_szFeature_ok {n : Nat} (a : SFeature) {left : Int} (h : wfSFeature a) (hl : 0 ≤ left) (hl2 : left ≤ 1048576) : ∃ r, laws_szFeature n a left = some r ∧ r ≤ left := by
  unfold laws_szFeature
  have h1 := h.2.2.2.2
  rw [w64_id (by omega) (by omega), bd_eq]
  cases decide (left - (a.Text.size : Int) < 0) with
  | true => exact ⟨-1, rfl, by omega⟩
  | false => exact ⟨_, rfl, by omega⟩
theorem laws_szFeatureS_ok {n : Nat} (a : List SFeature) {left : Int} (h : (a.length ≤ 9223372036854775807 ∧ ∀ y ∈ a, wfSFeature y)) (hl : 0 ≤ left) (hl2 : left ≤ 1048576) (hn : 1000000000 < n) :
    ∃ r, laws_szFeatureS n a left = some r ∧ r ≤ left ∧ (0 ≤ r → (a.length : Int) ≤ left) := by
  unfold laws_szFeatureS
  obtain ⟨h0, h1⟩ := h
  rw [w64_id (by omega) (by omega), bd_eq, bif_dec]
  split
  · exact ⟨-1, rfl, by omega, by omega⟩
  · refine loopN_ind (fun x => a.length - x.2.toNat) (fun x => ∃ (k : Nat) (l : Int), k ≤ a.length ∧ x = (l, (k : Int)) ∧ 0 ≤ l ∧ l ≤ left - a.length) (fun x r => ∃ r', r = some r' ∧ r' ≤ left ∧ (0 ≤ r' → (a.length : Int) ≤ left)) ?_ n _ ⟨0, _, by omega, rfl, by omega, by omega⟩ (by simp; omega)
    rintro _ J ⟨k, l, hk, rfl, hl1, hl3⟩ ih
    unfold laws_szFeatureS_L5
    by_cases h : k < a.length
    · have hmem : a.getD k dSFeature ∈ a := by rw [getD_eq h]; exact List.getElem_mem h
      obtain ⟨r, hr1, hr2⟩ := laws_szFeature_ok (n := n) (a.getD k dSFeature) (h1 _ hmem) hl1 (by omega)
      simp only [Int.ofNat_lt, h, decide_true, cond_true, ix_nat h, Int.toNat_natCast, hr1, Option.bind_some, bd_eq]
      rw [bif_dec]
      split
      · exact ⟨-1, rfl, by omega, by omega⟩
      · rw [w64_succ (by omega)]
        exact ih _ ⟨k + 1, r, h, rfl, by omega, by omega⟩ (by simp; omega)
    · exact ⟨l, by simp [h], by omega, by omega⟩
theorem laws_szChart_ok {n : Nat} (a : SChart) {left : Int} (h : wfSChart a) (hl : 0 ≤ left) (hl2 : left ≤ 1048576) (hn : 1000000000 < n) :
    ∃ r, laws_szChart n a left = some r ∧ r ≤ left ∧ (0 ≤ r → (a.Depths.length : Int) ≤ left ∧ (a.Features.length : Int) ≤ left) := by
  unfold laws_szChart
  obtain ⟨r0, p0, q0, s0⟩ := laws_szIntS_ok (n := n) a.Depths (left := left) h.2.2.1 (by omega) (by omega) hn
  rw [p0, Option.bind_some, bif_dec]
  split
  · exact ⟨-1, rfl, by omega, fun h => absurd h (by omega)⟩
  · have t0 := s0 (by omega)
    obtain ⟨r1, p1, q1, s1⟩ := laws_szFeatureS_ok (n := n) a.Features (left := r0) h.2.2.2.1 (by omega) (by omega) hn
    rw [p1, Option.bind_some, bif_dec]
    split
    · exact ⟨-1, rfl, by omega, fun h => absurd h (by omega)⟩
    · have t1 := s1 (by omega)
      exact ⟨_, rfl, by omega, fun _ => ⟨by omega, by omega⟩⟩
theorem laws_toIntS_eq {n : Nat} (a : List Int) (hl : a.length ≤ 1048576) (hn : 1000000000 < n) : laws_toIntS n a = some a := by
  unfold laws_toIntS
  rw [chk_dec (by omega), chk_dec (by omega), chk_dec (by omega)]
  refine loopN_ind (fun x => a.length - x.1.toNat) (fun x => ∃ k : Nat, k ≤ a.length ∧ x = ((k : Int), a.take k ++ (List.replicate a.length (0 : Int)).drop k)) (fun x r => r = some a) ?_ n _ ⟨0, by omega, by simp⟩ (by simp; omega)
  rintro _ J ⟨k, hk, rfl⟩ ih
  unfold laws_toIntS_L3
  by_cases h : k < a.length
  · have hlen : (a.take k ++ (List.replicate a.length (0 : Int)).drop k).length = a.length := by simp; omega
    simp only [Int.ofNat_lt, h, decide_true, cond_true, ix_nat h, hlen, Int.toNat_natCast, Option.bind_some, chk_of, bd_eq]
    rw [w64_succ (by omega)]
    exact ih _ ⟨k + 1, h, by rw [set_take h]⟩ (by simp; omega)
  · have : k = a.length := by omega
    subst this
    simp
theorem laws_toFeature_eq (n : Nat) (a : SFeature) : laws_toFeature n a = some a := by simp [laws_toFeature]
theorem laws_toFeatureS_eq {n : Nat} (a : List SFeature) (hl : a.length ≤ 1048576) (hn : 1000000000 < n) : laws_toFeatureS n a = some a := by
  unfold laws_toFeatureS
  rw [chk_dec (by omega), chk_dec (by omega), chk_dec (by omega)]
  refine loopN_ind (fun x => a.length - x.1.toNat) (fun x => ∃ k : Nat, k ≤ a.length ∧ x = ((k : Int), a.take k ++ (List.replicate a.length dSFeature).drop k)) (fun x r => r = some a) ?_ n _ ⟨0, by omega, by simp⟩ (by simp; omega)
  rintro _ J ⟨k, hk, rfl⟩ ih
  unfold laws_toFeatureS_L3
  by_cases h : k < a.length
  · have hlen : (a.take k ++ (List.replicate a.length dSFeature).drop k).length = a.length := by simp; omega
    simp only [Int.ofNat_lt, h, decide_true, cond_true, ix_nat h, hlen, Int.toNat_natCast, Option.bind_some, chk_of, bd_eq, laws_toFeature_eq]
    rw [w64_succ (by omega)]
    exact ih _ ⟨k + 1, h, by rw [set_take h]⟩ (by simp; omega)
  · have : k = a.length := by omega
    subst this
    simp
theorem laws_toChart_eq {n : Nat} (a : SChart) (g0 : a.Depths.length ≤ 1048576) (g1 : a.Features.length ≤ 1048576) (hn : 1000000000 < n) : laws_toChart n a = some a := by simp [laws_toChart, laws_toIntS_eq a.Depths g0 hn, laws_toFeatureS_eq a.Features g1 hn]
theorem laws_eqIntS_eq {n : Nat} (a : List Int) (hl : a.length ≤ 1048576) (hn : 1000000000 < n) : laws_eqIntS n a a = some true := by
  unfold laws_eqIntS
  simp only [decide_true, Bool.not_true, cond_false]
  refine loopN_ind (fun x => a.length - x.toNat) (fun x => ∃ k : Nat, k ≤ a.length ∧ x = (k : Int)) (fun x r => r = some true) ?_ n _ ⟨0, by omega, rfl⟩ (by simp; omega)
  rintro _ J ⟨k, hk, rfl⟩ ih
  unfold laws_eqIntS_L4
  by_cases h : k < a.length
  · simp only [Int.ofNat_lt, h, decide_true, cond_true, ix_nat h, Bool.not_true, cond_false, bd_eq, Option.bind_some, beq_self_eq_true]
    rw [w64_succ (by omega)]
    exact ih _ ⟨k + 1, h, rfl⟩ (by simp; omega)
  · simp [h]
theorem laws_eqFeature_eq (n : Nat) (a : SFeature) : laws_eqFeature n a a = some true := by simp [laws_eqFeature]
theorem laws_eqFeatureS_eq {n : Nat} (a : List SFeature) (hl : a.length ≤ 1048576) (hn : 1000000000 < n) : laws_eqFeatureS n a a = some true := by
  unfold laws_eqFeatureS
  simp only [decide_true, Bool.not_true, cond_false]
  refine loopN_ind (fun x => a.length - x.toNat) (fun x => ∃ k : Nat, k ≤ a.length ∧ x = (k : Int)) (fun x r => r = some true) ?_ n _ ⟨0, by omega, rfl⟩ (by simp; omega)
  rintro _ J ⟨k, hk, rfl⟩ ih
  unfold laws_eqFeatureS_L4
  by_cases h : k < a.length
  · simp only [Int.ofNat_lt, h, decide_true, cond_true, ix_nat h, Bool.not_true, cond_false, bd_eq, Option.bind_some, beq_self_eq_true, laws_eqFeature_eq]
    rw [w64_succ (by omega)]
    exact ih _ ⟨k + 1, h, rfl⟩ (by simp; omega)
  · simp [h]
theorem laws_eqChart_eq {n : Nat} (a : SChart) (g0 : a.Depths.length ≤ 1048576) (g1 : a.Features.length ≤ 1048576) (hn : 1000000000 < n) : laws_eqChart n a a = some true := by simp [laws_eqChart, laws_eqChart_k0, laws_eqIntS_eq a.Depths g0 hn, laws_eqFeatureS_eq a.Features g1 hn]
def MkIntS (n : Nat) (k : Int) (x : Int) : Prop := x = k
def MkIntSQ (n : Nat) (k0 : Int) (m : Nat) (r : Option (Int × List Int)) : Prop := ∃ a2 : List Int, r = some (k0 + 1 * (m : Int), a2) ∧ a2.length = m ∧ ∀ i, i < m → MkIntS n (k0 + 1 * (i : Int)) (a2.getD i (0 : Int))
theorem laws_markIntS_ok {n : Nat} (a : List Int) (k0 : Int) (hk0 : 0 ≤ k0) (hb : k0 + 1 * (a.length : Int) ≤ 900000000) (hn : 1000000000 < n) : MkIntSQ n k0 a.length (laws_markIntS n a k0) := by
  unfold laws_markIntS
  refine loopN_ind (fun x => a.length - x.2.1.toNat) (fun x => ∃ (k : Nat) (p : List Int), k ≤ a.length ∧ x = (k0 + 1 * (k : Int), (k : Int), p) ∧ p.length = a.length ∧ ∀ i, i < k → MkIntS n (k0 + 1 * (i : Int)) (p.getD i (0 : Int)))
    (fun x r => MkIntSQ n k0 a.length r) ?_ n _ ⟨0, a, by omega, by simp, rfl, by omega⟩ (by simp; omega)
  rintro _ J ⟨k, p, hk, rfl, hp, hm⟩ ih
  unfold laws_markIntS_L2
  by_cases h : k < a.length
  · have h' : k < p.length := by omega
    simp only [Int.ofNat_lt, h', decide_true, cond_true, Int.toNat_natCast, ix_nat h', chk_of]
    try simp (disch := omega) only [w64_id, Int.toNat_natCast, Int.add_assoc, Int.reduceAdd]
    try simp only [Option.bind_some, Int.add_assoc, Int.reduceAdd]
    repeat (first | refine ix_q (Q := MkIntSQ n k0 a.length) (by omega) (by omega) ?_ | refine chk_q (Q := MkIntSQ n k0 a.length) (decide_eq_true (by omega)) ?_ | refine bd_upd (Q := MkIntSQ n k0 a.length) (d := (0 : Int)) (i := k) (by omega) fun l hl hi hj => ?_ | (refine bd_is (α := Int) (Q := MkIntSQ n k0 a.length) fun v hv => ?_; (try simp (disch := omega) only [w64_id] at hv); (try subst hv)) | (refine laws_markText_q (Q := MkIntSQ n k0 a.length) (by omega) hn fun t ht => ?_; (try simp only [Int.add_assoc, Int.reduceAdd] at ht)) | (simp (disch := omega) only [w64_id]; refine laws_markText_q (Q := MkIntSQ n k0 a.length) (by omega) hn fun t ht => ?_; (try simp only [Int.add_assoc, Int.reduceAdd] at ht)) | refine bd_is (α := Int) (Q := MkIntSQ n k0 a.length) fun e he => ?_)
    try simp (disch := omega) only [w64_id]
    refine ih _ ⟨k + 1, _, h, Prod.ext (by dsimp only; omega) (Prod.ext (by dsimp only; omega) rfl), by first | omega | (rw [List.length_set]; omega), fun j hj' => ?_⟩ (by dsimp only; omega)
    by_cases e : j = k
    · subst e
      first | (simp only [MkIntS, *, Int.add_assoc, Int.reduceAdd, and_self]; done) | (simp only [MkIntS, *, Int.add_assoc, Int.reduceAdd, and_self]; simp (disch := omega) only [w64_id, and_self]; done) | simp [MkIntS, List.getD, h']
    · have := hm j (by omega)
      first | (have hall : l.getD j (0 : Int) = p.getD j (0 : Int) := by simp (disch := assumption) only [*]
               rw [hall]
               exact this) | simpa [MkIntS, List.getD, List.getElem?_set, Ne.symm e] using this
  · have h' : ¬ k < p.length := by omega
    simp only [Int.ofNat_lt, h', decide_false, cond_false]
    have : k = a.length := by omega
    subst this
    exact ⟨p, rfl, hp, hm⟩
def MkFeatureS (n : Nat) (k : Int) (x : SFeature) : Prop := x.Id = k ∧ x.Kind = (k + 1) ∧ x.X = (k + 2) ∧ x.Y = (k + 3) ∧ laws_markText n (k + 4) = some x.Text
def MkFeatureSQ (n : Nat) (k0 : Int) (m : Nat) (r : Option (Int × List SFeature)) : Prop := ∃ a2 : List SFeature, r = some (k0 + 5 * (m : Int), a2) ∧ a2.length = m ∧ ∀ i, i < m → MkFeatureS n (k0 + 5 * (i : Int)) (a2.getD i dSFeature)
theorem laws_markFeatureS_ok {n : Nat} (a : List SFeature) (k0 : Int) (hk0 : 0 ≤ k0) (hb : k0 + 5 * (a.length : Int) ≤ 900000000) (hn : 1000000000 < n) : MkFeatureSQ n k0 a.length (laws_markFeatureS n a k0) := by
  unfold laws_markFeatureS
  refine loopN_ind (fun x => a.length - x.2.1.toNat) (fun x => ∃ (k : Nat) (p : List SFeature), k ≤ a.length ∧ x = (k0 + 5 * (k : Int), (k : Int), p) ∧ p.length = a.length ∧ ∀ i, i < k → MkFeatureS n (k0 + 5 * (i : Int)) (p.getD i dSFeature))
    (fun x r => MkFeatureSQ n k0 a.length r) ?_ n _ ⟨0, a, by omega, by simp, rfl, by omega⟩ (by simp; omega)
  rintro _ J ⟨k, p, hk, rfl, hp, hm⟩ ih
  unfold laws_markFeatureS_L2
  by_cases h : k < a.length
  · have h' : k < p.length := by omega
    simp only [Int.ofNat_lt, h', decide_true, cond_true, Int.toNat_natCast]
    unfold laws_markFeatureS_k0
    try simp (disch := omega) only [w64_id, Int.toNat_natCast, Int.add_assoc, Int.reduceAdd]
    obtain ⟨t4, ht4⟩ := laws_markText_ok (n := n) (k0 + 5 * (k : Int) + 4) (by omega) hn
    try simp only [ht4, Option.bind_some, Int.add_assoc, Int.reduceAdd]
    repeat (first | refine ix_q (Q := MkFeatureSQ n k0 a.length) (by omega) (by omega) ?_ | refine chk_q (Q := MkFeatureSQ n k0 a.length) (decide_eq_true (by omega)) ?_ | refine bd_upd (Q := MkFeatureSQ n k0 a.length) (d := dSFeature) (i := k) (by omega) fun l hl hi hj => ?_ | (refine bd_is (α := Int) (Q := MkFeatureSQ n k0 a.length) fun v hv => ?_; (try simp (disch := omega) only [w64_id] at hv); (try subst hv)) | (refine laws_markText_q (Q := MkFeatureSQ n k0 a.length) (by omega) hn fun t ht => ?_; (try simp only [Int.add_assoc, Int.reduceAdd] at ht)) | (simp (disch := omega) only [w64_id]; refine laws_markText_q (Q := MkFeatureSQ n k0 a.length) (by omega) hn fun t ht => ?_; (try simp only [Int.add_assoc, Int.reduceAdd] at ht)) | refine bd_is (α := SFeature) (Q := MkFeatureSQ n k0 a.length) fun e he => ?_)
    try simp (disch := omega) only [w64_id]
    refine ih _ ⟨k + 1, _, h, Prod.ext (by dsimp only; omega) (Prod.ext (by dsimp only; omega) rfl), by first | omega | (rw [List.length_set]; omega), fun j hj' => ?_⟩ (by dsimp only; omega)
    by_cases e : j = k
    · subst e
      first | (simp only [MkFeatureS, *, Int.add_assoc, Int.reduceAdd, and_self]; done) | (simp only [MkFeatureS, *, Int.add_assoc, Int.reduceAdd, and_self]; simp (disch := omega) only [w64_id, and_self]; done) | simp [MkFeatureS, List.getD, h']
    · have := hm j (by omega)
      first | (have hall : l.getD j dSFeature = p.getD j dSFeature := by simp (disch := assumption) only [*]
               rw [hall]
               exact this) | simpa [MkFeatureS, List.getD, List.getElem?_set, Ne.symm e] using this
  · have h' : ¬ k < p.length := by omega
    simp only [Int.ofNat_lt, h', decide_false, cond_false]
    have : k = a.length := by omega
    subst this
    exact ⟨p, rfl, hp, hm⟩
theorem laws_markChart_ok {n : Nat} (a : SChart) (k0 : Int) (hk0 : 0 ≤ k0) (hb : k0 + 1 * (a.Depths.length : Int) + 5 * (a.Features.length : Int) ≤ 900000000) (hn : 1000000000 < n) :
    ∃ w0 w1, laws_markChart n a k0 = some (k0 + 1 * (a.Depths.length : Int) + 5 * (a.Features.length : Int), w0, w1) ∧ w0.length = a.Depths.length ∧ (∀ i, i < a.Depths.length → MkIntS n (k0 + 1 * (i : Int)) (w0.getD i (0 : Int))) ∧ w1.length = a.Features.length ∧ (∀ i, i < a.Features.length → MkFeatureS n (k0 + 1 * (a.Depths.length : Int) + 5 * (i : Int)) (w1.getD i dSFeature)) := by
  unfold laws_markChart
  obtain ⟨w0, x0, y0, z0⟩ := laws_markIntS_ok (n := n) a.Depths (k0) (by omega) (by omega) hn
  obtain ⟨w1, x1, y1, z1⟩ := laws_markFeatureS_ok (n := n) a.Features (k0 + 1 * (a.Depths.length : Int)) (by omega) (by omega) hn
  exact ⟨w0, w1, by simp only [x0, x1, Option.bind_some], y0, z0, y1, z1⟩
theorem laws_heldIntS_ok {n : Nat} (a : List Int) (k0 : Int) (hk0 : 0 ≤ k0) (hb : k0 + 1 * (a.length : Int) ≤ 900000000) (hn : 1000000000 < n) (ha : ∀ i, i < a.length → MkIntS n (k0 + 1 * (i : Int)) (a.getD i (0 : Int))) : laws_heldIntS n a k0 = some (k0 + 1 * (a.length : Int)) := by
  unfold laws_heldIntS
  refine loopN_ind (fun x => a.length - x.2.toNat) (fun x => ∃ (k : Nat), k ≤ a.length ∧ x = (k0 + 1 * (k : Int), (k : Int)))
    (fun x r => r = some (k0 + 1 * (a.length : Int))) ?_ n _ ⟨0, by omega, by simp⟩ (by simp; omega)
  rintro _ J ⟨k, hk, rfl⟩ ih
  unfold laws_heldIntS_L2
  by_cases h : k < a.length
  · have e0 := ha k h; unfold MkIntS at e0
    simp only [Int.ofNat_lt, h, decide_true, cond_true]
    simp (disch := omega) only [w64_id, ix_nat h, Int.toNat_natCast, bd_eq, Int.add_assoc, Int.reduceAdd, e0, decide_true, Bool.not_true, cond_false, Option.bind_some, beq_self_eq_true]
    refine Eq.trans ?_ (ih (k0 + 1 * ((k + 1 : Nat) : Int), ((k + 1 : Nat) : Int)) ⟨k + 1, h, rfl⟩ (by simp; omega))
    congr 2
    all_goals omega
  · have : k = a.length := by omega
    subst this
    simp
end Go.Sm
end

section
set_option linter.unusedSimpArgs false
set_option linter.deprecated false
set_option linter.unusedSectionVars false
set_option linter.unusedVariables false
set_option linter.unusedSimpArgs false
namespace Go.Sm
attribute [local irreducible] bd chk ix loopN
theorem in_spec5 (n : Nat) (x a b : Int) : spec_l1In n x a b = some (decide (a ≤ x ∧ x ≤ b)) := by
  unfold spec_l1In
  by_cases h0 : a ≤ x <;> by_cases h1 : x ≤ b <;> simp [h0, h1]
theorem in_impl5 (n : Nat) (x a b : Int) : impl_in n x a b = some (decide (a ≤ x ∧ x ≤ b)) := by
  unfold impl_in
  by_cases h0 : a ≤ x <;> by_cases h1 : x ≤ b <;> simp [h0, h1]
def placeOk (c : SChart) (x y : Int) : Bool := decide (0 ≤ x ∧ x ≤ w64 (c.Wide - 1)) && decide (0 ≤ y ∧ y ≤ w64 (c.High - 1))
theorem place_spec (n : Nat) (c : SChart) (x y : Int) : spec_l6Place n c x y = some (placeOk c x y) := by
  unfold spec_l6Place placeOk
  simp only [in_spec5, bd_eq, Option.bind_some]
  cases decide (0 ≤ x ∧ x ≤ w64 (c.Wide - 1)) <;> rfl
theorem place_impl (n : Nat) (c : SChart) (x y : Int) : impl_Chart_place n c x y = some (placeOk c x y) := by
  unfold impl_Chart_place placeOk
  simp only [in_impl5, bd_eq, Option.bind_some]
  cases decide (0 ≤ x ∧ x ≤ w64 (c.Wide - 1)) <;> rfl
def featOk (c : SChart) (f : SFeature) : Bool := decide (1 ≤ f.Id ∧ f.Id ≤ 1000000) && (decide (1 ≤ f.Kind ∧ f.Kind ≤ 9) && (placeOk c f.X f.Y && decide ((f.Text.size : Int) ≤ 40)))
theorem feat_spec (n : Nat) (c : SChart) (f : SFeature) : spec_l6Feature n c f = some (featOk c f) := by
  unfold spec_l6Feature featOk
  simp only [in_spec5, place_spec, Option.bind_some]
  cases decide (1 ≤ f.Id ∧ f.Id ≤ 1000000) <;> cases decide (1 ≤ f.Kind ∧ f.Kind ≤ 9) <;> cases placeOk c f.X f.Y <;> rfl
theorem feat_impl (n : Nat) (c : SChart) (f : SFeature) : impl_Chart_featureOk n c f = some (featOk c f) := by
  unfold impl_Chart_featureOk featOk
  simp only [in_impl5, place_impl, Option.bind_some]
  cases decide (1 ≤ f.Id ∧ f.Id ≤ 1000000) <;> cases decide (1 ≤ f.Kind ∧ f.Kind ≤ 9) <;> cases placeOk c f.X f.Y <;> rfl
/-- The feature at i is right, and above the one before. -/
def featAt (c : SChart) (i : Nat) : Prop := featOk c (c.Features.getD i dSFeature) = true ∧ (0 < i → ¬ (c.Features.getD (i - 1) dSFeature).Id ≥ (c.Features.getD i dSFeature).Id)
instance (c : SChart) (i : Nat) : Decidable (featAt c i) := by unfold featAt; exact inferInstance
def featsOk (c : SChart) : Prop := ∀ i, i < c.Features.length → featAt c i
instance (c : SChart) : Decidable (featsOk c) := Nat.decidableBallLT _ _
def depthOk (d : Int) : Bool := decide (-1000 ≤ d ∧ d ≤ 10000)
def depthsOk (c : SChart) : Prop := ∀ i, i < c.Depths.length → depthOk (c.Depths.getD i 0) = true
instance (c : SChart) : Decidable (depthsOk c) := Nat.decidableBallLT _ _
theorem feats_spec {n : Nat} (c : SChart) (kr : Bool → Option Bool) (hk : kr = fun t => some t) (hl : c.Features.length ≤ 1048576) (hn : 1000000000 < n) :
    loopN (fun (x : Int) J' => spec_ChartOk_L9 n (some true) kr J' x c) n (0 : Int) = some (decide (featsOk c)) := by
  subst hk
  refine loopN_ind (fun x => c.Features.length - x.toNat) (fun x => ∃ k : Nat, k ≤ c.Features.length ∧ x = (k : Int) ∧ ∀ i, i < k → featAt c i) (fun x r => r = some (decide (featsOk c))) ?_ n _ ⟨0, by omega, rfl, by omega⟩ (by simp; omega)
  rintro _ J ⟨k, hk, rfl, hg⟩ ih
  unfold spec_ChartOk_L9
  by_cases h : k < c.Features.length
  · simp only [Int.ofNat_lt, h, decide_true, cond_true]
    unfold spec_ChartOk_k0
    simp only [ix_nat h, Int.toNat_natCast, bd_eq, feat_spec, Option.bind_some, bif_not]
    have hbad : ¬ featAt c k → some (decide (featsOk c)) = some false := fun hb => by rw [decide_eq_false (fun hf : featsOk c => hb (hf k h))]
    have hgo : featAt c k → J ((k + 1 : Nat) : Int) = some (decide (featsOk c)) := fun hf => ih _ ⟨k + 1, h, rfl, fun i hi => by
      by_cases e : i = k
      · rw [e]; exact hf
      · exact hg i (by omega)⟩ (by simp; omega)
    cases h1 : featOk c (c.Features.getD k dSFeature) with
    | false =>
      rw [hbad (fun hf => by rw [hf.1] at h1; cases h1)]
      rfl
    | true =>
      rw [cond_true]
      by_cases h0 : 0 < k
      · have e0 : decide ((k : Int) > 0) = true := decide_eq_true (by omega)
        have e1 : w64 ((k : Int) - 1) = ((k - 1 : Nat) : Int) := by rw [w64_id (by omega) (by omega)]; omega
        rw [e0, cond_true, e1, ix_nat (by omega), Int.toNat_natCast, bif_dec, w64_succ (by omega)]
        split
        · rename_i h2
          rw [hbad (fun hf => hf.2 h0 h2)]
        · rename_i h2
          exact hgo ⟨h1, fun _ => h2⟩
      · have e0 : decide ((k : Int) > 0) = false := decide_eq_false (by omega)
        rw [e0, cond_false, w64_succ (by omega)]
        exact hgo ⟨h1, fun h => absurd h h0⟩
  · have : k = c.Features.length := by omega
    subst this
    simp only [Int.lt_irrefl, decide_false, cond_false]
    rw [decide_eq_true (show featsOk c from hg)]
theorem feats_impl {n : Nat} (c : SChart) (hl : c.Features.length ≤ 1048576) (hn : 1000000000 < n) :
    loopN (fun (x : Int) J' => impl_ChartOk_L4 n (some true) (fun t => some t) J' c.Features (c.Features.length : Int) x c) n (0 : Int) = some (decide (featsOk c)) := by
  refine loopN_ind (fun x => c.Features.length - x.toNat) (fun x => ∃ k : Nat, k ≤ c.Features.length ∧ x = (k : Int) ∧ ∀ i, i < k → featAt c i) (fun x r => r = some (decide (featsOk c))) ?_ n _ ⟨0, by omega, rfl, by omega⟩ (by simp; omega)
  rintro _ J ⟨k, hk, rfl, hg⟩ ih
  unfold impl_ChartOk_L4
  by_cases h : k < c.Features.length
  · simp only [Int.ofNat_lt, h, decide_true, cond_true]
    unfold impl_ChartOk_k0
    simp only [ix_nat h, Int.toNat_natCast, bd_eq, feat_impl, Option.bind_some, bif_not]
    have hbad : ¬ featAt c k → some (decide (featsOk c)) = some false := fun hb => by rw [decide_eq_false (fun hf : featsOk c => hb (hf k h))]
    have hgo : featAt c k → J ((k + 1 : Nat) : Int) = some (decide (featsOk c)) := fun hf => ih _ ⟨k + 1, h, rfl, fun i hi => by
      by_cases e : i = k
      · rw [e]; exact hf
      · exact hg i (by omega)⟩ (by simp; omega)
    cases h1 : featOk c (c.Features.getD k dSFeature) with
    | false =>
      rw [hbad (fun hf => by rw [hf.1] at h1; cases h1)]
      rfl
    | true =>
      rw [cond_true]
      by_cases h0 : 0 < k
      · have e0 : decide ((k : Int) > 0) = true := decide_eq_true (by omega)
        have e1 : w64 ((k : Int) - 1) = ((k - 1 : Nat) : Int) := by rw [w64_id (by omega) (by omega)]; omega
        rw [e0, cond_true, e1, ix_nat (by omega), Int.toNat_natCast, bif_dec, w64_succ (by omega)]
        split
        · rename_i h2
          rw [hbad (fun hf => hf.2 h0 h2)]
        · rename_i h2
          exact hgo ⟨h1, fun _ => h2⟩
      · have e0 : decide ((k : Int) > 0) = false := decide_eq_false (by omega)
        rw [e0, cond_false, w64_succ (by omega)]
        exact hgo ⟨h1, fun h => absurd h h0⟩
  · have : k = c.Features.length := by omega
    subst this
    simp only [Int.lt_irrefl, decide_false, cond_false]
    rw [decide_eq_true (show featsOk c from hg)]
theorem depths_spec {n : Nat} (c : SChart) (kx : Option Bool) (hl : c.Depths.length ≤ 1048576) (hn : 1000000000 < n) :
    loopN (fun (x : Int) J' => spec_ChartOk_L4 n kx (fun t => some t) J' x c) n (0 : Int) = if depthsOk c then kx else some false := by
  refine loopN_ind (fun x => c.Depths.length - x.toNat) (fun x => ∃ k : Nat, k ≤ c.Depths.length ∧ x = (k : Int) ∧ ∀ i, i < k → depthOk (c.Depths.getD i 0) = true) (fun x r => r = if depthsOk c then kx else some false) ?_ n _ ⟨0, by omega, rfl, by omega⟩ (by simp; omega)
  rintro _ J ⟨k, hk, rfl, hg⟩ ih
  unfold spec_ChartOk_L4 spec_l6Depth
  by_cases h : k < c.Depths.length
  · simp only [Int.ofNat_lt, h, decide_true, cond_true, ix_nat h, Int.toNat_natCast, bd_eq, in_spec5, Option.bind_some, bif_not]
    cases h1 : depthOk (c.Depths.getD k 0) with
    | false =>
      rw [if_neg (fun hf : depthsOk c => by rw [hf k h] at h1; cases h1)]
      rw [depthOk] at h1
      rw [h1]
      rfl
    | true =>
      have h1' := h1
      rw [depthOk] at h1'
      rw [h1', cond_true, w64_succ (by omega)]
      exact ih _ ⟨k + 1, h, rfl, fun i hi => by
        by_cases e : i = k
        · rw [e]; exact h1
        · exact hg i (by omega)⟩ (by simp; omega)
  · have : k = c.Depths.length := by omega
    subst this
    simp only [Int.lt_irrefl, decide_false, cond_false]
    rw [if_pos (show depthsOk c from hg)]
theorem all_impl {n : Nat} (c : SChart) (hl : c.Depths.length ≤ 1048576) (hn : 1000000000 < n) : impl_all n c.Depths (-1000) 10000 = some (decide (depthsOk c)) := by
  unfold impl_all slices_ContainsFunc_int_int__impl_all_1
  have : ∃ r, slices_IndexFunc_int_int__impl_all_1 n c.Depths (-1000) 10000 = some r ∧ decide (r ≥ 0) = !decide (depthsOk c) := by
    unfold slices_IndexFunc_int_int__impl_all_1
    refine loopN_ind (fun x => c.Depths.length - x.toNat) (fun x => ∃ k : Nat, k ≤ c.Depths.length ∧ x = (k : Int) ∧ ∀ i, i < k → depthOk (c.Depths.getD i 0) = true) (fun x r => ∃ r', r = some r' ∧ decide (r' ≥ 0) = !decide (depthsOk c)) ?_ n _ ⟨0, by omega, rfl, by omega⟩ (by simp; omega)
    rintro _ J ⟨k, hk, rfl, hg⟩ ih
    unfold slices_IndexFunc_int_int__impl_all_1_L2 impl_all_1
    by_cases h : k < c.Depths.length
    · simp only [Int.ofNat_lt, h, decide_true, cond_true, ix_nat h, Int.toNat_natCast, in_impl5, Option.bind_some, bif_not]
      cases h1 : depthOk (c.Depths.getD k 0) with
      | false =>
        have h2 : decide (depthsOk c) = false := decide_eq_false (fun hf : depthsOk c => by rw [hf k h] at h1; cases h1)
        rw [depthOk] at h1
        rw [h1, h2]
        exact ⟨_, rfl, by simp⟩
      | true =>
        have h1' := h1
        rw [depthOk] at h1'
        rw [h1', cond_true, w64_succ (by omega)]
        exact ih _ ⟨k + 1, h, rfl, fun i hi => by
          by_cases e : i = k
          · rw [e]; exact h1
          · exact hg i (by omega)⟩ (by simp; omega)
    · have : k = c.Depths.length := by omega
      subst this
      simp only [Int.lt_irrefl, decide_false, cond_false]
      exact ⟨_, rfl, by rw [decide_eq_true (show depthsOk c from hg)]; rfl⟩
  obtain ⟨r, h1, h2⟩ := this
  rw [h1]
  simp only [Option.bind_some, h2, Bool.not_not]
def chOk (c : SChart) : Prop := (1 ≤ c.Wide ∧ c.Wide ≤ 12) ∧ (1 ≤ c.High ∧ c.High ≤ 12) ∧ (c.Depths.length : Int) = w64 (c.Wide * c.High) ∧ (c.Features.length : Int) ≤ 30 ∧ (0 ≤ c.Edition ∧ c.Edition ≤ 1000000) ∧ depthsOk c ∧ featsOk c
instance (c : SChart) : Decidable (chOk c) := by unfold chOk; exact inferInstance
theorem ch_spec {n : Nat} (c : SChart) (h1 : c.Depths.length ≤ 1048576) (h2 : c.Features.length ≤ 1048576) (hn : 1000000000 < n) : spec_ChartOk n c = some (decide (chOk c)) := by
  unfold spec_ChartOk
  simp only [in_spec5, Option.bind_some, bif_not, bd_eq, bif_dec, feats_spec c _ rfl h2 hn, depths_spec c _ h1 hn]
  by_cases a1 : 1 ≤ c.Wide ∧ c.Wide ≤ 12
  · by_cases a2 : 1 ≤ c.High ∧ c.High ≤ 12
    · by_cases a3 : (c.Depths.length : Int) = w64 (c.Wide * c.High)
      · by_cases a4 : (c.Features.length : Int) ≤ 30
        · by_cases a5 : 0 ≤ c.Edition ∧ c.Edition ≤ 1000000
          · by_cases a6 : depthsOk c
            · rw [if_pos a1, if_pos a2, if_pos a3, if_neg (by omega), if_pos a5, if_pos a6]
              exact congrArg some (decide_eq_decide.2 ⟨fun h => ⟨a1, a2, a3, a4, a5, a6, h⟩, fun h => h.2.2.2.2.2.2⟩)
            · rw [if_pos a1, if_pos a2, if_pos a3, if_neg (by omega), if_pos a5, if_neg a6, decide_eq_false (fun h : chOk c => a6 h.2.2.2.2.2.1)]
          · rw [if_pos a1, if_pos a2, if_pos a3, if_neg (by omega), if_neg a5, decide_eq_false (fun h : chOk c => a5 h.2.2.2.2.1)]
        · rw [if_pos a1, if_pos a2, if_pos a3, if_pos (by omega), decide_eq_false (fun h : chOk c => a4 h.2.2.2.1)]
      · rw [if_pos a1, if_pos a2, if_neg a3, decide_eq_false (fun h : chOk c => a3 h.2.2.1)]
    · rw [if_pos a1, if_neg a2, decide_eq_false (fun h : chOk c => a2 h.2.1)]
  · rw [if_neg a1, decide_eq_false (fun h : chOk c => a1 h.1)]
theorem ch_impl {n : Nat} (c : SChart) (h1 : c.Depths.length ≤ 1048576) (h2 : c.Features.length ≤ 1048576) (hn : 1000000000 < n) : impl_ChartOk n c = some (decide (chOk c)) := by
  unfold impl_ChartOk
  simp only [in_impl5, Option.bind_some, bif_not, bd_eq, bif_dec, feats_impl c h2 hn, all_impl c h1 hn]
  by_cases a1 : 1 ≤ c.Wide ∧ c.Wide ≤ 12
  · by_cases a2 : 1 ≤ c.High ∧ c.High ≤ 12
    · by_cases a3 : (c.Depths.length : Int) = w64 (c.Wide * c.High)
      · by_cases a6 : depthsOk c
        · by_cases a4 : (c.Features.length : Int) ≤ 30
          · by_cases a5 : 0 ≤ c.Edition ∧ c.Edition ≤ 1000000
            · rw [if_pos a1, if_pos a2, if_pos a3, if_pos a6, if_neg (by omega), if_pos a5]
              exact congrArg some (decide_eq_decide.2 ⟨fun h => ⟨a1, a2, a3, a4, a5, a6, h⟩, fun h => h.2.2.2.2.2.2⟩)
            · rw [if_pos a1, if_pos a2, if_pos a3, if_pos a6, if_neg (by omega), if_neg a5, decide_eq_false (fun h : chOk c => a5 h.2.2.2.2.1)]
          · rw [if_pos a1, if_pos a2, if_pos a3, if_pos a6, if_pos (by omega), decide_eq_false (fun h : chOk c => a4 h.2.2.2.1)]
        · rw [if_pos a1, if_pos a2, if_pos a3, if_neg a6, decide_eq_false (fun h : chOk c => a6 h.2.2.2.2.2.1)]
      · rw [if_pos a1, if_pos a2, if_neg a3, decide_eq_false (fun h : chOk c => a3 h.2.2.1)]
    · rw [if_pos a1, if_neg a2, decide_eq_false (fun h : chOk c => a2 h.2.1)]
  · rw [if_neg a1, decide_eq_false (fun h : chOk c => a1 h.1)]
end Go.Sm
namespace Go.Sm
attribute [local irreducible] bd chk ix loopN
def below (c : SChart) (need : Int) (k : Nat) : List Int := ((List.range k).filter fun i => decide (c.Depths.getD i 0 < need)).map fun (i : Nat) => (i : Int)
theorem below_succ (c : SChart) (need : Int) (k : Nat) : below c need (k + 1) = if c.Depths.getD k 0 < need then below c need k ++ [(k : Int)] else below c need k := by
  unfold below
  rw [List.range_succ, List.filter_append]
  by_cases h : c.Depths.getD k 0 < need <;> simp [h, -List.getD_eq_getElem?_getD]
theorem below_len (c : SChart) (need : Int) (k : Nat) : (below c need k).length ≤ k := by
  unfold below
  rw [List.length_map]
  have := List.length_filter_le (fun i => decide (c.Depths.getD i 0 < need)) (List.range k)
  simpa using this
def shoalsR (c : SChart) (need : Int) : List Int := if chOk c then below c need c.Depths.length else []
theorem shoals_spec {n : Nat} (c : SChart) (need : Int) (h1 : c.Depths.length ≤ 1048576) (h2 : c.Features.length ≤ 1048576) (hn : 1000000000 < n) : spec_Shoals n c need = some (shoalsR c need) := by
  unfold spec_Shoals
  by_cases hc : chOk c
  · refine loopN_ind (fun x => c.Depths.length - x.1.toNat) (fun x => ∃ k : Nat, k ≤ c.Depths.length ∧ x = ((k : Int), below c need k)) (fun x r => r = some (shoalsR c need)) ?_ n _ ⟨0, by omega, rfl⟩ (by simp; omega)
    rintro _ J ⟨k, hk, rfl⟩ ih
    unfold spec_Shoals_L3
    by_cases h : k < c.Depths.length
    · simp only [Int.ofNat_lt, h, decide_true, cond_true, ch_spec c h1 h2 hn, Option.bind_some, decide_eq_true hc, ix_nat h, Int.toNat_natCast]
      have key := ih (((k + 1 : Nat) : Int), below c need (k + 1)) ⟨k + 1, h, rfl⟩ (by simp; omega)
      have hlen := below_len c need k
      rw [below_succ] at key
      rw [chk_dec (by simp; omega), w64_succ (by omega), bif_dec]
      by_cases hd : c.Depths.getD k 0 < need
      · rw [if_pos hd] at key ⊢
        exact key
      · rw [if_neg hd] at key ⊢
        exact key
    · have : k = c.Depths.length := by omega
      subst this
      simp only [Int.lt_irrefl, decide_false, cond_false]
      rw [shoalsR, if_pos hc]
  · refine loopN_ind (fun x => 0) (fun x => x = ((0 : Int), [])) (fun x r => r = some (shoalsR c need)) ?_ n _ rfl (by omega)
    rintro _ J rfl ih
    unfold spec_Shoals_L3
    simp only [ch_spec c h1 h2 hn, Option.bind_some, decide_eq_false hc, cond_false]
    rw [shoalsR, if_neg hc]
    cases decide ((0 : Int) < (c.Depths.length : Int)) <;> rfl
theorem own_int5 (n : Nat) (l : List Int) (h : l.length ≤ 1048576) : impl_own_int n l = some l := by
  unfold impl_own_int
  rw [chk_dec (by omega), chk_dec (by omega), chk_dec (by omega)]
theorem shoals_impl {n : Nat} (c : SChart) (need : Int) (h1 : c.Depths.length ≤ 1048576) (h2 : c.Features.length ≤ 1048576) (hn : 1000000000 < n) : impl_Shoals n c need = some (shoalsR c need) := by
  unfold impl_Shoals
  rw [ch_impl c h1 h2 hn, Option.bind_some, bif_not, bif_dec]
  by_cases hc : chOk c
  · rw [if_pos hc]
    refine loopN_ind (fun x => c.Depths.length - x.1.toNat) (fun x => ∃ k : Nat, k ≤ c.Depths.length ∧ x = ((k : Int), below c need k)) (fun x r => r = some (shoalsR c need)) ?_ n _ ⟨0, by omega, rfl⟩ (by simp; omega)
    rintro _ J ⟨k, hk, rfl⟩ ih
    unfold impl_Shoals_L5
    by_cases h : k < c.Depths.length
    · simp only [Int.ofNat_lt, h, decide_true, cond_true, ix_nat h, Int.toNat_natCast]
      have key := ih (((k + 1 : Nat) : Int), below c need (k + 1)) ⟨k + 1, h, rfl⟩ (by simp; omega)
      have hlen := below_len c need k
      rw [below_succ] at key
      rw [chk_dec (by simp; omega), w64_succ (by omega), bif_dec]
      by_cases hd : c.Depths.getD k 0 < need
      · rw [if_pos hd] at key ⊢
        exact key
      · rw [if_neg hd] at key ⊢
        exact key
    · have : k = c.Depths.length := by omega
      subst this
      have hlen := below_len c need c.Depths.length
      simp only [Int.lt_irrefl, decide_false, cond_false]
      rw [own_int5 n _ (by omega), Option.bind_some, shoalsR, if_pos hc]
  · rw [if_neg hc, shoalsR, if_neg hc]
theorem shoalsR_len (c : SChart) (need : Int) (h1 : c.Depths.length ≤ 1048576) : (shoalsR c need).length ≤ 1048576 := by
  unfold shoalsR
  split
  · exact Nat.le_trans (below_len _ _ _) h1
  · exact Nat.zero_le _
theorem laws_FnExactShoals_true (aC0 : SChart) (aNeed1 : Int) (h0 : wfSChart aC0) (h1 : rng (-9223372036854775808) 9223372036854775807 aNeed1) : ∃ n, laws_FnExactShoals n aC0 aNeed1 = some true := by
  refine ⟨1000000001, ?_⟩
  generalize hN : (1000000001 : Nat) = n
  have hn : 1000000000 < n := by omega
  unfold laws_FnExactShoals
  obtain ⟨r, hr1, hr2, hr3⟩ := laws_szChart_ok (n := n) aC0 (left := 1048576) h0 (by omega) (by omega) hn
  rw [hr1, Option.bind_some, bif_dec]
  split
  · rfl
  · obtain ⟨g0, g1⟩ := hr3 (by omega)
    have g0 : aC0.Depths.length ≤ 1048576 := by omega
    have g1 : aC0.Features.length ≤ 1048576 := by omega
    have c1 := shoalsR_len aC0 aNeed1 g0
    have hS := shoals_spec (n := n) aC0 aNeed1 g0 g1 hn
    have hI := shoals_impl (n := n) aC0 aNeed1 g0 g1 hn
    generalize shoalsR aC0 aNeed1 = R at *
    obtain ⟨u1, u2, m1, m2⟩ := laws_markChart_ok (n := n) aC0 1 (by omega) (by omega) hn
    obtain ⟨v1, p1, p2, p3⟩ := laws_markIntS_ok (n := n) R 1 (by omega) (by omega) hn
    have q1 := laws_heldIntS_ok (n := n) v1 1 (by omega) (by omega) hn (by rw [p2]; exact p3)
    rw [p2] at q1
    have d1 : decide (1 + 1 * (aC0.Depths.length : Int) + 5 * (aC0.Features.length : Int) < 0) = false := decide_eq_false (by omega)
    have d2 : decide (1 + 1 * (R.length : Int) < 0) = false := decide_eq_false (by omega)
    unfold laws_FnExactShoals_k2 laws_FnExactShoals_k1 laws_FnExactShoals_k0
    simp only [laws_toChart_eq aC0 g0 g1 hn, hS, hI, Option.bind_some, laws_eqChart_eq aC0 g0 g1 hn, laws_eqIntS_eq R c1 hn, m1, p1, q1, d1, d2, decide_true, Bool.not_true, cond_false, cond_true]
end Go.Sm
end
