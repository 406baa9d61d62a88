import Derived.Test.YtjilmfkglikoeaaEngE
import Derived.Test.YtjilmfkglikoeaaEngA
/- The functions as plain functions over data, and that the law answers true for all arguments. Catch: what is left of a chart and of a list of updates by taking them as they fit, and which are left over, are the same written out and built, for every chart and list. -/
set_option linter.unusedSimpArgs false
set_option linter.deprecated false
set_option linter.unusedSectionVars false
set_option linter.unusedVariables false
noncomputable section
namespace Go.Sm
structure SFeature where
  Id : Int
  Kind : Int
  X : Int
  Y : Int
  Text : ByteArray
structure SChart where
  Wide : Int
  High : Int
  Depths : List Int
  Features : List SFeature
  Edition : Int
structure SNote where
  Kind : Int
  Id : Int
  X : Int
  Y : Int
  Depth : Int
  Text : ByteArray
  Sort_ : Int
structure SUpdate where
  Edition : Int
  Notes : List SNote
def dSFeature : SFeature := ⟨(0 : Int), (0 : Int), (0 : Int), (0 : Int), str []⟩
def dSChart : SChart := ⟨(0 : Int), (0 : Int), [], [], (0 : Int)⟩
def dSNote : SNote := ⟨(0 : Int), (0 : Int), (0 : Int), (0 : Int), (0 : Int), str [], (0 : Int)⟩
def dSUpdate : SUpdate := ⟨(0 : Int), []⟩
def laws_szIntS (n : Nat) (a0 : List Int) (left1 : Int) : Option Int :=
  (bd (w64 (left1 - (a0.length : Int))) fun (v1 : Int) => (bif (decide (v1 < (0 : Int))) then some ((-1 : Int)) else some (v1)))
def laws_szFeature (n : Nat) (a0 : SFeature) (left1 : Int) : Option Int :=
  (bd (w64 (left1 - (a0.Text.size : Int))) fun (v1 : Int) => (bif (decide (v1 < (0 : Int))) then some ((-1 : Int)) else some (v1)))
def laws_szFeatureS_L5 {R : Type} (n : Nat) (kx0 : Int → Option R) (kxr : Int → Option R) (J : Int → Int → Option R) (a3 : List SFeature) (left4 : Int) (i5 : Int) : Option R :=
  (bif (decide (i5 < (a3.length : Int))) then ix i5 a3.length ((bd (a3.getD i5.toNat dSFeature) fun (e12 : SFeature) => (laws_szFeature n e12 left4).bind fun r13 => (bif (decide (r13 < (0 : Int))) then kxr (-1 : Int) else J r13 (w64 (i5 + (1 : Int)))))) else kx0 left4)
def laws_szFeatureS (n : Nat) (a0 : List SFeature) (left1 : Int) : Option Int :=
  (bd (w64 (left1 - (a0.length : Int))) fun (v1 : Int) => (bif (decide (v1 < (0 : Int))) then some ((-1 : Int)) else loopN (fun (x : Int × Int) J' => laws_szFeatureS_L5 n (fun left20 => some (left20)) (fun t21 => some (t21)) (fun left22 i23 => J' (left22, i23)) a0 x.1 x.2) n (v1, (0 : Int))))
def laws_szChart (n : Nat) (a0 : SChart) (left1 : Int) : Option Int :=
  (laws_szIntS n a0.Depths left1).bind fun r1 => (bif (decide (r1 < (0 : Int))) then some ((-1 : Int)) else (laws_szFeatureS n a0.Features r1).bind fun r5 => (bif (decide (r5 < (0 : Int))) then some ((-1 : Int)) else some (r5)))
def laws_szNote (n : Nat) (a0 : SNote) (left1 : Int) : Option Int :=
  (bd (w64 (left1 - (a0.Text.size : Int))) fun (v1 : Int) => (bif (decide (v1 < (0 : Int))) then some ((-1 : Int)) else some (v1)))
def laws_szNoteS_L5 {R : Type} (n : Nat) (kx0 : Int → Option R) (kxr : Int → Option R) (J : Int → Int → Option R) (a3 : List SNote) (left4 : Int) (i5 : Int) : Option R :=
  (bif (decide (i5 < (a3.length : Int))) then ix i5 a3.length ((bd (a3.getD i5.toNat dSNote) fun (e12 : SNote) => (laws_szNote n e12 left4).bind fun r13 => (bif (decide (r13 < (0 : Int))) then kxr (-1 : Int) else J r13 (w64 (i5 + (1 : Int)))))) else kx0 left4)
def laws_szNoteS (n : Nat) (a0 : List SNote) (left1 : Int) : Option Int :=
  (bd (w64 (left1 - (a0.length : Int))) fun (v1 : Int) => (bif (decide (v1 < (0 : Int))) then some ((-1 : Int)) else loopN (fun (x : Int × Int) J' => laws_szNoteS_L5 n (fun left20 => some (left20)) (fun t21 => some (t21)) (fun left22 i23 => J' (left22, i23)) a0 x.1 x.2) n (v1, (0 : Int))))
def laws_szUpdate (n : Nat) (a0 : SUpdate) (left1 : Int) : Option Int :=
  (laws_szNoteS n a0.Notes left1).bind fun r1 => (bif (decide (r1 < (0 : Int))) then some ((-1 : Int)) else some (r1))
def laws_szUpdateS_L5 {R : Type} (n : Nat) (kx0 : Int → Option R) (kxr : Int → Option R) (J : Int → Int → Option R) (a3 : List SUpdate) (left4 : Int) (i5 : Int) : Option R :=
  (bif (decide (i5 < (a3.length : Int))) then ix i5 a3.length ((bd (a3.getD i5.toNat dSUpdate) fun (e12 : SUpdate) => (laws_szUpdate n e12 left4).bind fun r13 => (bif (decide (r13 < (0 : Int))) then kxr (-1 : Int) else J r13 (w64 (i5 + (1 : Int)))))) else kx0 left4)
def laws_szUpdateS (n : Nat) (a0 : List SUpdate) (left1 : Int) : Option Int :=
  (bd (w64 (left1 - (a0.length : Int))) fun (v1 : Int) => (bif (decide (v1 < (0 : Int))) then some ((-1 : Int)) else loopN (fun (x : Int × Int) J' => laws_szUpdateS_L5 n (fun left20 => some (left20)) (fun t21 => some (t21)) (fun left22 i23 => J' (left22, i23)) a0 x.1 x.2) n (v1, (0 : Int))))
def laws_toIntS_L3 {R : Type} (n : Nat) (kx0 : List Int → Option R) (J : Int → List Int → Option R) (a1 : List Int) (i2 : Int) (out3 : List Int) : Option R :=
  (bif (decide (i2 < (a1.length : Int))) then ix i2 a1.length (ix i2 out3.length (chk (decide (i2.toNat < out3.length)) ((bd (out3.set i2.toNat (a1.getD i2.toNat (0 : Int))) fun (l7 : List Int) => J (w64 (i2 + (1 : Int))) l7)))) else kx0 out3)
def laws_toIntS (n : Nat) (a0 : List Int) : Option (List Int) :=
  chk (decide ((0 : Int) ≤ (a0.length : Int))) (chk (decide ((a0.length : Int) ≤ (a0.length : Int))) (chk (decide ((a0.length : Int) ≤ 9223372036854775807 ∧ (a0.length : Int) * (8 : Int) ≤ 281474976710656)) (loopN (fun (x : Int × List Int) J' => laws_toIntS_L3 n (fun out8 => some (out8)) (fun i9 out10 => J' (i9, out10)) a0 x.1 x.2) n ((0 : Int), (List.replicate (a0.length : Int).toNat (0 : Int))))))
def laws_toFeature (n : Nat) (a0 : SFeature) : Option SFeature :=
  some (a0)
def laws_toFeatureS_L3 {R : Type} (n : Nat) (kx0 : List SFeature → Option R) (J : Int → List SFeature → Option R) (a1 : List SFeature) (i2 : Int) (out3 : List SFeature) : Option R :=
  (bif (decide (i2 < (a1.length : Int))) then ix i2 a1.length ((bd (a1.getD i2.toNat dSFeature) fun (e8 : SFeature) => (laws_toFeature n e8).bind fun r9 => ix i2 out3.length (chk (decide (i2.toNat < out3.length)) (J (w64 (i2 + (1 : Int))) (out3.set i2.toNat r9))))) else kx0 out3)
def laws_toFeatureS (n : Nat) (a0 : List SFeature) : Option (List SFeature) :=
  chk (decide ((0 : Int) ≤ (a0.length : Int))) (chk (decide ((a0.length : Int) ≤ (a0.length : Int))) (chk (decide ((a0.length : Int) ≤ 9223372036854775807 ∧ (a0.length : Int) * (48 : Int) ≤ 281474976710656)) (loopN (fun (x : Int × List SFeature) J' => laws_toFeatureS_L3 n (fun out10 => some (out10)) (fun i11 out12 => J' (i11, out12)) a0 x.1 x.2) n ((0 : Int), (List.replicate (a0.length : Int).toNat dSFeature)))))
def laws_toChart (n : Nat) (a0 : SChart) : Option SChart :=
  (laws_toIntS n a0.Depths).bind fun r1 => (laws_toFeatureS n a0.Features).bind fun r2 => some ((⟨a0.Wide, a0.High, r1, r2, a0.Edition⟩ : SChart))
def laws_toNote (n : Nat) (a0 : SNote) : Option SNote :=
  some (a0)
def laws_toNoteS_L3 {R : Type} (n : Nat) (kx0 : List SNote → Option R) (J : Int → List SNote → Option R) (a1 : List SNote) (i2 : Int) (out3 : List SNote) : Option R :=
  (bif (decide (i2 < (a1.length : Int))) then ix i2 a1.length ((bd (a1.getD i2.toNat dSNote) fun (e8 : SNote) => (laws_toNote n e8).bind fun r9 => ix i2 out3.length (chk (decide (i2.toNat < out3.length)) (J (w64 (i2 + (1 : Int))) (out3.set i2.toNat r9))))) else kx0 out3)
def laws_toNoteS (n : Nat) (a0 : List SNote) : Option (List SNote) :=
  chk (decide ((0 : Int) ≤ (a0.length : Int))) (chk (decide ((a0.length : Int) ≤ (a0.length : Int))) (chk (decide ((a0.length : Int) ≤ 9223372036854775807 ∧ (a0.length : Int) * (64 : Int) ≤ 281474976710656)) (loopN (fun (x : Int × List SNote) J' => laws_toNoteS_L3 n (fun out10 => some (out10)) (fun i11 out12 => J' (i11, out12)) a0 x.1 x.2) n ((0 : Int), (List.replicate (a0.length : Int).toNat dSNote)))))
def laws_toUpdate (n : Nat) (a0 : SUpdate) : Option SUpdate :=
  (laws_toNoteS n a0.Notes).bind fun r1 => some ((⟨a0.Edition, r1⟩ : SUpdate))
def laws_toUpdateS_L3 {R : Type} (n : Nat) (kx0 : List SUpdate → Option R) (J : Int → List SUpdate → Option R) (a1 : List SUpdate) (i2 : Int) (out3 : List SUpdate) : Option R :=
  (bif (decide (i2 < (a1.length : Int))) then ix i2 a1.length ((bd (a1.getD i2.toNat dSUpdate) fun (e8 : SUpdate) => (laws_toUpdate n e8).bind fun r9 => ix i2 out3.length (chk (decide (i2.toNat < out3.length)) (J (w64 (i2 + (1 : Int))) (out3.set i2.toNat r9))))) else kx0 out3)
def laws_toUpdateS (n : Nat) (a0 : List SUpdate) : Option (List SUpdate) :=
  chk (decide ((0 : Int) ≤ (a0.length : Int))) (chk (decide ((a0.length : Int) ≤ (a0.length : Int))) (chk (decide ((a0.length : Int) ≤ 9223372036854775807 ∧ (a0.length : Int) * (32 : Int) ≤ 281474976710656)) (loopN (fun (x : Int × List SUpdate) J' => laws_toUpdateS_L3 n (fun out10 => some (out10)) (fun i11 out12 => J' (i11, out12)) a0 x.1 x.2) n ((0 : Int), (List.replicate (a0.length : Int).toNat dSUpdate)))))
def spec_l6Copy (n : Nat) (c0 : SChart) : Option SChart :=
  chk (decide (c0.Depths.length * 8 ≤ 140737488355328)) (chk (decide (c0.Features.length * 48 ≤ 140737488355328)) (some (c0)))
def spec_l1In (n : Nat) (x0 : Int) (a1 : Int) (b2 : Int) : Option Bool :=
  (bif (decide (x0 ≥ a1)) then some ((decide (x0 ≤ b2))) else some (false))
def spec_l6Depth (n : Nat) (d0 : Int) : Option Bool :=
  (spec_l1In n d0 (-1000 : Int) (10000 : Int)).bind fun r1 => some (r1)
def spec_l6Place (n : Nat) (c0 : SChart) (x1 : Int) (y2 : Int) : Option Bool :=
  (bd (w64 (c0.Wide - (1 : Int))) fun (v1 : Int) => (spec_l1In n x1 (0 : Int) v1).bind fun r2 => (bif r2 then (bd (w64 (c0.High - (1 : Int))) fun (v3 : Int) => (spec_l1In n y2 (0 : Int) v3).bind fun r4 => some (r4)) else some (false)))
def spec_l6Feature (n : Nat) (c0 : SChart) (f1 : SFeature) : Option Bool :=
  (spec_l1In n f1.Id (1 : Int) (1000000 : Int)).bind fun r1 => (bif r1 then (spec_l1In n f1.Kind (1 : Int) (9 : Int)).bind fun r2 => (bif r2 then (spec_l6Place n c0 f1.X f1.Y).bind fun r3 => (bif r3 then some ((decide ((f1.Text.size : Int) ≤ (40 : Int)))) else some (false)) else some (false)) else some (false))
def spec_ChartOk_L4 {R : Type} (n : Nat) (kx0 : Option R) (kxr : Bool → Option R) (J : Int → Option R) (i12 : Int) (c13 : SChart) : Option R :=
  (bif (decide (i12 < (c13.Depths.length : Int))) then ix i12 c13.Depths.length ((spec_l6Depth n (c13.Depths.getD i12.toNat (0 : Int))).bind fun r17 => (bif (!r17) then kxr false else J (w64 (i12 + (1 : Int))))) else kx0)
def spec_ChartOk_k0 {R : Type} (n : Nat) (kx2 : Option R) (kxr : Bool → Option R) (J : Int → Option R) (i21 : Int) (c20 : SChart) : Option R :=
  ix i21 c20.Features.length ((bd (c20.Features.getD i21.toNat dSFeature) fun (e22 : SFeature) => (spec_l6Feature n c20 e22).bind fun r23 => (bif (!r23) then kxr false else (bif (decide (i21 > (0 : Int))) then ix (w64 (i21 - (1 : Int))) c20.Features.length ((bd (c20.Features.getD ((w64 (i21 - (1 : Int))).toNat) dSFeature) fun (e25 : SFeature) => ix i21 c20.Features.length ((bd (c20.Features.getD i21.toNat dSFeature) fun (e26 : SFeature) => (bif (decide (e25.Id ≥ e26.Id)) then kxr false else J (w64 (i21 + (1 : Int)))))))) else J (w64 (i21 + (1 : Int)))))))
def spec_ChartOk_L9 {R : Type} (n : Nat) (kx2 : Option R) (kxr : Bool → Option R) (J : Int → Option R) (i19 : Int) (c20 : SChart) : Option R :=
  (bif (decide (i19 < (c20.Features.length : Int))) then spec_ChartOk_k0 n kx2 kxr J i19 c20 else kx2)
def spec_ChartOk (n : Nat) (c0 : SChart) : Option Bool :=
  (spec_l1In n c0.Wide (1 : Int) (12 : Int)).bind fun r1 => (bif (!r1) then some (false) else (spec_l1In n c0.High (1 : Int) (12 : Int)).bind fun r3 => (bif (!r3) then some (false) else (bd (w64 (c0.Wide * c0.High)) fun (v5 : Int) => (bif (!(decide ((c0.Depths.length : Int) = v5))) then some (false) else (bif (decide ((c0.Features.length : Int) > (30 : Int))) then some (false) else (spec_l1In n c0.Edition (0 : Int) (1000000 : Int)).bind fun r8 => (bif (!r8) then some (false) else loopN (fun (x : Int) J' => spec_ChartOk_L4 n (loopN (fun (x : Int) J' => spec_ChartOk_L9 n (some (true)) (fun t43 => some (t43)) J' x c0) n ((0 : Int))) (fun t45 => some (t45)) J' x c0) n ((0 : Int))))))))
def spec_l6Find_L2 {R : Type} (n : Nat) (kx0 : Option R) (kxr : Int → Option R) (J : Int → Option R) (id1 : Int) (i2 : Int) (c3 : SChart) : Option R :=
  (bif (decide (i2 < (c3.Features.length : Int))) then ix i2 c3.Features.length ((bd (c3.Features.getD i2.toNat dSFeature) fun (e7 : SFeature) => (bif (decide (e7.Id = id1)) then kxr i2 else J (w64 (i2 + (1 : Int)))))) else kx0)
def spec_l6Find (n : Nat) (c0 : SChart) (id1 : Int) : Option Int :=
  loopN (fun (x : Int) J' => spec_l6Find_L2 n (some ((-1 : Int))) (fun t9 => some (t9)) J' id1 x c0) n ((0 : Int))
def spec_l6Note_L8 {R : Type} (n : Nat) (kx1 : Int → Option R) (J : Int → Option R) (k24 : Int) (c25 : Int) (c26 : Int) (c27 : Int) (c28 : List Int) (c29 : List SFeature) (n30 : SNote) (t31 : Int) (t32 : Int) (t33 : Int) (c34 : List Int) (c35 : List SFeature) (f36 : SFeature) : Option R :=
  (bif (decide (k24 < (c29.length : Int))) then ix k24 c29.length (chk (decide (k24.toNat < c29.length)) ((bif (decide ((c29.getD k24.toNat dSFeature).Id < n30.Id)) then J (w64 (k24 + (1 : Int))) else kx1 k24))) else kx1 k24)
def spec_l6Note_k0 (n : Nat)  (c19 : Int) (c20 : Int) (c21 : Int) (p22 : List Int) (p23 : List SFeature) (n1 : SNote) : Option (SChart × Bool) :=
  loopN (fun (x : Int) J' => spec_l6Note_L8 n (fun k42 => chk (decide ((0 : Int) ≤ k42)) (chk (decide (k42 ≤ (p23.length : Int))) (chk (decide ((k42.toNat + (p23.length - k42.toNat)) ≤ p23.length)) ((bd ([(⟨n1.Id, n1.Sort_, n1.X, n1.Y, n1.Text⟩ : SFeature)] ++ ((p23.drop k42.toNat).take (p23.length - k42.toNat))) fun (l43 : List SFeature) => chk (decide (l43.length * 48 ≤ 140737488355328)) (chk (decide ((0 : Int) ≤ k42)) (chk (decide (k42 ≤ (p23.length : Int))) (chk (decide ((0 + (k42.toNat - 0)) ≤ p23.length)) ((bd ((p23.drop 0).take (k42.toNat - 0)) fun (l44 : List SFeature) => chk (decide (l44.length * 48 ≤ 140737488355328)) (chk (decide ((l44 ++ l43).length * 48 ≤ 140737488355328)) (some ((⟨c19, c20, p22, (l44 ++ l43), c21⟩ : SChart), true))))))))))))) J' x c19 c20 c21 p22 p23 n1 (0 : Int) (0 : Int) (0 : Int) [] [] (⟨n1.Id, n1.Sort_, n1.X, n1.Y, n1.Text⟩ : SFeature)) n ((0 : Int))
def spec_l6Note_k1 (n : Nat)  (at51 : Int) (c52 : Int) (c53 : Int) (c54 : Int) (p55 : List Int) (p56 : List SFeature) : Option (SChart × Bool) :=
  chk (decide ((0 : Int) ≤ at51)) (chk (decide (at51 ≤ (p56.length : Int))) (chk (decide ((0 + (at51.toNat - 0)) ≤ p56.length)) ((bd ((p56.drop 0).take (at51.toNat - 0)) fun (l57 : List SFeature) => chk (decide (l57.length * 48 ≤ 140737488355328)) (chk (decide ((0 : Int) ≤ (w64 (at51 + (1 : Int))))) (chk (decide ((w64 (at51 + (1 : Int))) ≤ (p56.length : Int))) (chk (decide (((w64 (at51 + (1 : Int))).toNat + (p56.length - (w64 (at51 + (1 : Int))).toNat)) ≤ p56.length)) ((bd (l57 ++ ((p56.drop ((w64 (at51 + (1 : Int))).toNat)).take (p56.length - (w64 (at51 + (1 : Int))).toNat))) fun (l58 : List SFeature) => chk (decide (l58.length * 48 ≤ 140737488355328)) (some ((⟨c52, c53, p55, l58, c54⟩ : SChart), true)))))))))))
def spec_l6Note_k2 (n : Nat)  (at73 : Int) (c74 : Int) (c75 : Int) (c76 : Int) (p77 : List Int) (p78 : List SFeature) (n1 : SNote) : Option (SChart × Bool) :=
  ix at73 p78.length (chk (decide (at73.toNat < p78.length)) ((bd (p78.getD at73.toNat dSFeature) fun (e79 : SFeature) => (bd (p78.set at73.toNat (⟨e79.Id, e79.Kind, n1.X, e79.Y, e79.Text⟩ : SFeature)) fun (l80 : List SFeature) => ix at73 l80.length (chk (decide (at73.toNat < l80.length)) ((bd (l80.getD at73.toNat dSFeature) fun (e81 : SFeature) => (bd (l80.set at73.toNat (⟨e81.Id, e81.Kind, e81.X, n1.Y, e81.Text⟩ : SFeature)) fun (l82 : List SFeature) => some ((⟨c74, c75, p77, l82, c76⟩ : SChart), true)))))))))
def spec_l6Note_k3 (n : Nat)  (t96 : Bool) (c97 : Int) (c98 : Int) (c99 : Int) (p100 : List Int) (p101 : List SFeature) (n1 : SNote) : Option (SChart × Bool) :=
  (bif t96 then some ((⟨c97, c98, p100, p101, c99⟩ : SChart), false) else (bd (w64 ((w64 (n1.Y * c97)) + n1.X)) fun (v109 : Int) => ix v109 p100.length (chk (decide (v109.toNat < p100.length)) ((bd (p100.set v109.toNat n1.Depth) fun (l110 : List Int) => some ((⟨c97, c98, l110, p101, c99⟩ : SChart), true))))))
def spec_l6Note (n : Nat) (c0 : SChart) (n1 : SNote) : Option (SChart × Bool) :=
  (spec_l6Find n c0 n1.Id).bind fun r1 => (bif (decide (n1.Kind = (1 : Int))) then (spec_l6Feature n c0 (⟨n1.Id, n1.Sort_, n1.X, n1.Y, n1.Text⟩ : SFeature)).bind fun r2 => (bif (!r2) then some (c0, false) else (bif (decide (r1 ≥ (0 : Int))) then some (c0, false) else (bif (decide ((c0.Features.length : Int) ≥ (30 : Int))) then some (c0, false) else spec_l6Note_k0 n  c0.Wide c0.High c0.Edition c0.Depths c0.Features n1))) else (bif (decide (n1.Kind = (2 : Int))) then (bif (decide (r1 < (0 : Int))) then some (c0, false) else spec_l6Note_k1 n  r1 c0.Wide c0.High c0.Edition c0.Depths c0.Features) else (bif (decide (n1.Kind = (3 : Int))) then (bif (decide (r1 < (0 : Int))) then some (c0, false) else (spec_l6Place n c0 n1.X n1.Y).bind fun r65 => (bif (!r65) then some (c0, false) else spec_l6Note_k2 n  r1 c0.Wide c0.High c0.Edition c0.Depths c0.Features n1)) else (bif (decide (n1.Kind = (4 : Int))) then (spec_l6Place n c0 n1.X n1.Y).bind fun r89 => (bif (!r89) then some (c0, false) else (spec_l6Depth n n1.Depth).bind fun r95 => spec_l6Note_k3 n  (!r95) c0.Wide c0.High c0.Edition c0.Depths c0.Features n1) else some (c0, false)))))
def spec_Apply6_k0 {R : Type} (n : Nat) (kx1 : Bool → Int → Int → Int → List Int → List SFeature → Option R) (J : Bool → Int → Int → Int → Int → List Int → List SFeature → Option R) (ok39 : Bool) (i40 : Int) (t41 : Bool) (c23 : Int) (c24 : Int) (c25 : Int) (c26 : List Int) (c27 : List SFeature) (u28 : SUpdate) (t29 : Int) (t30 : Int) (t31 : Int) (c32 : List Int) (c33 : List SFeature) (next42 : Int) (next43 : Int) (next44 : Int) (c45 : List Int) (c46 : List SFeature) : Option R :=
  (bif t41 then ix i40 u28.Notes.length ((bd (u28.Notes.getD i40.toNat dSNote) fun (e55 : SNote) => (spec_l6Note n (⟨next42, next43, c45, c46, next44⟩ : SChart) e55).bind fun r56 => J r56.2 (w64 (i40 + (1 : Int))) r56.1.Wide r56.1.High r56.1.Edition r56.1.Depths r56.1.Features)) else kx1 ok39 next42 next43 next44 c45 c46)
def spec_Apply6_L11 {R : Type} (n : Nat) (kx1 : Bool → Int → Int → Int → List Int → List SFeature → Option R) (J : Bool → Int → Int → Int → Int → List Int → List SFeature → Option R) (ok21 : Bool) (i22 : Int) (c23 : Int) (c24 : Int) (c25 : Int) (c26 : List Int) (c27 : List SFeature) (u28 : SUpdate) (t29 : Int) (t30 : Int) (t31 : Int) (c32 : List Int) (c33 : List SFeature) (next34 : Int) (next35 : Int) (next36 : Int) (c37 : List Int) (c38 : List SFeature) : Option R :=
  (bif (decide (i22 < (u28.Notes.length : Int))) then spec_Apply6_k0 n kx1 J ok21 i22 ok21 c23 c24 c25 c26 c27 u28 t29 t30 t31 c32 c33 next34 next35 next36 c37 c38 else kx1 ok21 next34 next35 next36 c37 c38)
def spec_Apply6_k1 (n : Nat)  (c15 : Int) (c16 : Int) (c17 : Int) (t18 : List Int) (t19 : List SFeature) (u1 : SUpdate) : Option (SChart × Int) :=
  (spec_l6Copy n (⟨c15, c16, t18, t19, c17⟩ : SChart)).bind fun r20 => loopN (fun (x : Bool × Int × Int × Int × Int × List Int × List SFeature) J' => spec_Apply6_L11 n (fun ok64 next65 next66 next67 c68 c69 => (bif (!ok64) then some ((⟨c15, c16, t18, t19, c17⟩ : SChart), (4 : Int)) else some ((⟨next65, next66, c68, c69, u1.Edition⟩ : SChart), (0 : Int)))) (fun ok75 i76 next77 next78 next79 c80 c81 => J' (ok75, i76, next77, next78, next79, c80, c81)) x.1 x.2.1 c15 c16 c17 t18 t19 u1 (0 : Int) (0 : Int) (0 : Int) [] [] x.2.2.1 x.2.2.2.1 x.2.2.2.2.1 x.2.2.2.2.2.1 x.2.2.2.2.2.2) n ((decide (u1.Edition ≤ (1000000 : Int))), (0 : Int), r20.Wide, r20.High, r20.Edition, r20.Depths, r20.Features)
def spec_Apply6_k2 (n : Nat)  (t9 : Bool) (c10 : Int) (c11 : Int) (c12 : Int) (t13 : List Int) (t14 : List SFeature) (u1 : SUpdate) : Option (SChart × Int) :=
  (bif t9 then some ((⟨c10, c11, t13, t14, c12⟩ : SChart), (1 : Int)) else (bif (decide (u1.Edition ≤ c12)) then some ((⟨c10, c11, t13, t14, c12⟩ : SChart), (2 : Int)) else (bif (decide (u1.Edition > (w64 (c12 + (1 : Int))))) then some ((⟨c10, c11, t13, t14, c12⟩ : SChart), (3 : Int)) else spec_Apply6_k1 n  c10 c11 c12 t13 t14 u1)))
def spec_Apply6 (n : Nat) (c0 : SChart) (u1 : SUpdate) : Option (SChart × Int) :=
  (spec_l6Copy n c0).bind fun r1 => (spec_ChartOk n r1).bind fun r2 => (bif (!r2) then some (r1, (1 : Int)) else (spec_l1In n (u1.Notes.length : Int) (1 : Int) (20 : Int)).bind fun r8 => spec_Apply6_k2 n  (!r8) r1.Wide r1.High r1.Edition r1.Depths r1.Features u1)
def spec_Catch_k0 {R : Type} (n : Nat) (kx2 : Bool → Int → Int → Int → List Int → List SFeature → List Bool → Option R) (J : Bool → Int → Int → Int → Int → List Int → List SFeature → List Bool → Option R) (list27 : List SUpdate) (again67 : Bool) (i68 : Int) (c69 : Int) (c70 : Int) (c71 : Int) (c72 : List Int) (c73 : List SFeature) (t35 : Int) (t36 : Int) (t37 : Int) (c38 : List Int) (c39 : List SFeature) (left40 : List Int) (done74 : List Bool) : Option R :=
  ix i68 list27.length ((bd (list27.getD i68.toNat dSUpdate) fun (e75 : SUpdate) => (spec_Apply6 n (⟨c69, c70, c72, c73, c71⟩ : SChart) e75).bind fun r76 => (bif (decide (r76.2 = (0 : Int))) then ix i68 done74.length (chk (decide (i68.toNat < done74.length)) (J true (w64 (i68 + (1 : Int))) r76.1.Wide r76.1.High r76.1.Edition r76.1.Depths r76.1.Features (done74.set i68.toNat true))) else J again67 (w64 (i68 + (1 : Int))) c69 c70 c71 c72 c73 done74)))
def spec_Catch_k1 {R : Type} (n : Nat) (kx2 : Bool → Int → Int → Int → List Int → List SFeature → List Bool → Option R) (J : Bool → Int → Int → Int → Int → List Int → List SFeature → List Bool → Option R) (list27 : List SUpdate) (again51 : Bool) (i52 : Int) (c53 : Int) (c54 : Int) (c55 : Int) (c56 : List Int) (c57 : List SFeature) (t35 : Int) (t36 : Int) (t37 : Int) (c38 : List Int) (c39 : List SFeature) (left40 : List Int) (done58 : List Bool) : Option R :=
  ix i52 done58.length (chk (decide (i52.toNat < done58.length)) ((bif (done58.getD i52.toNat false) then J again51 (w64 (i52 + (1 : Int))) c53 c54 c55 c56 c57 done58 else spec_Catch_k0 n kx2 J list27 again51 i52 c53 c54 c55 c56 c57 t35 t36 t37 c38 c39 left40 done58)))
def spec_Catch_L10 {R : Type} (n : Nat) (kx2 : Bool → Int → Int → Int → List Int → List SFeature → List Bool → Option R) (J : Bool → Int → Int → Int → Int → List Int → List SFeature → List Bool → Option R) (list27 : List SUpdate) (again28 : Bool) (i29 : Int) (c30 : Int) (c31 : Int) (c32 : Int) (c33 : List Int) (c34 : List SFeature) (t35 : Int) (t36 : Int) (t37 : Int) (c38 : List Int) (c39 : List SFeature) (left40 : List Int) (done41 : List Bool) : Option R :=
  (bif (decide (i29 < (list27.length : Int))) then (bif (!again28) then spec_Catch_k1 n kx2 J list27 again28 i29 c30 c31 c32 c33 c34 t35 t36 t37 c38 c39 left40 done41 else kx2 again28 c30 c31 c32 c33 c34 done41) else kx2 again28 c30 c31 c32 c33 c34 done41)
def spec_Catch_k2 {R : Type} (n : Nat) (kx0 : Int → Int → Int → List Int → List SFeature → List Bool → Option R) (J : Bool → Int → Int → Int → List Int → List SFeature → List Bool → Option R) (list7 : List SUpdate) (c21 : Int) (c22 : Int) (c23 : Int) (c24 : List Int) (c25 : List SFeature) (t14 : Int) (t15 : Int) (t16 : Int) (c17 : List Int) (c18 : List SFeature) (left19 : List Int) (done26 : List Bool) : Option R :=
  loopN (fun (x : Bool × Int × Int × Int × Int × List Int × List SFeature × List Bool) J' => spec_Catch_L10 n (fun again108 c109 c110 c111 c112 c113 done114 => J again108 c109 c110 c111 c112 c113 done114) (fun again115 i116 c117 c118 c119 c120 c121 done122 => J' (again115, i116, c117, c118, c119, c120, c121, done122)) list7 x.1 x.2.1 x.2.2.1 x.2.2.2.1 x.2.2.2.2.1 x.2.2.2.2.2.1 x.2.2.2.2.2.2.1 t14 t15 t16 c17 c18 left19 x.2.2.2.2.2.2.2) n (false, (0 : Int), c21, c22, c23, c24, c25, done26)
def spec_Catch_L7 {R : Type} (n : Nat) (kx0 : Int → Int → Int → List Int → List SFeature → List Bool → Option R) (J : Bool → Int → Int → Int → List Int → List SFeature → List Bool → Option R) (list7 : List SUpdate) (again8 : Bool) (c9 : Int) (c10 : Int) (c11 : Int) (c12 : List Int) (c13 : List SFeature) (t14 : Int) (t15 : Int) (t16 : Int) (c17 : List Int) (c18 : List SFeature) (left19 : List Int) (done20 : List Bool) : Option R :=
  (bif again8 then spec_Catch_k2 n kx0 J list7 c9 c10 c11 c12 c13 t14 t15 t16 c17 c18 left19 done20 else kx0 c9 c10 c11 c12 c13 done20)
def spec_Catch_k3 {R : Type} (n : Nat) (kx4 : List Int → Option R) (J : Int → List Int → Option R) (list129 : List SUpdate) (i143 : Int) (c131 : Int) (c132 : Int) (c133 : Int) (c134 : List Int) (c135 : List SFeature) (t136 : Int) (t137 : Int) (t138 : Int) (c139 : List Int) (c140 : List SFeature) (left144 : List Int) (done142 : List Bool) : Option R :=
  ix i143 done142.length (chk (decide (i143.toNat < done142.length)) ((bif (!(done142.getD i143.toNat false)) then chk (decide ((left144 ++ [i143]).length * 8 ≤ 140737488355328)) (J (w64 (i143 + (1 : Int))) (left144 ++ [i143])) else J (w64 (i143 + (1 : Int))) left144)))
def spec_Catch_L19 {R : Type} (n : Nat) (kx4 : List Int → Option R) (J : Int → List Int → Option R) (list129 : List SUpdate) (i130 : Int) (c131 : Int) (c132 : Int) (c133 : Int) (c134 : List Int) (c135 : List SFeature) (t136 : Int) (t137 : Int) (t138 : Int) (c139 : List Int) (c140 : List SFeature) (left141 : List Int) (done142 : List Bool) : Option R :=
  (bif (decide (i130 < (list129.length : Int))) then spec_Catch_k3 n kx4 J list129 i130 c131 c132 c133 c134 c135 t136 t137 t138 c139 c140 left141 done142 else kx4 left141)
def spec_Catch_k4 (n : Nat)  (list1 : List SUpdate) (c2 : Int) (c3 : Int) (c4 : Int) (t5 : List Int) (t6 : List SFeature) : Option (SChart × List Int) :=
  chk (decide ((0 : Int) ≤ (list1.length : Int))) (chk (decide ((list1.length : Int) ≤ (list1.length : Int))) (chk (decide ((list1.length : Int) ≤ 9223372036854775807 ∧ (list1.length : Int) * (1 : Int) ≤ 281474976710656)) (loopN (fun (x : Bool × Int × Int × Int × List Int × List SFeature × List Bool) J' => spec_Catch_L7 n (fun c123 c124 c125 c126 c127 done128 => loopN (fun (x : Int × List Int) J' => spec_Catch_L19 n (fun left149 => some ((⟨c123, c124, c126, c127, c125⟩ : SChart), left149)) (fun i150 left151 => J' (i150, left151)) list1 x.1 c123 c124 c125 c126 c127 (0 : Int) (0 : Int) (0 : Int) [] [] x.2 done128) n ((0 : Int), [])) (fun again152 c153 c154 c155 c156 c157 done158 => J' (again152, c153, c154, c155, c156, c157, done158)) list1 x.1 x.2.1 x.2.2.1 x.2.2.2.1 x.2.2.2.2.1 x.2.2.2.2.2.1 (0 : Int) (0 : Int) (0 : Int) [] [] [] x.2.2.2.2.2.2) n (true, c2, c3, c4, t5, t6, (List.replicate (list1.length : Int).toNat false)))))
def spec_Catch (n : Nat) (c0 : SChart) (list1 : List SUpdate) : Option (SChart × List Int) :=
  (spec_l6Copy n c0).bind fun r1 => (bif (decide ((list1.length : Int) > (60 : Int))) then some (r1, []) else spec_Catch_k4 n  list1 r1.Wide r1.High r1.Edition r1.Depths r1.Features)
def impl_own_int (n : Nat) (l0 : List Int) : Option (List Int) :=
  chk (decide ((0 : Int) ≤ (l0.length : Int))) (chk (decide ((l0.length : Int) ≤ 9223372036854775807 ∧ (l0.length : Int) * (8 : Int) ≤ 281474976710656)) (chk (decide (l0.length * 8 ≤ 140737488355328)) (some (l0))))
def impl_own_impl_Feature (n : Nat) (l0 : List SFeature) : Option (List SFeature) :=
  chk (decide ((0 : Int) ≤ (l0.length : Int))) (chk (decide ((l0.length : Int) ≤ 9223372036854775807 ∧ (l0.length : Int) * (48 : Int) ≤ 281474976710656)) (chk (decide (l0.length * 48 ≤ 140737488355328)) (some (l0))))
def impl_Chart_own (n : Nat) (c0 : SChart) : Option SChart :=
  (impl_own_int n c0.Depths).bind fun r1 => (impl_own_impl_Feature n c0.Features).bind fun r2 => some ((⟨c0.Wide, c0.High, r1, r2, c0.Edition⟩ : SChart))
def impl_in (n : Nat) (n0 : Int) (least1 : Int) (most2 : Int) : Option Bool :=
  (bif (decide (n0 ≥ least1)) then some ((decide (n0 ≤ most2))) else some (false))
def impl_all_1 (n : Nat) (n0 : Int) (a1 : Int) (a2 : Int) : Option Bool :=
  (impl_in n n0 a1 a2).bind fun r1 => some ((!r1))
def slices_IndexFunc_int_int__impl_all_1_L2 {R : Type} (n : Nat) (kx0 : Option R) (kxr : Int → Option R) (J : Int → Option R) (s1 : List Int) (f2 : Int) (f3 : Int) (t4 : Int) (t5 : Int) : Option R :=
  (bif (decide (t5 < t4)) then ix t5 s1.length ((impl_all_1 n (s1.getD t5.toNat (0 : Int)) f2 f3).bind fun r9 => (bif r9 then kxr t5 else J (w64 (t5 + (1 : Int))))) else kx0)
def slices_IndexFunc_int_int__impl_all_1 (n : Nat) (s0 : List Int) (f1c0 : Int) (f1c1 : Int) : Option Int :=
  loopN (fun (x : Int) J' => slices_IndexFunc_int_int__impl_all_1_L2 n (some ((-1 : Int))) (fun t11 => some (t11)) J' s0 f1c0 f1c1 (s0.length : Int) x) n ((0 : Int))
def slices_ContainsFunc_int_int__impl_all_1 (n : Nat) (s0 : List Int) (f1c0 : Int) (f1c1 : Int) : Option Bool :=
  (slices_IndexFunc_int_int__impl_all_1 n s0 f1c0 f1c1).bind fun r1 => some ((decide (r1 ≥ (0 : Int))))
def impl_all (n : Nat) (l0 : List Int) (least1 : Int) (most2 : Int) : Option Bool :=
  (slices_ContainsFunc_int_int__impl_all_1 n l0 least1 most2).bind fun r1 => some ((!r1))
def impl_Chart_place (n : Nat) (c0 : SChart) (x1 : Int) (y2 : Int) : Option Bool :=
  (bd (w64 (c0.Wide - (1 : Int))) fun (v1 : Int) => (impl_in n x1 (0 : Int) v1).bind fun r2 => (bif r2 then (bd (w64 (c0.High - (1 : Int))) fun (v3 : Int) => (impl_in n y2 (0 : Int) v3).bind fun r4 => some (r4)) else some (false)))
def impl_Chart_featureOk (n : Nat) (c0 : SChart) (f1 : SFeature) : Option Bool :=
  (impl_in n f1.Id (1 : Int) (1000000 : Int)).bind fun r1 => (bif r1 then (impl_in n f1.Kind (1 : Int) (9 : Int)).bind fun r2 => (bif r2 then (impl_Chart_place n c0 f1.X f1.Y).bind fun r3 => (bif r3 then some ((decide ((f1.Text.size : Int) ≤ (40 : Int)))) else some (false)) else some (false)) else some (false))
def impl_ChartOk_k0 {R : Type} (n : Nat) (kx0 : Option R) (kxr : Bool → Option R) (J : Int → Option R) (t14 : List SFeature) (t15 : Int) (t18 : Int) (c17 : SChart) : Option R :=
  ix t18 t14.length ((bd (t14.getD t18.toNat dSFeature) fun (e19 : SFeature) => (impl_Chart_featureOk n c17 e19).bind fun r20 => (bif (!r20) then kxr false else (bif (decide (t18 > (0 : Int))) then ix (w64 (t18 - (1 : Int))) c17.Features.length ((bd (c17.Features.getD ((w64 (t18 - (1 : Int))).toNat) dSFeature) fun (e22 : SFeature) => (bif (decide (e22.Id ≥ e19.Id)) then kxr false else J (w64 (t18 + (1 : Int)))))) else J (w64 (t18 + (1 : Int)))))))
def impl_ChartOk_L4 {R : Type} (n : Nat) (kx0 : Option R) (kxr : Bool → Option R) (J : Int → Option R) (t14 : List SFeature) (t15 : Int) (t16 : Int) (c17 : SChart) : Option R :=
  (bif (decide (t16 < t15)) then impl_ChartOk_k0 n kx0 kxr J t14 t15 t16 c17 else kx0)
def impl_ChartOk (n : Nat) (c0 : SChart) : Option Bool :=
  (impl_in n c0.Wide (1 : Int) (12 : Int)).bind fun r1 => (bif (!r1) then some (false) else (impl_in n c0.High (1 : Int) (12 : Int)).bind fun r3 => (bif (!r3) then some (false) else (bd (w64 (c0.Wide * c0.High)) fun (v5 : Int) => (bif (!(decide ((c0.Depths.length : Int) = v5))) then some (false) else (impl_all n c0.Depths (-1000 : Int) (10000 : Int)).bind fun r7 => (bif (!r7) then some (false) else (bif (decide ((c0.Features.length : Int) > (30 : Int))) then some (false) else (impl_in n c0.Edition (0 : Int) (1000000 : Int)).bind fun r10 => (bif (!r10) then some (false) else loopN (fun (x : Int) J' => impl_ChartOk_L4 n (some (true)) (fun t35 => some (t35)) J' c0.Features (c0.Features.length : Int) x c0) n ((0 : Int)))))))))
def impl_Chart_note_1 (n : Nat) (f0 : SFeature) (a1 : SNote) : Option Bool :=
  some ((decide (f0.Id = a1.Id)))
def slices_IndexFunc_impl_Feature_impl_Feature__impl_Chart_note_1_L2 {R : Type} (n : Nat) (kx0 : Option R) (kxr : Int → Option R) (J : Int → Option R) (s1 : List SFeature) (f2 : SNote) (t3 : Int) (t4 : Int) : Option R :=
  (bif (decide (t4 < t3)) then ix t4 s1.length ((bd (s1.getD t4.toNat dSFeature) fun (e9 : SFeature) => (impl_Chart_note_1 n e9 f2).bind fun r10 => (bif r10 then kxr t4 else J (w64 (t4 + (1 : Int)))))) else kx0)
def slices_IndexFunc_impl_Feature_impl_Feature__impl_Chart_note_1 (n : Nat) (s0 : List SFeature) (f1c0 : SNote) : Option Int :=
  loopN (fun (x : Int) J' => slices_IndexFunc_impl_Feature_impl_Feature__impl_Chart_note_1_L2 n (some ((-1 : Int))) (fun t12 => some (t12)) J' s0 f1c0 (s0.length : Int) x) n ((0 : Int))
def impl_Chart_note_2 (n : Nat) (a0 : SFeature) (b1 : SFeature) : Option Int :=
  some ((w64 (a0.Id - b1.Id)))
def slices_SortFunc_impl_Feature_impl_Feature__impl_Chart_note_2 (n : Nat) (l0 : List SFeature) : Option (List SFeature) :=
  sortL dSFeature (fun a b => impl_Chart_note_2 n a b) l0
def slices_Delete_impl_Feature_impl_Feature (n : Nat) (l0 : List SFeature) (i1 : Int) (j2 : Int) : Option (List SFeature) :=
  delL l0 i1 j2
def impl_depthOk (n : Nat) (d0 : Int) : Option Bool :=
  (impl_in n d0 (-1000 : Int) (10000 : Int)).bind fun r1 => some (r1)
def impl_Chart_note_k0 (n : Nat)  (t13 : Bool) (p14 : Int) (p15 : Int) (p16 : Int) (p17 : List Int) (p18 : List SFeature) (n1 : SNote) : Option (Bool × SChart) :=
  (bif t13 then some (false, (⟨p14, p15, p17, p18, p16⟩ : SChart)) else (bd (p18 ++ [(⟨n1.Id, n1.Sort_, n1.X, n1.Y, n1.Text⟩ : SFeature)]) fun (l31 : List SFeature) => chk (decide (l31.length * 48 ≤ 140737488355328)) ((slices_SortFunc_impl_Feature_impl_Feature__impl_Chart_note_2 n l31).bind fun r32 => some (true, (⟨p14, p15, p17, r32, p16⟩ : SChart)))))
def impl_Chart_note_k1 (n : Nat)  (i70 : Int) (p71 : Int) (p72 : Int) (p73 : Int) (p74 : List Int) (p75 : List SFeature) (n1 : SNote) : Option (Bool × SChart) :=
  ix i70 p75.length (chk (decide (i70.toNat < p75.length)) ((bd (p75.getD i70.toNat dSFeature) fun (e76 : SFeature) => (bd (p75.set i70.toNat (⟨e76.Id, e76.Kind, n1.X, e76.Y, e76.Text⟩ : SFeature)) fun (l77 : List SFeature) => ix i70 l77.length (chk (decide (i70.toNat < l77.length)) ((bd (l77.getD i70.toNat dSFeature) fun (e78 : SFeature) => (bd (l77.set i70.toNat (⟨e78.Id, e78.Kind, e78.X, n1.Y, e78.Text⟩ : SFeature)) fun (l79 : List SFeature) => some (true, (⟨p71, p72, p74, l79, p73⟩ : SChart))))))))))
def impl_Chart_note_k2 (n : Nat)  (t98 : Bool) (p99 : Int) (p100 : Int) (p101 : Int) (p102 : List Int) (p103 : List SFeature) (n1 : SNote) : Option (Bool × SChart) :=
  (bif t98 then some (false, (⟨p99, p100, p102, p103, p101⟩ : SChart)) else (bd (w64 ((w64 (n1.Y * p99)) + n1.X)) fun (v116 : Int) => ix v116 p102.length (chk (decide (v116.toNat < p102.length)) ((bd (p102.set v116.toNat n1.Depth) fun (l117 : List Int) => some (true, (⟨p99, p100, l117, p103, p101⟩ : SChart)))))))
def impl_Chart_note (n : Nat) (c0 : SChart) (n1 : SNote) : Option (Bool × SChart) :=
  (slices_IndexFunc_impl_Feature_impl_Feature__impl_Chart_note_1 n c0.Features n1).bind fun r1 => (bif (decide (n1.Kind = (1 : Int))) then (impl_Chart_featureOk n c0 (⟨n1.Id, n1.Sort_, n1.X, n1.Y, n1.Text⟩ : SFeature)).bind fun r2 => (bif (!r2) then some (false, c0) else (bif (decide (r1 ≥ (0 : Int))) then some (false, c0) else impl_Chart_note_k0 n  (decide ((c0.Features.length : Int) = (30 : Int))) c0.Wide c0.High c0.Edition c0.Depths c0.Features n1)) else (bif (decide (n1.Kind = (2 : Int))) then (bif (decide (r1 < (0 : Int))) then some (false, c0) else (slices_Delete_impl_Feature_impl_Feature n c0.Features r1 (w64 (r1 + (1 : Int)))).bind fun r50 => some (true, (⟨c0.Wide, c0.High, c0.Depths, r50, c0.Edition⟩ : SChart))) else (bif (decide (n1.Kind = (3 : Int))) then (bif (decide (r1 < (0 : Int))) then some (false, c0) else (impl_Chart_place n c0 n1.X n1.Y).bind fun r62 => (bif (!r62) then some (false, c0) else impl_Chart_note_k1 n  r1 c0.Wide c0.High c0.Edition c0.Depths c0.Features n1)) else (bif (decide (n1.Kind = (4 : Int))) then (impl_Chart_place n c0 n1.X n1.Y).bind fun r91 => (bif (!r91) then some (false, c0) else (impl_depthOk n n1.Depth).bind fun r97 => impl_Chart_note_k2 n  (!r97) c0.Wide c0.High c0.Edition c0.Depths c0.Features n1) else some (false, c0)))))
def impl_Apply6_k0 {R : Type} (n : Nat) (kx1 : Int → Int → Int → List Int → List SFeature → Option R) (kxr : Int → Option R) (J : Int → Int → Int → Int → List Int → List SFeature → Option R) (t25 : List SNote) (t26 : Int) (t44 : Int) (u28 : SUpdate) (t29 : Int) (t30 : Int) (t31 : Int) (c32 : List Int) (c33 : List SFeature) (was34 : Int) (was35 : Int) (was36 : Int) (c37 : List Int) (c38 : List SFeature) (x45 : Int) (x46 : Int) (x47 : Int) (c48 : List Int) (c49 : List SFeature) : Option R :=
  ix t44 t25.length ((bd (t25.getD t44.toNat dSNote) fun (e50 : SNote) => (impl_Chart_note n (⟨x45, x46, c48, c49, x47⟩ : SChart) e50).bind fun r51 => (bif (!r51.1) then kxr (4 : Int) else J (w64 (t44 + (1 : Int))) r51.2.Wide r51.2.High r51.2.Edition r51.2.Depths r51.2.Features)))
def impl_Apply6_L12 {R : Type} (n : Nat) (kx1 : Int → Int → Int → List Int → List SFeature → Option R) (kxr : Int → Option R) (J : Int → Int → Int → Int → List Int → List SFeature → Option R) (t25 : List SNote) (t26 : Int) (t27 : Int) (u28 : SUpdate) (t29 : Int) (t30 : Int) (t31 : Int) (c32 : List Int) (c33 : List SFeature) (was34 : Int) (was35 : Int) (was36 : Int) (c37 : List Int) (c38 : List SFeature) (x39 : Int) (x40 : Int) (x41 : Int) (c42 : List Int) (c43 : List SFeature) : Option R :=
  (bif (decide (t27 < t26)) then impl_Apply6_k0 n kx1 kxr J t25 t26 t27 u28 t29 t30 t31 c32 c33 was34 was35 was36 c37 c38 x39 x40 x41 c42 c43 else kx1 x39 x40 x41 c42 c43)
def impl_Apply6_k1 (n : Nat)  (c18 : SChart) (u1 : SUpdate) (was19 : Int) (was20 : Int) (was21 : Int) (t22 : List Int) (t23 : List SFeature) : Option (SChart × Int) :=
  (impl_Chart_own n c18).bind fun r24 => loopN (fun (x : Int × Int × Int × Int × List Int × List SFeature) J' => impl_Apply6_L12 n (fun x58 x59 x60 c61 c62 => (impl_Chart_own n (⟨x58, x59, c61, c62, u1.Edition⟩ : SChart)).bind fun r63 => some (r63, (0 : Int))) (fun t64 => some ((⟨was19, was20, t22, t23, was21⟩ : SChart), t64)) (fun t65 x66 x67 x68 c69 c70 => J' (t65, x66, x67, x68, c69, c70)) u1.Notes (u1.Notes.length : Int) x.1 u1 (0 : Int) (0 : Int) (0 : Int) [] [] was19 was20 was21 t22 t23 x.2.1 x.2.2.1 x.2.2.2.1 x.2.2.2.2.1 x.2.2.2.2.2) n ((0 : Int), r24.Wide, r24.High, r24.Edition, r24.Depths, r24.Features)
def impl_Apply6_k2 (n : Nat)  (t10 : Bool) (c11 : SChart) (u1 : SUpdate) (was12 : Int) (was13 : Int) (was14 : Int) (t15 : List Int) (t16 : List SFeature) : Option (SChart × Int) :=
  (bif t10 then some ((⟨was12, was13, t15, t16, was14⟩ : SChart), (1 : Int)) else (bif (decide (u1.Edition ≤ c11.Edition)) then some ((⟨was12, was13, t15, t16, was14⟩ : SChart), (2 : Int)) else (bd (w64 (c11.Edition + (1 : Int))) fun (v17 : Int) => (bif (decide (u1.Edition > v17)) then some ((⟨was12, was13, t15, t16, was14⟩ : SChart), (3 : Int)) else (bif (decide (u1.Edition > (1000000 : Int))) then some ((⟨was12, was13, t15, t16, was14⟩ : SChart), (4 : Int)) else impl_Apply6_k1 n  c11 u1 was12 was13 was14 t15 t16)))))
def impl_Apply6 (n : Nat) (c0 : SChart) (u1 : SUpdate) : Option (SChart × Int) :=
  (impl_Chart_own n c0).bind fun r1 => (impl_ChartOk n c0).bind fun r2 => (bif (!r2) then some (r1, (1 : Int)) else (impl_in n (u1.Notes.length : Int) (1 : Int) (20 : Int)).bind fun r9 => impl_Apply6_k2 n  (!r9) c0 u1 r1.Wide r1.High r1.Edition r1.Depths r1.Features)
def impl_Catch_k0 {R : Type} (n : Nat) (kx2 : Bool → Int → Int → Int → List Int → List SFeature → List Bool → Option R) (J : Int → Option R) (list26 : List SUpdate) (again27 : Bool) (i45 : Int) (t28 : List SUpdate) (t29 : Int) (t46 : Int) (c31 : Int) (c32 : Int) (c33 : Int) (c34 : List Int) (c35 : List SFeature) (t36 : Int) (t37 : Int) (t38 : Int) (c39 : List Int) (c40 : List SFeature) (done41 : List Bool) (u47 : SUpdate) : Option R :=
  (impl_Apply6 n (⟨c31, c32, c34, c35, c33⟩ : SChart) u47).bind fun r48 => (bif (decide (r48.2 = (0 : Int))) then ix i45 done41.length (chk (decide (i45.toNat < done41.length)) (kx2 true r48.1.Wide r48.1.High r48.1.Edition r48.1.Depths r48.1.Features (done41.set i45.toNat true))) else J (w64 (t46 + (1 : Int))))
def impl_Catch_k1 {R : Type} (n : Nat) (kx2 : Bool → Int → Int → Int → List Int → List SFeature → List Bool → Option R) (J : Int → Option R) (list26 : List SUpdate) (again27 : Bool) (t28 : List SUpdate) (t29 : Int) (t42 : Int) (c31 : Int) (c32 : Int) (c33 : Int) (c34 : List Int) (c35 : List SFeature) (t36 : Int) (t37 : Int) (t38 : Int) (c39 : List Int) (c40 : List SFeature) (done41 : List Bool) : Option R :=
  ix t42 t28.length ((bd (t28.getD t42.toNat dSUpdate) fun (e43 : SUpdate) => ix t42 done41.length (chk (decide (t42.toNat < done41.length)) ((bif (done41.getD t42.toNat false) then J (w64 (t42 + (1 : Int))) else impl_Catch_k0 n kx2 J list26 again27 t42 t28 t29 t42 c31 c32 c33 c34 c35 t36 t37 t38 c39 c40 done41 e43)))))
def impl_Catch_L9 {R : Type} (n : Nat) (kx2 : Bool → Int → Int → Int → List Int → List SFeature → List Bool → Option R) (J : Int → Option R) (list26 : List SUpdate) (again27 : Bool) (t28 : List SUpdate) (t29 : Int) (t30 : Int) (c31 : Int) (c32 : Int) (c33 : Int) (c34 : List Int) (c35 : List SFeature) (t36 : Int) (t37 : Int) (t38 : Int) (c39 : List Int) (c40 : List SFeature) (done41 : List Bool) : Option R :=
  (bif (decide (t30 < t29)) then impl_Catch_k1 n kx2 J list26 again27 t28 t29 t30 c31 c32 c33 c34 c35 t36 t37 t38 c39 c40 done41 else kx2 again27 c31 c32 c33 c34 c35 done41)
def impl_Catch_L6 {R : Type} (n : Nat) (kx0 : Int → Int → Int → List Int → List SFeature → List Bool → Option R) (J : Bool → Int → Int → Int → List Int → List SFeature → List Bool → Option R) (list7 : List SUpdate) (again8 : Bool) (c9 : Int) (c10 : Int) (c11 : Int) (c12 : List Int) (c13 : List SFeature) (t14 : Int) (t15 : Int) (t16 : Int) (c17 : List Int) (c18 : List SFeature) (done19 : List Bool) : Option R :=
  (bif again8 then loopN (fun (x : Int) J' => impl_Catch_L9 n (fun again58 c59 c60 c61 c62 c63 done64 => J again58 c59 c60 c61 c62 c63 done64) J' list7 false list7 (list7.length : Int) x c9 c10 c11 c12 c13 t14 t15 t16 c17 c18 done19) n ((0 : Int)) else kx0 c9 c10 c11 c12 c13 done19)
def impl_Catch_L18 {R : Type} (n : Nat) (kx4 : List Int → Option R) (J : Int → List Int → Option R) (t72 : Int) (t73 : Int) (c74 : Int) (c75 : Int) (c76 : Int) (c77 : List Int) (c78 : List SFeature) (t79 : Int) (t80 : Int) (t81 : Int) (c82 : List Int) (c83 : List SFeature) (left84 : List Int) (t85 : List Bool) : Option R :=
  (bif (decide (t73 < t72)) then ix t73 t85.length (chk (decide (t73.toNat < t85.length)) ((bif (!(t85.getD t73.toNat false)) then chk (decide ((left84 ++ [t73]).length * 8 ≤ 140737488355328)) (J (w64 (t73 + (1 : Int))) (left84 ++ [t73])) else J (w64 (t73 + (1 : Int))) left84))) else kx4 left84)
def impl_Catch_k2 (n : Nat)  (list1 : List SUpdate) (c2 : Int) (c3 : Int) (c4 : Int) (t5 : List Int) (t6 : List SFeature) : Option (SChart × List Int) :=
  chk (decide ((0 : Int) ≤ (list1.length : Int))) (chk (decide ((list1.length : Int) ≤ (list1.length : Int))) (chk (decide ((list1.length : Int) ≤ 9223372036854775807 ∧ (list1.length : Int) * (1 : Int) ≤ 281474976710656)) (loopN (fun (x : Bool × Int × Int × Int × List Int × List SFeature × List Bool) J' => impl_Catch_L6 n (fun c66 c67 c68 c69 c70 done71 => loopN (fun (x : Int × List Int) J' => impl_Catch_L18 n (fun left96 => (impl_own_int n left96).bind fun r97 => some ((⟨c66, c67, c69, c70, c68⟩ : SChart), r97)) (fun t98 left99 => J' (t98, left99)) (done71.length : Int) x.1 c66 c67 c68 c69 c70 (0 : Int) (0 : Int) (0 : Int) [] [] x.2 done71) n ((0 : Int), [])) (fun again100 c101 c102 c103 c104 c105 done106 => J' (again100, c101, c102, c103, c104, c105, done106)) list1 x.1 x.2.1 x.2.2.1 x.2.2.2.1 x.2.2.2.2.1 x.2.2.2.2.2.1 (0 : Int) (0 : Int) (0 : Int) [] [] x.2.2.2.2.2.2) n (true, c2, c3, c4, t5, t6, (List.replicate (list1.length : Int).toNat false)))))
def impl_Catch (n : Nat) (c0 : SChart) (list1 : List SUpdate) : Option (SChart × List Int) :=
  (impl_Chart_own n c0).bind fun r1 => (bif (decide ((list1.length : Int) > (60 : Int))) then some (r1, []) else impl_Catch_k2 n  list1 r1.Wide r1.High r1.Edition r1.Depths r1.Features)
def laws_eqIntS_L4 {R : Type} (n : Nat) (kx0 : Option R) (kxr : Bool → Option R) (J : Int → Option R) (a1 : List Int) (b2 : List Int) (i3 : Int) : Option R :=
  (bif (decide (i3 < (a1.length : Int))) then ix i3 a1.length (ix i3 b2.length ((bif (!(decide ((a1.getD i3.toNat (0 : Int)) = (b2.getD i3.toNat (0 : Int))))) then kxr false else J (w64 (i3 + (1 : Int)))))) else kx0)
def laws_eqIntS (n : Nat) (a0 : List Int) (b1 : List Int) : Option Bool :=
  (bif (!(decide ((a0.length : Int) = (b1.length : Int)))) then some (false) else loopN (fun (x : Int) J' => laws_eqIntS_L4 n (some (true)) (fun t9 => some (t9)) J' a0 b1 x) n ((0 : Int)))
def laws_eqFeature (n : Nat) (a0 : SFeature) (b1 : SFeature) : Option Bool :=
  (bif (!(decide (a0.Id = b1.Id))) then some (false) else (bif (!(decide (a0.Kind = b1.Kind))) then some (false) else (bif (!(decide (a0.X = b1.X))) then some (false) else (bif (!(decide (a0.Y = b1.Y))) then some (false) else (bif (!(decide (a0.Text = b1.Text))) then some (false) else some (true))))))
def laws_eqFeatureS_L4 {R : Type} (n : Nat) (kx0 : Option R) (kxr : Bool → Option R) (J : Int → Option R) (a1 : List SFeature) (b2 : List SFeature) (i3 : Int) : Option R :=
  (bif (decide (i3 < (a1.length : Int))) then ix i3 a1.length ((bd (a1.getD i3.toNat dSFeature) fun (e9 : SFeature) => ix i3 b2.length ((bd (b2.getD i3.toNat dSFeature) fun (e10 : SFeature) => (laws_eqFeature n e9 e10).bind fun r11 => (bif (!r11) then kxr false else J (w64 (i3 + (1 : Int)))))))) else kx0)
def laws_eqFeatureS (n : Nat) (a0 : List SFeature) (b1 : List SFeature) : Option Bool :=
  (bif (!(decide ((a0.length : Int) = (b1.length : Int)))) then some (false) else loopN (fun (x : Int) J' => laws_eqFeatureS_L4 n (some (true)) (fun t15 => some (t15)) J' a0 b1 x) n ((0 : Int)))
def laws_eqChart_k0 (n : Nat)  (a0 : SChart) (b1 : SChart) : Option Bool :=
  (bif (!(decide (a0.High = b1.High))) then some (false) else (laws_eqIntS n a0.Depths b1.Depths).bind fun r4 => (bif (!r4) then some (false) else (laws_eqFeatureS n a0.Features b1.Features).bind fun r5 => (bif (!r5) then some (false) else (bif (!(decide (a0.Edition = b1.Edition))) then some (false) else some (true)))))
def laws_eqChart (n : Nat) (a0 : SChart) (b1 : SChart) : Option Bool :=
  (bif (!(decide (a0.Wide = b1.Wide))) then some (false) else laws_eqChart_k0 n  a0 b1)
def laws_eqNote_k0 (n : Nat)  (a0 : SNote) (b1 : SNote) : Option Bool :=
  (bif (!(decide (a0.X = b1.X))) then some (false) else (bif (!(decide (a0.Y = b1.Y))) then some (false) else (bif (!(decide (a0.Depth = b1.Depth))) then some (false) else (bif (!(decide (a0.Text = b1.Text))) then some (false) else (bif (!(decide (a0.Sort_ = b1.Sort_))) then some (false) else some (true))))))
def laws_eqNote (n : Nat) (a0 : SNote) (b1 : SNote) : Option Bool :=
  (bif (!(decide (a0.Kind = b1.Kind))) then some (false) else (bif (!(decide (a0.Id = b1.Id))) then some (false) else laws_eqNote_k0 n  a0 b1))
def laws_eqNoteS_L4 {R : Type} (n : Nat) (kx0 : Option R) (kxr : Bool → Option R) (J : Int → Option R) (a1 : List SNote) (b2 : List SNote) (i3 : Int) : Option R :=
  (bif (decide (i3 < (a1.length : Int))) then ix i3 a1.length ((bd (a1.getD i3.toNat dSNote) fun (e9 : SNote) => ix i3 b2.length ((bd (b2.getD i3.toNat dSNote) fun (e10 : SNote) => (laws_eqNote n e9 e10).bind fun r11 => (bif (!r11) then kxr false else J (w64 (i3 + (1 : Int)))))))) else kx0)
def laws_eqNoteS (n : Nat) (a0 : List SNote) (b1 : List SNote) : Option Bool :=
  (bif (!(decide ((a0.length : Int) = (b1.length : Int)))) then some (false) else loopN (fun (x : Int) J' => laws_eqNoteS_L4 n (some (true)) (fun t15 => some (t15)) J' a0 b1 x) n ((0 : Int)))
def laws_eqUpdate (n : Nat) (a0 : SUpdate) (b1 : SUpdate) : Option Bool :=
  (bif (!(decide (a0.Edition = b1.Edition))) then some (false) else (laws_eqNoteS n a0.Notes b1.Notes).bind fun r2 => (bif (!r2) then some (false) else some (true)))
def laws_eqUpdateS_L4 {R : Type} (n : Nat) (kx0 : Option R) (kxr : Bool → Option R) (J : Int → Option R) (a1 : List SUpdate) (b2 : List SUpdate) (i3 : Int) : Option R :=
  (bif (decide (i3 < (a1.length : Int))) then ix i3 a1.length ((bd (a1.getD i3.toNat dSUpdate) fun (e9 : SUpdate) => ix i3 b2.length ((bd (b2.getD i3.toNat dSUpdate) fun (e10 : SUpdate) => (laws_eqUpdate n e9 e10).bind fun r11 => (bif (!r11) then kxr false else J (w64 (i3 + (1 : Int)))))))) else kx0)
def laws_eqUpdateS (n : Nat) (a0 : List SUpdate) (b1 : List SUpdate) : Option Bool :=
  (bif (!(decide ((a0.length : Int) = (b1.length : Int)))) then some (false) else loopN (fun (x : Int) J' => laws_eqUpdateS_L4 n (some (true)) (fun t15 => some (t15)) J' a0 b1 x) n ((0 : Int)))
def laws_markIntS_L2 {R : Type} (n : Nat) (kx0 : Int → List Int → Option R) (J : Int → Int → List Int → Option R) (k1 : Int) (i2 : Int) (p3 : List Int) : Option R :=
  (bif (decide (i2 < (p3.length : Int))) then ix i2 p3.length (chk (decide (i2.toNat < p3.length)) (J (w64 (k1 + (1 : Int))) (w64 (i2 + (1 : Int))) (p3.set i2.toNat k1))) else kx0 k1 p3)
def laws_markIntS (n : Nat) (a0 : List Int) (k1 : Int) : Option (Int × List Int) :=
  loopN (fun (x : Int × Int × List Int) J' => laws_markIntS_L2 n (fun k7 p8 => some (k7, p8)) (fun k9 i10 p11 => J' (k9, i10, p11)) x.1 x.2.1 x.2.2) n (k1, (0 : Int), a0)
def laws_markText_L4 {R : Type} (n : Nat) (kx0 : ByteArray → Option R) (J : Int → ByteArray → Option R) (k2 : Int) (out3 : ByteArray) : Option R :=
  (bif (decide (k2 > (0 : Int))) then (bd (w64 ((48 : Int) + (Int.tmod k2 (10 : Int)))) fun (v8 : Int) => chk (decide ((((bstr [(wu8 v8)]).size + out3.size : Nat) : Int) ≤ 9223372036854775807)) ((bd (w64 (Int.tdiv k2 (10 : Int))) fun (v9 : Int) => J v9 ((bstr [(wu8 v8)]) ++ out3)))) else kx0 out3)
def laws_markText (n : Nat) (k0 : Int) : Option ByteArray :=
  (bif (decide (k0 ≤ (0 : Int))) then some (str [109, 48]) else loopN (fun (x : Int × ByteArray) J' => laws_markText_L4 n (fun out13 => chk (decide ((((str [109]).size + out13.size : Nat) : Int) ≤ 9223372036854775807)) (some ((str [109] ++ out13)))) (fun k14 out15 => J' (k14, out15)) x.1 x.2) n (k0, str []))
def laws_markFeatureS_k0 {R : Type} (n : Nat) (kx0 : Int → List SFeature → Option R) (J : Int → Int → List SFeature → Option R) (k4 : Int) (i5 : Int) (p6 : List SFeature) : Option R :=
  ix i5 p6.length (chk (decide (i5.toNat < p6.length)) ((bd (p6.getD i5.toNat dSFeature) fun (e7 : SFeature) => (bd (p6.set i5.toNat (⟨k4, e7.Kind, e7.X, e7.Y, e7.Text⟩ : SFeature)) fun (l8 : List SFeature) => ix i5 l8.length (chk (decide (i5.toNat < l8.length)) ((bd (l8.getD i5.toNat dSFeature) fun (e9 : SFeature) => (bd (l8.set i5.toNat (⟨e9.Id, (w64 (k4 + (1 : Int))), e9.X, e9.Y, e9.Text⟩ : SFeature)) fun (l10 : List SFeature) => (bd (w64 ((w64 (k4 + (1 : Int))) + (1 : Int))) fun (v11 : Int) => ix i5 l10.length (chk (decide (i5.toNat < l10.length)) ((bd (l10.getD i5.toNat dSFeature) fun (e12 : SFeature) => (bd (l10.set i5.toNat (⟨e12.Id, e12.Kind, v11, e12.Y, e12.Text⟩ : SFeature)) fun (l13 : List SFeature) => ix i5 l13.length (chk (decide (i5.toNat < l13.length)) ((bd (l13.getD i5.toNat dSFeature) fun (e14 : SFeature) => (bd (l13.set i5.toNat (⟨e14.Id, e14.Kind, e14.X, (w64 (v11 + (1 : Int))), e14.Text⟩ : SFeature)) fun (l15 : List SFeature) => (bd (w64 ((w64 (v11 + (1 : Int))) + (1 : Int))) fun (v16 : Int) => (laws_markText n v16).bind fun r17 => ix i5 l15.length (chk (decide (i5.toNat < l15.length)) ((bd (l15.getD i5.toNat dSFeature) fun (e18 : SFeature) => (bd (l15.set i5.toNat (⟨e18.Id, e18.Kind, e18.X, e18.Y, r17⟩ : SFeature)) fun (l19 : List SFeature) => J (w64 (v16 + (1 : Int))) (w64 (i5 + (1 : Int))) l19))))))))))))))))))))))
def laws_markFeatureS_L2 {R : Type} (n : Nat) (kx0 : Int → List SFeature → Option R) (J : Int → Int → List SFeature → Option R) (k1 : Int) (i2 : Int) (p3 : List SFeature) : Option R :=
  (bif (decide (i2 < (p3.length : Int))) then laws_markFeatureS_k0 n kx0 J k1 i2 p3 else kx0 k1 p3)
def laws_markFeatureS (n : Nat) (a0 : List SFeature) (k1 : Int) : Option (Int × List SFeature) :=
  loopN (fun (x : Int × Int × List SFeature) J' => laws_markFeatureS_L2 n (fun k20 p21 => some (k20, p21)) (fun k22 i23 p24 => J' (k22, i23, p24)) x.1 x.2.1 x.2.2) n (k1, (0 : Int), a0)
def laws_markChart (n : Nat) (a0 : SChart) (k1 : Int) : Option (Int × List Int × List SFeature) :=
  (laws_markIntS n a0.Depths k1).bind fun r1 => (laws_markFeatureS n a0.Features r1.1).bind fun r2 => some (r2.1, r1.2, r2.2)
def laws_markNoteS_k0 {R : Type} (n : Nat) (kx0 : Int → List SNote → Option R) (J : Int → Int → List SNote → Option R) (k4 : Int) (i5 : Int) (p6 : List SNote) : Option R :=
  ix i5 p6.length (chk (decide (i5.toNat < p6.length)) ((bd (p6.getD i5.toNat dSNote) fun (e7 : SNote) => (bd (p6.set i5.toNat (⟨k4, e7.Id, e7.X, e7.Y, e7.Depth, e7.Text, e7.Sort_⟩ : SNote)) fun (l8 : List SNote) => ix i5 l8.length (chk (decide (i5.toNat < l8.length)) ((bd (l8.getD i5.toNat dSNote) fun (e9 : SNote) => (bd (l8.set i5.toNat (⟨e9.Kind, (w64 (k4 + (1 : Int))), e9.X, e9.Y, e9.Depth, e9.Text, e9.Sort_⟩ : SNote)) fun (l10 : List SNote) => (bd (w64 ((w64 (k4 + (1 : Int))) + (1 : Int))) fun (v11 : Int) => ix i5 l10.length (chk (decide (i5.toNat < l10.length)) ((bd (l10.getD i5.toNat dSNote) fun (e12 : SNote) => (bd (l10.set i5.toNat (⟨e12.Kind, e12.Id, v11, e12.Y, e12.Depth, e12.Text, e12.Sort_⟩ : SNote)) fun (l13 : List SNote) => ix i5 l13.length (chk (decide (i5.toNat < l13.length)) ((bd (l13.getD i5.toNat dSNote) fun (e14 : SNote) => (bd (l13.set i5.toNat (⟨e14.Kind, e14.Id, e14.X, (w64 (v11 + (1 : Int))), e14.Depth, e14.Text, e14.Sort_⟩ : SNote)) fun (l15 : List SNote) => (bd (w64 ((w64 (v11 + (1 : Int))) + (1 : Int))) fun (v16 : Int) => ix i5 l15.length (chk (decide (i5.toNat < l15.length)) ((bd (l15.getD i5.toNat dSNote) fun (e17 : SNote) => (bd (l15.set i5.toNat (⟨e17.Kind, e17.Id, e17.X, e17.Y, v16, e17.Text, e17.Sort_⟩ : SNote)) fun (l18 : List SNote) => (laws_markText n (w64 (v16 + (1 : Int)))).bind fun r19 => ix i5 l18.length (chk (decide (i5.toNat < l18.length)) ((bd (l18.getD i5.toNat dSNote) fun (e20 : SNote) => (bd (l18.set i5.toNat (⟨e20.Kind, e20.Id, e20.X, e20.Y, e20.Depth, r19, e20.Sort_⟩ : SNote)) fun (l21 : List SNote) => (bd (w64 ((w64 (v16 + (1 : Int))) + (1 : Int))) fun (v22 : Int) => ix i5 l21.length (chk (decide (i5.toNat < l21.length)) ((bd (l21.getD i5.toNat dSNote) fun (e23 : SNote) => (bd (l21.set i5.toNat (⟨e23.Kind, e23.Id, e23.X, e23.Y, e23.Depth, e23.Text, v22⟩ : SNote)) fun (l24 : List SNote) => J (w64 (v22 + (1 : Int))) (w64 (i5 + (1 : Int))) l24)))))))))))))))))))))))))))))))
def laws_markNoteS_L2 {R : Type} (n : Nat) (kx0 : Int → List SNote → Option R) (J : Int → Int → List SNote → Option R) (k1 : Int) (i2 : Int) (p3 : List SNote) : Option R :=
  (bif (decide (i2 < (p3.length : Int))) then laws_markNoteS_k0 n kx0 J k1 i2 p3 else kx0 k1 p3)
def laws_markNoteS (n : Nat) (a0 : List SNote) (k1 : Int) : Option (Int × List SNote) :=
  loopN (fun (x : Int × Int × List SNote) J' => laws_markNoteS_L2 n (fun k25 p26 => some (k25, p26)) (fun k27 i28 p29 => J' (k27, i28, p29)) x.1 x.2.1 x.2.2) n (k1, (0 : Int), a0)
def laws_markUpdateS_k0 {R : Type} (n : Nat) (kx0 : Int → List SUpdate → Option R) (J : Int → Int → List SUpdate → Option R) (k4 : Int) (i5 : Int) (p6 : List SUpdate) : Option R :=
  ix i5 p6.length (chk (decide (i5.toNat < p6.length)) ((bd (p6.getD i5.toNat dSUpdate) fun (e7 : SUpdate) => (bd (p6.set i5.toNat (⟨k4, e7.Notes⟩ : SUpdate)) fun (l8 : List SUpdate) => ix i5 l8.length (chk (decide (i5.toNat < l8.length)) (chk (decide (i5.toNat < l8.length)) ((laws_markNoteS n ((l8.getD i5.toNat dSUpdate).Notes) (w64 (k4 + (1 : Int)))).bind fun r9 => chk (decide (i5.toNat = i5.toNat)) (chk (decide (i5.toNat < l8.length)) ((bd (l8.getD i5.toNat dSUpdate) fun (e10 : SUpdate) => (bd (l8.set i5.toNat (⟨e10.Edition, r9.2⟩ : SUpdate)) fun (l11 : List SUpdate) => J r9.1 (w64 (i5 + (1 : Int))) l11)))))))))))
def laws_markUpdateS_L2 {R : Type} (n : Nat) (kx0 : Int → List SUpdate → Option R) (J : Int → Int → List SUpdate → Option R) (k1 : Int) (i2 : Int) (p3 : List SUpdate) : Option R :=
  (bif (decide (i2 < (p3.length : Int))) then laws_markUpdateS_k0 n kx0 J k1 i2 p3 else kx0 k1 p3)
def laws_markUpdateS (n : Nat) (a0 : List SUpdate) (k1 : Int) : Option (Int × List SUpdate) :=
  loopN (fun (x : Int × Int × List SUpdate) J' => laws_markUpdateS_L2 n (fun k12 p13 => some (k12, p13)) (fun k14 i15 p16 => J' (k14, i15, p16)) x.1 x.2.1 x.2.2) n (k1, (0 : Int), a0)
def laws_heldIntS_L2 {R : Type} (n : Nat) (kx0 : Int → Option R) (kxr : Int → Option R) (J : Int → Int → Option R) (a1 : List Int) (k2 : Int) (i3 : Int) : Option R :=
  (bif (decide (i3 < (a1.length : Int))) then ix i3 a1.length ((bif (!(decide ((a1.getD i3.toNat (0 : Int)) = k2))) then kxr (-1 : Int) else J (w64 (k2 + (1 : Int))) (w64 (i3 + (1 : Int))))) else kx0 k2)
def laws_heldIntS (n : Nat) (a0 : List Int) (k1 : Int) : Option Int :=
  loopN (fun (x : Int × Int) J' => laws_heldIntS_L2 n (fun k16 => some (k16)) (fun t17 => some (t17)) (fun k18 i19 => J' (k18, i19)) a0 x.1 x.2) n (k1, (0 : Int))
def laws_heldFeatureS_k0 {R : Type} (n : Nat) (kx0 : Int → Option R) (kxr : Int → Option R) (J : Int → Int → Option R) (a1 : List SFeature) (k16 : Int) (i17 : Int) : Option R :=
  ix i17 a1.length ((bd (a1.getD i17.toNat dSFeature) fun (e18 : SFeature) => (laws_markText n (w64 (k16 + (1 : Int)))).bind fun r19 => (bif (!(decide (e18.Text = r19))) then kxr (-1 : Int) else (bd (w64 ((w64 (k16 + (1 : Int))) + (1 : Int))) fun (v24 : Int) => J v24 (w64 (i17 + (1 : Int)))))))
def laws_heldFeatureS_k1 {R : Type} (n : Nat) (kx0 : Int → Option R) (kxr : Int → Option R) (J : Int → Int → Option R) (a1 : List SFeature) (k10 : Int) (i11 : Int) : Option R :=
  ix i11 a1.length ((bd (a1.getD i11.toNat dSFeature) fun (e12 : SFeature) => (bif (!(decide (e12.X = (w64 (k10 + (1 : Int)))))) then kxr (-1 : Int) else (bd (w64 ((w64 (k10 + (1 : Int))) + (1 : Int))) fun (v27 : Int) => ix i11 a1.length ((bd (a1.getD i11.toNat dSFeature) fun (e28 : SFeature) => (bif (!(decide (e28.Y = v27))) then kxr (-1 : Int) else laws_heldFeatureS_k0 n kx0 kxr J a1 v27 i11)))))))
def laws_heldFeatureS_k2 {R : Type} (n : Nat) (kx0 : Int → Option R) (kxr : Int → Option R) (J : Int → Int → Option R) (a1 : List SFeature) (k4 : Int) (i5 : Int) : Option R :=
  ix i5 a1.length ((bd (a1.getD i5.toNat dSFeature) fun (e6 : SFeature) => (bif (!(decide (e6.Id = k4))) then kxr (-1 : Int) else ix i5 a1.length ((bd (a1.getD i5.toNat dSFeature) fun (e31 : SFeature) => (bif (!(decide (e31.Kind = (w64 (k4 + (1 : Int)))))) then kxr (-1 : Int) else laws_heldFeatureS_k1 n kx0 kxr J a1 (w64 (k4 + (1 : Int))) i5))))))
def laws_heldFeatureS_L2 {R : Type} (n : Nat) (kx0 : Int → Option R) (kxr : Int → Option R) (J : Int → Int → Option R) (a1 : List SFeature) (k2 : Int) (i3 : Int) : Option R :=
  (bif (decide (i3 < (a1.length : Int))) then laws_heldFeatureS_k2 n kx0 kxr J a1 k2 i3 else kx0 k2)
def laws_heldFeatureS (n : Nat) (a0 : List SFeature) (k1 : Int) : Option Int :=
  loopN (fun (x : Int × Int) J' => laws_heldFeatureS_L2 n (fun k34 => some (k34)) (fun t35 => some (t35)) (fun k36 i37 => J' (k36, i37)) a0 x.1 x.2) n (k1, (0 : Int))
def laws_heldChart (n : Nat) (a0 : SChart) (k1 : Int) : Option Int :=
  (laws_heldIntS n a0.Depths k1).bind fun r1 => (bif (decide (r1 < (0 : Int))) then some ((-1 : Int)) else (laws_heldFeatureS n a0.Features r1).bind fun r5 => (bif (decide (r5 < (0 : Int))) then some ((-1 : Int)) else some (r5)))
def laws_FnExactCatch_k0 (n : Nat)  (m225 : Int) (g0226 : Int) (g0227 : Int) (g0228 : Int) (t229 : List Int) (t230 : List SFeature) (t231 : List Int) : Option Bool :=
  (laws_heldChart n (⟨g0226, g0227, t229, t230, g0228⟩ : SChart) (1 : Int)).bind fun r232 => (bif (decide (r232 < (0 : Int))) then some (false) else (laws_heldIntS n t231 r232).bind fun r239 => (bif (decide (r239 < (0 : Int))) then some (false) else (bif (!(decide (r239 = m225))) then some (false) else some (true))))
def laws_FnExactCatch_k1 (n : Nat)  (aList1 : List SUpdate) (m192 : Int) (aC0 : SChart) (w0193 : Int) (w0194 : Int) (w0195 : Int) (t196 : List Int) (t197 : List SFeature) (t198 : List Int) (g0199 : Int) (g0200 : Int) (g0201 : Int) (t202 : List Int) (t203 : List SFeature) (t204 : List Int) : Option Bool :=
  (laws_toChart n aC0).bind fun r205 => (laws_toUpdateS n aList1).bind fun r206 => (impl_Catch n r205 r206).bind fun r207 => (laws_eqChart n r207.1 (⟨w0193, w0194, t196, t197, w0195⟩ : SChart)).bind fun r208 => (bif (!r208) then some (false) else (laws_eqIntS n r207.2 t198).bind fun r216 => (bif (!r216) then some (false) else laws_FnExactCatch_k0 n  m192 g0199 g0200 g0201 t202 t203 t204))
def laws_FnExactCatch_k2 (n : Nat)  (aList1 : List SUpdate) (aC0 : SChart) (w0148 : Int) (w0149 : Int) (w0150 : Int) (t151 : List Int) (t152 : List SFeature) (t153 : List Int) (g0154 : Int) (g0155 : Int) (g0156 : Int) (t157 : List Int) (t158 : List SFeature) (t159 : List Int) : Option Bool :=
  (laws_markChart n (⟨g0154, g0155, t157, t158, g0156⟩ : SChart) (1 : Int)).bind fun r160 => (laws_markIntS n t159 r160.1).bind fun r161 => (laws_heldChart n (⟨g0154, g0155, r160.2.1, r160.2.2, g0156⟩ : SChart) (1 : Int)).bind fun r162 => (bif (decide (r162 < (0 : Int))) then some (false) else (laws_heldIntS n r161.2 r162).bind fun r262 => (bif (decide (r262 < (0 : Int))) then some (false) else (bif (!(decide (r262 = r161.1))) then some (false) else laws_FnExactCatch_k1 n  aList1 r161.1 aC0 w0148 w0149 w0150 t151 t152 t153 g0154 g0155 g0156 r160.2.1 r160.2.2 r161.2)))
def laws_FnExactCatch_k3 (n : Nat)  (aList1 : List SUpdate) (aC0 : SChart) (w089 : Int) (w090 : Int) (w091 : Int) (t92 : List Int) (t93 : List SFeature) (t94 : List Int) (x095 : Int) (x096 : Int) (x097 : Int) (t98 : List Int) (t99 : List SFeature) (t100 : List SUpdate) (g0101 : Int) (g0102 : Int) (g0103 : Int) (t104 : List Int) (t105 : List SFeature) (t106 : List Int) : Option Bool :=
  (laws_markChart n (⟨x095, x096, t98, t99, x097⟩ : SChart) (1 : Int)).bind fun r107 => (laws_markUpdateS n t100 r107.1).bind fun r108 => (bif (decide (r108.1 < (0 : Int))) then some (false) else (laws_eqChart n (⟨g0101, g0102, t104, t105, g0103⟩ : SChart) (⟨w089, w090, t92, t93, w091⟩ : SChart)).bind fun r121 => (bif (!r121) then some (false) else (laws_eqIntS n t106 t94).bind fun r134 => (bif (!r134) then some (false) else laws_FnExactCatch_k2 n  aList1 aC0 w089 w090 w091 t92 t93 t94 g0101 g0102 g0103 t104 t105 t106)))
def laws_FnExactCatch_k4 (n : Nat)  (aList1 : List SUpdate) (aC0 : SChart) (w049 : Int) (w050 : Int) (w051 : Int) (t52 : List Int) (t53 : List SFeature) (t54 : List Int) (x055 : Int) (x056 : Int) (x057 : Int) (t58 : List Int) (t59 : List SFeature) (t60 : List SUpdate) (g061 : Int) (g062 : Int) (g063 : Int) (t64 : List Int) (t65 : List SFeature) (t66 : List Int) : Option Bool :=
  (laws_toChart n aC0).bind fun r67 => (laws_eqChart n (⟨x055, x056, t58, t59, x057⟩ : SChart) r67).bind fun r68 => (bif (!r68) then some (false) else (laws_toUpdateS n aList1).bind fun r302 => (laws_eqUpdateS n t60 r302).bind fun r303 => (bif (!r303) then some (false) else laws_FnExactCatch_k3 n  aList1 aC0 w049 w050 w051 t52 t53 t54 x055 x056 x057 t58 t59 t60 g061 g062 g063 t64 t65 t66))
def laws_FnExactCatch_k5 (n : Nat)  (aList1 : List SUpdate) (aC0 : SChart) : Option Bool :=
  (laws_toChart n aC0).bind fun r4 => (laws_toUpdateS n aList1).bind fun r5 => (spec_Catch n r4 r5).bind fun r6 => (laws_toChart n aC0).bind fun r7 => (laws_toUpdateS n aList1).bind fun r8 => (impl_Catch n r7 r8).bind fun r9 => (laws_eqChart n r9.1 r6.1).bind fun r10 => (bif (!r10) then some (false) else (laws_eqIntS n r9.2 r6.2).bind fun r29 => (bif (!r29) then some (false) else laws_FnExactCatch_k4 n  aList1 aC0 r6.1.Wide r6.1.High r6.1.Edition r6.1.Depths r6.1.Features r6.2 r7.Wide r7.High r7.Edition r7.Depths r7.Features r8 r9.1.Wide r9.1.High r9.1.Edition r9.1.Depths r9.1.Features r9.2))
def laws_FnExactCatch (n : Nat) (aC0 : SChart) (aList1 : List SUpdate) : Option Bool :=
  (laws_szChart n aC0 (1048576 : Int)).bind fun r1 => (bif (decide (r1 < (0 : Int))) then some (true) else (laws_szUpdateS n aList1 r1).bind fun r340 => (bif (decide (r340 < (0 : Int))) then some (true) else laws_FnExactCatch_k5 n  aList1 aC0))
def rng (a b x : Int) : Prop := a ≤ x ∧ x ≤ b
def wfSFeature (x : SFeature) : Prop := rng (-9223372036854775808) 9223372036854775807 x.Id ∧ rng (-9223372036854775808) 9223372036854775807 x.Kind ∧ rng (-9223372036854775808) 9223372036854775807 x.X ∧ rng (-9223372036854775808) 9223372036854775807 x.Y ∧ x.Text.size ≤ 9223372036854775807
def wfSChart (x : SChart) : Prop := rng (-9223372036854775808) 9223372036854775807 x.Wide ∧ rng (-9223372036854775808) 9223372036854775807 x.High ∧ (x.Depths.length ≤ 9223372036854775807 ∧ ∀ y ∈ x.Depths, rng (-9223372036854775808) 9223372036854775807 y) ∧ (x.Features.length ≤ 9223372036854775807 ∧ ∀ y ∈ x.Features, wfSFeature y) ∧ rng (-9223372036854775808) 9223372036854775807 x.Edition
def wfSNote (x : SNote) : Prop := rng (-9223372036854775808) 9223372036854775807 x.Kind ∧ rng (-9223372036854775808) 9223372036854775807 x.Id ∧ rng (-9223372036854775808) 9223372036854775807 x.X ∧ rng (-9223372036854775808) 9223372036854775807 x.Y ∧ rng (-9223372036854775808) 9223372036854775807 x.Depth ∧ x.Text.size ≤ 9223372036854775807 ∧ rng (-9223372036854775808) 9223372036854775807 x.Sort_
def wfSUpdate (x : SUpdate) : Prop := rng (-9223372036854775808) 9223372036854775807 x.Edition ∧ (x.Notes.length ≤ 9223372036854775807 ∧ ∀ y ∈ x.Notes, wfSNote y)
end Go.Sm

section
set_option linter.unusedSimpArgs false
set_option linter.deprecated false
set_option linter.unusedSectionVars false
set_option linter.unusedVariables false
namespace Go.Sm
/-! ### Of the words that printed functions are made of -/
theorem w64_id {x : Int} (h1 : -9223372036854775808 ≤ x) (h2 : x ≤ 9223372036854775807) : w64 x = x := by
  show (let m := x % (2 ^ 64 : Int); if (true && decide ((2 : Int) ^ 63 ≤ m)) = true then m - 2 ^ 64 else m) = x
  simp only [Bool.true_and, decide_eq_true_eq]
  split <;> omega
theorem w64_rng (x : Int) : -9223372036854775808 ≤ w64 x ∧ w64 x ≤ 9223372036854775807 := by
  show -9223372036854775808 ≤ (let m := x % (2 ^ 64 : Int); if (true && decide ((2 : Int) ^ 63 ≤ m)) = true then m - 2 ^ 64 else m) ∧ (let m := x % (2 ^ 64 : Int); if (true && decide ((2 : Int) ^ 63 ≤ m)) = true then m - 2 ^ 64 else m) ≤ 9223372036854775807
  simp only [Bool.true_and, decide_eq_true_eq]
  split <;> omega
theorem chk_of {R : Type} {b : Bool} {x : Option R} (h : b = true) : chk b x = x := by rw [h]; rfl
theorem chk_true {R : Type} {x : Option R} : chk true x = x := rfl
theorem chk_dec {R : Type} {p : Prop} [Decidable p] {x : Option R} (h : p) : chk (decide p) x = x := chk_of (decide_eq_true h)
theorem ix_of {R : Type} {i : Int} {len : Nat} {x : Option R} (h0 : 0 ≤ i) (h1 : i < (len : Int)) : ix i len x = x := by
  unfold ix
  rw [decide_eq_true h0, decide_eq_true h1]
  rfl
theorem ix_nat {R : Type} {i len : Nat} {x : Option R} (h1 : i < len) : ix (i : Int) len x = x := ix_of (by omega) (by omega)
theorem bif_dec {α : Type} {p : Prop} [Decidable p] {x y : α} : (bif decide p then x else y) = if p then x else y := by
  by_cases h : p <;> simp [h]
theorem bif_not {α : Type} {b : Bool} {x y : α} : (bif !b then x else y) = bif b then y else x := by cases b <;> rfl
theorem bif_and {α : Type} {a b : Bool} {x y : α} : (bif a && b then x else y) = bif a then (bif b then x else y) else y := by cases a <;> rfl
theorem loopN_succ {X R : Type} (b : X → (X → Option R) → Option R) (m : Nat) (x : X) : loopN b (m + 1) x = b x (loopN b m) := rfl
/-- What holds of a loop: by what is left to go. -/
theorem loopN_ind {X R : Type} {b : X → (X → Option R) → Option R} (μ : X → Nat) (I : X → Prop) (Q : X → Option R → Prop)
    (h : ∀ x J, I x → (∀ y, I y → μ y < μ x → Q y (J y)) → Q x (b x J)) : ∀ n x, I x → μ x < n → Q x (loopN b n x)
  | 0, x, hi, hm => absurd hm (Nat.not_lt_zero _)
  | n + 1, x, hi, hm => h x (loopN b n) hi fun y hy hl => loopN_ind μ I Q h n y hy (by omega)
theorem getD_eq {α : Type} {l : List α} {i : Nat} {d : α} (h : i < l.length) : l.getD i d = l[i] := by
  simp [List.getD, h]
theorem w64_succ {k : Nat} (h : k < 9223372036854775807) : w64 ((k : Int) + 1) = ((k + 1 : Nat) : Int) := by
  rw [w64_id (by omega) (by omega)]
  rfl
theorem take_succ_getD {α : Type} {l : List α} {i : Nat} {d : α} (h : i < l.length) : l.take (i + 1) = l.take i ++ [l.getD i d] := by
  rw [List.take_succ, getD_eq h, List.getElem?_eq_getElem h]
  rfl
theorem drop_getD {α : Type} {l : List α} {i : Nat} {d : α} (h : i < l.length) : l.drop i = l.getD i d :: l.drop (i + 1) := by
  rw [getD_eq h]
  exact List.drop_eq_getElem_cons h
theorem bd_eq {α β : Type} (e : α) (f : α → β) : bd e f = f e := rfl
theorem bd_set {α β : Type} {Q : β → Prop} {F : List α → β} {p : List α} {i : Nat} {x : α} (h : ∀ l : List α, l.length = p.length → Q (F l)) : Q (bd (p.set i x) F) := h _ (by simp)
theorem bd_is {α β : Type} {Q : β → Prop} {F : α → β} {e : α} (h : ∀ v : α, v = e → Q (F v)) : Q (bd e F) := h _ rfl
theorem bd_val {α β : Type} {Q : β → Prop} {F : α → β} {e : α} (h : ∀ v : α, Q (F v)) : Q (bd e F) := h _
theorem chk_q {R : Type} {Q : Option R → Prop} {b : Bool} {x : Option R} (h : b = true) (hx : Q x) : Q (chk b x) := by rw [chk_of h]; exact hx
theorem ix_q {R : Type} {Q : Option R → Prop} {i : Int} {len : Nat} {x : Option R} (h0 : 0 ≤ i) (h1 : i < (len : Int)) (hx : Q x) : Q (ix i len x) := by rw [ix_of h0 h1]; exact hx
theorem bd_upd {α β : Type} {Q : β → Prop} {F : List α → β} {p : List α} {i : Nat} {x d : α} (hi : i < p.length) (h : ∀ l : List α, l.length = p.length → l.getD i d = x → (∀ j, j ≠ i → l.getD j d = p.getD j d) → Q (F l)) : Q (bd (p.set i x) F) :=
  h _ (by simp) (by simp [List.getD, hi]) (fun j hj => by simp [List.getD, List.getElem?_set, Ne.symm hj])
/-- A list written from the front. -/
theorem set_take {α : Type} {a : List α} {d : α} {m k : Nat} (h : k < a.length) (hm : m = a.length := by rfl) : (a.take k ++ (List.replicate m d).drop k).set k (a.getD k d) = a.take (k + 1) ++ (List.replicate m d).drop (k + 1) := by
  subst hm
  have h1 : (a.take k).length = k := by simp; omega
  rw [List.set_append_right _ _ (by omega), h1, Nat.sub_self, take_succ_getD h, List.append_assoc]
  congr 1
  rw [List.drop_eq_getElem_cons (by simp; exact h)]
  rfl
/-! ### Loops over 0 .. len, by what is left -/
/-- Steps k, k+1, .. told one after the other; J: what comes behind a step. -/
def forK {S R : Type} (step : Nat → S → (S → Option R) → Option R) (fin : S → Option R) : Nat → Nat → S → Option R
  | 0, _, s => fin s
  | m + 1, k, s => step k s fun s' => forK step fin m (k + 1) s'
theorem loop_forK {X S R : Type} {b : X → (X → Option R) → Option R} {enc : Nat → S → X} {len : Nat} {step : Nat → S → (S → Option R) → Option R} {fin : S → Option R} (I : Nat → S → Prop)
    (hstep : ∀ k s J J', k < len → I k s → (∀ s', I (k + 1) s' → J (enc (k + 1) s') = J' s') → b (enc k s) J = step k s J') (hfin : ∀ s J, I len s → b (enc len s) J = fin s) :
    ∀ m k s n, k + m = len → m < n → I k s → loopN b n (enc k s) = forK step fin m k s
  | 0, k, s, 0, _, h, _ => absurd h (Nat.lt_irrefl _)
  | 0, k, s, n + 1, hk, _, hi => by
    have hk : k = len := by omega
    subst hk
    exact hfin s _ hi
  | m + 1, k, s, 0, _, h, _ => absurd h (Nat.not_lt_zero _)
  | m + 1, k, s, n + 1, hk, hn, hi => by
    show b (enc k s) (loopN b n) = step k s fun s' => forK step fin m (k + 1) s'
    exact hstep k s _ _ (by omega) hi fun s' hi' => loop_forK I hstep hfin m (k + 1) s' n (by omega) (by omega) hi'
/-- The first k at which f answers; at none: z. -/
def scanK {R : Type} (f : Nat → Option (Option R)) (z : Option R) : Nat → Nat → Option R
  | 0, _ => z
  | m + 1, k => match f k with
    | some r => r
    | none => scanK f z m (k + 1)
theorem loop_scan {X R : Type} {b : X → (X → Option R) → Option R} {enc : Nat → X} {len : Nat} {f : Nat → Option (Option R)} {z : Option R}
    (hstep : ∀ k J, k < len → b (enc k) J = match f k with | some r => r | none => J (enc (k + 1))) (hfin : ∀ J, b (enc len) J = z) :
    ∀ m k n, k + m = len → m < n → loopN b n (enc k) = scanK f z m k
  | 0, k, 0, _, h => absurd h (Nat.lt_irrefl _)
  | 0, k, n + 1, hk, _ => by
    have hk : k = len := by omega
    subst hk
    exact hfin _
  | m + 1, k, 0, _, h => absurd h (Nat.not_lt_zero _)
  | m + 1, k, n + 1, hk, hn => by
    show b (enc k) (loopN b n) = _
    rw [hstep k _ (by omega)]
    unfold scanK
    cases f k with
    | some r => rfl
    | none => exact loop_scan hstep hfin m (k + 1) n (by omega) (by omega)
/-- Is p so of all of k, .. k + m - 1? -/
theorem scan_all {R : Type} {p : Nat → Bool} {r z : Option R} : ∀ m k, scanK (fun k => bif p k then none else some r) z m k = bif (List.range' k m).all p then z else r
  | 0, k => rfl
  | m + 1, k => by
    rw [scanK, List.range'_succ, List.all_cons]
    cases h : p k with
    | true => simp only [cond_true, Bool.true_and]; exact scan_all m (k + 1)
    | false => rfl
theorem scan_any {R : Type} {p : Nat → Bool} {r z : Option R} : ∀ m k, scanK (fun k => bif p k then some r else none) z m k = bif (List.range' k m).any p then r else z
  | 0, k => rfl
  | m + 1, k => by
    rw [scanK, List.range'_succ, List.any_cons]
    cases h : p k with
    | false => simp only [cond_false, Bool.false_or]; exact scan_any m (k + 1)
    | true => rfl
theorem mgetI_mputI {β : Type} (l : List (Int × β)) (n m : Int) (v : β) : mgetI (mputI l n v) m = if m = n then some v else mgetI l m := by
  unfold mgetI mputI
  induction l with
  | nil =>
    by_cases h : m = n <;> simp [h]
  | cons a l ih =>
    rw [List.findIdx?_cons]
    by_cases h : n = a.1
    · simp only [h, decide_true, if_true, Option.elim_some, List.set_cons_zero, List.find?_cons]
      by_cases h2 : m = a.1
      · simp [h2]
      · simp [h2]
    · simp only [h, decide_false, Bool.false_eq_true, if_false]
      cases hf : l.findIdx? (fun e => decide (n = e.1)) with
      | none =>
        rw [hf] at ih
        simp only [Option.elim_none] at ih
        simp only [Option.map_none, Option.elim_none, List.cons_append, List.find?_cons]
        by_cases h2 : m = a.1
        · have : m ≠ n := fun e => h (e ▸ h2)
          simp [h2]
          simp [h2] at this
          simp [this]
        · simp only [h2, decide_false]
          exact ih
      | some i =>
        rw [hf] at ih
        simp only [Option.elim_some] at ih
        simp only [Option.map_some, Option.elim_some, List.set_cons_succ, List.find?_cons]
        by_cases h2 : m = a.1
        · have : m ≠ n := fun e => h (e ▸ h2)
          simp [h2]
          simp [h2] at this
          simp [this]
        · simp only [h2, decide_false]
          exact ih
theorem mgetI_nil {β : Type} (m : Int) : mgetI ([] : List (Int × β)) m = none := rfl
/-! ### Chains of tests -/
theorem bif_and' {α : Type} {a b : Bool} {x y : α} : (bif a then (bif b then x else y) else y) = bif a && b then x else y := by cases a <;> rfl
theorem bif_or' {α : Type} {a b : Bool} {x y : α} : (bif a then y else (bif b then x else y)) = bif !a && b then x else y := by cases a <;> rfl
theorem bif_and2 {α : Type} {a b : Bool} {x y : α} : (bif a then (bif b then y else x) else y) = bif a && !b then x else y := by cases a <;> cases b <;> rfl
theorem bif_or2 {α : Type} {a b : Bool} {x y : α} : (bif a then y else (bif b then y else x)) = bif !a && !b then x else y := by cases a <;> cases b <;> rfl
theorem bif_some {α β : Type} {a : Bool} {x y : α} {f : α → Option β} : (bif a then some x else some y).bind f = bif a then f x else f y := by cases a <;> rfl
theorem bif_tf {a : Bool} : (bif a then some true else some false) = some a := by cases a <;> rfl
theorem bif_ft {a : Bool} : (bif a then some false else some true) = some (!a) := by cases a <;> rfl
theorem bif_sf {a b : Bool} : (bif a then some b else some false) = some (a && b) := by cases a <;> rfl
theorem all_range_succ {p : Nat → Bool} {k : Nat} : (List.range (k + 1)).all p = ((List.range k).all p && p k) := by
  rw [List.range_succ, List.all_append]
  simp
theorem any_range_succ {p : Nat → Bool} {k : Nat} : (List.range (k + 1)).any p = ((List.range k).any p || p k) := by
  rw [List.range_succ, List.any_append]
  simp
theorem all_range_not {p : Nat → Bool} {k m : Nat} (hk : k < m) (h : p k = false) : (List.range m).all p = false := by
  rw [Bool.eq_false_iff]
  intro e
  rw [List.all_eq_true] at e
  rw [e k (List.mem_range.2 hk)] at h
  cases h
theorem any_range_of {p : Nat → Bool} {k m : Nat} (hk : k < m) (h : p k = true) : (List.range m).any p = true := by
  rw [List.any_eq_true]
  exact ⟨k, List.mem_range.2 hk, h⟩
/-- A loop that looks at k = 0, 1, .. and leaves at the first that is not so. -/
theorem loop_all {R : Type} {b : Int → (Int → Option R) → Option R} {len : Nat} {p : Nat → Bool} {no yes : Option R} (hlen : len ≤ 9223372036854775807)
    (hstep : ∀ (k : Nat) (J : Int → Option R), k < len → (∀ j, j < k → p j = true) → b (k : Int) J = bif p k then J ((k + 1 : Nat) : Int) else no) (hfin : ∀ J, (∀ j, j < len → p j = true) → b (len : Int) J = yes) {n : Nat} (hn : len < n) :
    loopN b n (0 : Int) = bif (List.range len).all p then yes else no := by
  refine loopN_ind (fun x => len - x.toNat) (fun x => ∃ k : Nat, k ≤ len ∧ x = (k : Int) ∧ (List.range k).all p = true) (fun x r => r = bif (List.range len).all p then yes else no) ?_ n _ ⟨0, by omega, rfl, rfl⟩ (by simp; omega)
  rintro _ J ⟨k, hk, rfl, hb⟩ ih
  have hb' : ∀ j, j < k → p j = true := fun j hj => List.all_eq_true.1 hb j (List.mem_range.2 hj)
  by_cases h : k < len
  · rw [hstep k J h hb']
    cases hp : p k with
    | true => exact ih _ ⟨k + 1, h, rfl, by rw [all_range_succ, hb, hp]; rfl⟩ (by simp; omega)
    | false => rw [all_range_not h hp]; rfl
  · have : k = len := by omega
    subst this
    rw [hfin _ hb', hb]
    rfl
/-- The same, a state turned on the way (its invariant: I). -/
theorem loop_allS {S R : Type} {X : Type} {enc : Int → S → X} {b : X → (X → Option R) → Option R} {len : Nat} {p : Nat → Bool} {I : Nat → S → Prop} {no yes : Option R}
    (hstep : ∀ (k : Nat) (s : S) (J : X → Option R), k < len → I k s → (∀ j, j < k → p j = true) → ∃ s', (p k = true → I (k + 1) s') ∧ b (enc (k : Int) s) J = bif p k then J (enc ((k + 1 : Nat) : Int) s') else no) (hfin : ∀ s J, I len s → (∀ j, j < len → p j = true) → b (enc (len : Int) s) J = yes) {n : Nat} (hn : len < n) {s0 : S} (h0 : I 0 s0) :
    loopN b n (enc (0 : Int) s0) = bif (List.range len).all p then yes else no := by
  have key : ∀ m (k : Nat) (s : S) n, k + m = len → m < n → I k s → (List.range k).all p = true → loopN b n (enc (k : Int) s) = bif (List.range len).all p then yes else no := by
    intro m
    induction m with
    | zero =>
      intro k s n hk hn hi hb
      have hb' : ∀ j, j < k → p j = true := fun j hj => List.all_eq_true.1 hb j (List.mem_range.2 hj)
      have hk : k = len := by omega
      subst hk
      cases n with
      | zero => omega
      | succ n => rw [loopN_succ, hfin s _ hi hb', hb]; rfl
    | succ m ih =>
      intro k s n hk hn hi hb
      have hb' : ∀ j, j < k → p j = true := fun j hj => List.all_eq_true.1 hb j (List.mem_range.2 hj)
      cases n with
      | zero => omega
      | succ n =>
        rw [loopN_succ]
        obtain ⟨s', h1, h2⟩ := hstep k s (loopN b n) (by omega) hi hb'
        rw [h2]
        cases hp : p k with
        | true => exact ih (k + 1) s' n (by omega) (by omega) (h1 hp) (by rw [all_range_succ, hb, hp]; rfl)
        | false => rw [all_range_not (by omega : k < len) hp]; rfl
  exact key len 0 s0 n (by omega) hn h0 rfl
/-- A loop over 0 .. len that never leaves early; its state: I. -/
theorem loop_runS {S R : Type} {X : Type} {enc : Int → S → X} {b : X → (X → Option R) → Option R} {len : Nat} {I : Nat → S → Prop} {Q : Option R → Prop}
    (hstep : ∀ (k : Nat) (s : S) (J : X → Option R), k < len → I k s → ∃ s', I (k + 1) s' ∧ b (enc (k : Int) s) J = J (enc ((k + 1 : Nat) : Int) s')) (hfin : ∀ s J, I len s → Q (b (enc (len : Int) s) J)) {n : Nat} (hn : len < n) {s0 : S} (h0 : I 0 s0) :
    Q (loopN b n (enc (0 : Int) s0)) := by
  have key : ∀ m (k : Nat) (s : S) n, k + m = len → m < n → I k s → Q (loopN b n (enc (k : Int) s)) := by
    intro m
    induction m with
    | zero =>
      intro k s n hk hn hi
      have hk : k = len := by omega
      subst hk
      cases n with
      | zero => omega
      | succ n => rw [loopN_succ]; exact hfin s _ hi
    | succ m ih =>
      intro k s n hk hn hi
      cases n with
      | zero => omega
      | succ n =>
        rw [loopN_succ]
        obtain ⟨s', h1, h2⟩ := hstep k s (loopN b n) (by omega) hi
        rw [h2]
        exact ih (k + 1) s' n (by omega) (by omega) h1
  exact key len 0 s0 n (by omega) hn h0
/-! ### Sums over lists -/
def sumOf {α : Type} (f : α → Nat) : List α → Nat
  | [] => 0
  | a :: l => f a + sumOf f l
theorem sumOf_append {α : Type} (f : α → Nat) : ∀ a b : List α, sumOf f (a ++ b) = sumOf f a + sumOf f b
  | [], b => by simp [sumOf]
  | x :: a, b => by simp only [List.cons_append, sumOf, sumOf_append f a b]; omega
theorem sumOf_take_succ {α : Type} {f : α → Nat} {l : List α} {k : Nat} {d : α} (h : k < l.length) : sumOf f (l.take (k + 1)) = sumOf f (l.take k) + f (l.getD k d) := by
  rw [take_succ_getD (d := d) h, sumOf_append]
  simp [sumOf]
theorem sumOf_take_le {α : Type} (f : α → Nat) (l : List α) (k : Nat) : sumOf f (l.take k) ≤ sumOf f l := by
  have := sumOf_append f (l.take k) (l.drop k)
  rw [List.take_append_drop] at this
  omega
theorem sumOf_mem {α : Type} {f : α → Nat} {l : List α} {k : Nat} {d : α} (h : k < l.length) : f (l.getD k d) ≤ sumOf f l := by
  have h1 := sumOf_take_succ (f := f) (d := d) h
  have h2 := sumOf_take_le f l (k + 1)
  omega
theorem sumOf_lin {α : Type} {f g : α → Nat} {c s : Nat} (h : ∀ y, f y ≤ c * g y + s) : ∀ l : List α, sumOf f l ≤ c * sumOf g l + s * l.length
  | [] => by simp [sumOf]
  | a :: l => by
    have h1 := h a
    have h2 := sumOf_lin h l
    simp only [sumOf, List.length_cons, Nat.mul_add, Nat.mul_succ]
    omega
theorem sumOf_const {α : Type} (c : Nat) : ∀ l : List α, sumOf (fun _ => c) l = c * l.length
  | [] => by simp [sumOf]
  | a :: l => by simp only [sumOf, sumOf_const c l, List.length_cons, Nat.mul_succ]; omega
theorem getD_set {α : Type} {l : List α} {k : Nat} {x d : α} (h : k < l.length) : (l.set k x).getD k d = x := by simp [List.getD, h]
theorem getD_set_ne {α : Type} {l : List α} {k j : Nat} {x d : α} (h : j ≠ k) : (l.set k x).getD j d = l.getD j d := by simp [List.getD, List.getElem?_set, Ne.symm h]
theorem getD_mem {α : Type} {l : List α} {k : Nat} {d : α} (h : k < l.length) : l.getD k d ∈ l := by rw [getD_eq h]; exact List.getElem_mem h
theorem take_drop_set {α : Type} {a : List α} {d : α} {m k : Nat} {x : α} (h : k < a.length) (hm : m = a.length) (hx : x = a.getD k d) : (a.take k ++ (List.replicate m d).drop k).set k x = a.take (k + 1) ++ (List.replicate m d).drop (k + 1) := by
  subst hx
  exact set_take h hm
/-! ### The first that is so -/
def idxOf (p : Nat → Bool) (m : Nat) : Int := match (List.range m).find? p with
  | some k => (k : Int)
  | none => -1
theorem find_range_none {p : Nat → Bool} {m : Nat} (h : ∀ j, j < m → p j = false) : (List.range m).find? p = none := by
  rw [List.find?_eq_none]
  intro x hx
  rw [h x (List.mem_range.1 hx)]
  simp
theorem find_range_some {p : Nat → Bool} {m k : Nat} (hk : k < m) (hp : p k = true) (h : ∀ j, j < k → p j = false) : (List.range m).find? p = some k := by
  have e : m = k + (m - k) := by omega
  rw [e, List.range_add, List.find?_append, find_range_none h, Option.none_or]
  obtain ⟨r, hr⟩ : ∃ r, m - k = r + 1 := ⟨m - k - 1, by omega⟩
  rw [hr, List.range_succ_eq_map]
  simp [hp]
theorem idxOf_ge (p : Nat → Bool) (m : Nat) : decide (idxOf p m ≥ 0) = (List.range m).any p := by
  unfold idxOf
  cases h : (List.range m).find? p with
  | none =>
    rw [List.find?_eq_none] at h
    rw [show (List.range m).any p = false from by rw [List.any_eq_false]; exact h]
    rfl
  | some k =>
    have h1 := List.find?_some h
    rw [show (List.range m).any p = true from List.any_eq_true.2 ⟨k, List.mem_of_find?_eq_some h, h1⟩]
    exact decide_eq_true (by show (0 : Int) ≤ (k : Int); omega)
theorem idxOf_lt (p : Nat → Bool) (m : Nat) : decide (idxOf p m < 0) = !(List.range m).any p := by
  rw [← idxOf_ge]
  by_cases h : idxOf p m < 0
  · rw [decide_eq_true h, decide_eq_false (by omega)]; rfl
  · rw [decide_eq_false h, decide_eq_true (by omega)]; rfl
theorem find_range (p : Nat → Bool) : ∀ m, ((List.range m).find? p = none ∧ ∀ j, j < m → p j = false) ∨ ∃ k, (List.range m).find? p = some k ∧ k < m ∧ p k = true ∧ ∀ j, j < k → p j = false
  | 0 => .inl ⟨rfl, fun j hj => absurd hj (Nat.not_lt_zero _)⟩
  | m + 1 => by
    rcases find_range p m with ⟨h1, h2⟩ | ⟨k, h1, h2, h3, h4⟩
    · cases hp : p m with
      | true => exact .inr ⟨m, find_range_some (by omega) hp h2, by omega, hp, h2⟩
      | false =>
        have : ∀ j, j < m + 1 → p j = false := fun j hj => by
          by_cases e : j = m
          · rw [e]; exact hp
          · exact h2 j (by omega)
        exact .inl ⟨find_range_none this, this⟩
    · exact .inr ⟨k, find_range_some (by omega) h3 h4, by omega, h3, h4⟩
theorem idxOf_spec (p : Nat → Bool) (m : Nat) : (idxOf p m = -1 ∧ ∀ j, j < m → p j = false) ∨ ∃ k : Nat, idxOf p m = (k : Int) ∧ k < m ∧ p k = true ∧ ∀ j, j < k → p j = false := by
  unfold idxOf
  rcases find_range p m with ⟨h1, h2⟩ | ⟨k, h1, h2, h3, h4⟩
  · rw [h1]; exact .inl ⟨rfl, h2⟩
  · rw [h1]; exact .inr ⟨k, rfl, h2, h3, h4⟩
/-- A loop that looks at k = 0, 1, .. and leaves at the first that is so. -/
theorem loop_find {R : Type} {b : Int → (Int → Option R) → Option R} {len : Nat} {p : Nat → Bool} {yes : Nat → Option R} {no : Option R} (hlen : len ≤ 9223372036854775807)
    (hstep : ∀ (k : Nat) (J : Int → Option R), k < len → (∀ j, j < k → p j = false) → b (k : Int) J = bif p k then yes k else J ((k + 1 : Nat) : Int)) (hfin : ∀ J, (∀ j, j < len → p j = false) → b (len : Int) J = no) {n : Nat} (hn : len < n) :
    loopN b n (0 : Int) = match (List.range len).find? p with | some k => yes k | none => no := by
  refine loopN_ind (fun x => len - x.toNat) (fun x => ∃ k : Nat, k ≤ len ∧ x = (k : Int) ∧ ∀ j, j < k → p j = false) (fun x r => r = match (List.range len).find? p with | some k => yes k | none => no) ?_ n _ ⟨0, by omega, rfl, fun j hj => absurd hj (Nat.not_lt_zero _)⟩ (by simp; omega)
  rintro _ J ⟨k, hk, rfl, hb⟩ ih
  by_cases h : k < len
  · rw [hstep k J h hb]
    cases hp : p k with
    | false => exact ih _ ⟨k + 1, h, rfl, fun j hj => by
        by_cases e : j = k
        · rw [e]; exact hp
        · exact hb j (by omega)⟩ (by simp; omega)
    | true => rw [find_range_some h hp hb]; rfl
  · have : k = len := by omega
    subst this
    rw [hfin _ hb, find_range_none hb]
theorem loop_idx {b : Int → (Int → Option Int) → Option Int} {len : Nat} {p : Nat → Bool} (hlen : len ≤ 9223372036854775807)
    (hstep : ∀ (k : Nat) (J : Int → Option Int), k < len → (∀ j, j < k → p j = false) → b (k : Int) J = bif p k then some (k : Int) else J ((k + 1 : Nat) : Int)) (hfin : ∀ J, (∀ j, j < len → p j = false) → b (len : Int) J = some (-1)) {n : Nat} (hn : len < n) :
    loopN b n (0 : Int) = some (idxOf p len) := by
  rw [loop_find (yes := fun k => some (k : Int)) (no := some (-1)) hlen hstep hfin hn]
  unfold idxOf
  cases (List.range len).find? p <;> rfl
theorem byteAt_rng (s : ByteArray) (k : Nat) : 0 ≤ byteAt s k ∧ byteAt s k ≤ 255 := by
  unfold byteAt
  have := (s.data.getD k 0).toNat_lt
  omega
theorem range_any {α : Type} {l : List α} {d : α} {f : α → Bool} : (List.range l.length).any (fun k => f (l.getD k d)) = l.any f := by
  induction l with
  | nil => rfl
  | cons a l ih =>
    rw [List.length_cons, List.range_succ_eq_map, List.any_cons, List.any_map, List.any_cons, ← ih]
    rfl
theorem range_all {α : Type} {l : List α} {d : α} {f : α → Bool} : (List.range l.length).all (fun k => f (l.getD k d)) = l.all f := by
  induction l with
  | nil => rfl
  | cons a l ih =>
    rw [List.length_cons, List.range_succ_eq_map, List.all_cons, List.all_map, List.all_cons, ← ih]
    rfl
theorem all_congr_lt {p q : Nat → Bool} {m : Nat} (h : ∀ k, k < m → p k = q k) : (List.range m).all p = (List.range m).all q := by
  rw [Bool.eq_iff_iff, List.all_eq_true, List.all_eq_true]
  constructor
  · intro g x hx; rw [← h x (List.mem_range.1 hx)]; exact g x hx
  · intro g x hx; rw [h x (List.mem_range.1 hx)]; exact g x hx
theorem any_congr_lt {p q : Nat → Bool} {m : Nat} (h : ∀ k, k < m → p k = q k) : (List.range m).any p = (List.range m).any q := by
  rw [Bool.eq_iff_iff, List.any_eq_true, List.any_eq_true]
  constructor
  · rintro ⟨x, hx, g⟩; exact ⟨x, hx, by rw [← h x (List.mem_range.1 hx)]; exact g⟩
  · rintro ⟨x, hx, g⟩; exact ⟨x, hx, by rw [h x (List.mem_range.1 hx)]; exact g⟩
theorem guard_sz {w : Nat} {x : Option Bool} (h : w ≤ 1048576 → x = some true) : (bif decide ((if (w : Int) ≤ 1048576 then 1048576 - (w : Int) else -1) < 0) then some true else x) = some true := by
  by_cases c : (w : Int) ≤ 1048576
  · rw [if_pos c, decide_eq_false (by omega), cond_false]
    exact h (by omega)
  · rw [if_neg c]
    rfl
end Go.Sm
end

section
set_option linter.unusedSimpArgs false
set_option linter.deprecated false
set_option linter.unusedSectionVars false
set_option linter.unusedVariables false
set_option linter.unusedSimpArgs false
namespace Go.Sm
attribute [local irreducible] bd chk ix loopN
theorem laws_markText_ok {n : Nat} (k : Int) (hk : k ≤ 1000000000) (hn : 1000000000 < n) : ∃ t, laws_markText n k = some t := by
  unfold laws_markText
  rw [bif_dec]
  split
  · exact ⟨_, rfl⟩
  · refine loopN_ind (fun x => x.1.toNat) (fun x => 0 ≤ x.1 ∧ x.1 + (x.2.size : Int) ≤ 1000000000) (fun x r => ∃ t, r = some t) ?_ n _ ⟨by omega, by show k + ((str []).size : Int) ≤ _; simp [str, ByteArray.size]; omega⟩ (by simp; omega)
    rintro ⟨k, out⟩ J ⟨h0, h1⟩ ih
    unfold laws_markText_L4
    dsimp only at h0 h1 ⊢
    have e1 : ∀ l : List Int, (bstr l).size = l.length := fun l => by simp [bstr, ByteArray.size]
    have e2 : (str [109]).size = 1 := rfl
    have e3 : k.tdiv 10 = k / 10 := Int.tdiv_eq_ediv_of_nonneg h0
    simp only [bd_eq]
    rw [bif_dec, e3]
    split
    · rw [e1, chk_dec (by simp; omega), w64_id (x := k / 10) (by omega) (by omega)]
      refine ih _ ⟨by dsimp only; omega, ?_⟩ (by dsimp only; omega)
      rw [ByteArray.size_append, e1]
      simp
      omega
    · rw [e2, chk_dec (by omega)]
      exact ⟨_, rfl⟩
theorem laws_markText_q {β : Type} {Q : Option β → Prop} {n : Nat} {k : Int} {F : ByteArray → Option β} (hk : k ≤ 1000000000) (hn : 1000000000 < n) (h : ∀ t, laws_markText n k = some t → Q (F t)) : Q ((laws_markText n k).bind F) := by
  obtain ⟨t, ht⟩ := laws_markText_ok (n := n) k hk hn
  rw [ht]
  exact h t ht
def w_LInt (a : List Int) : Nat := a.length
theorem laws_szIntS_ok {n : Nat} (a : List Int) {left : Int} (h : (a.length ≤ 9223372036854775807 ∧ ∀ y ∈ a, rng (-9223372036854775808) 9223372036854775807 y)) (h0 : 0 ≤ left) (h1 : left ≤ 1048576) (hn : 1000000000 < n) : laws_szIntS n a left = some (if (w_LInt a : Int) ≤ left then left - (w_LInt a : Int) else -1) := by
  have hw : w_LInt a = a.length := rfl
  unfold laws_szIntS
  rw [w64_id (by have := h.1; omega) (by omega), bd_eq, bif_dec]
  by_cases c : (a.length : Int) ≤ left
  · rw [if_neg (by omega), if_pos (by omega)]
    congr 1
  · rw [if_pos (by omega), if_neg (by omega)]
def w_SFeature (a : SFeature) : Nat := a.Text.size
theorem laws_szFeature_ok {n : Nat} (a : SFeature) {left : Int} (h : wfSFeature a) (h0 : 0 ≤ left) (h1 : left ≤ 1048576) (hn : 1000000000 < n) : laws_szFeature n a left = some (if (w_SFeature a : Int) ≤ left then left - (w_SFeature a : Int) else -1) := by
  have hw : w_SFeature a = a.Text.size := rfl
  unfold laws_szFeature
  rw [w64_id (by have := h.2.2.2.2; omega) (by omega), bd_eq, bif_dec]
  by_cases c0 : (a.Text.size : Int) ≤ left
  case neg => rw [if_pos (by omega), if_neg (by omega)]
  rw [if_neg (by omega)]
  rw [if_pos (by omega)]
  try (refine congrArg some ?_; omega)
def w_LSFeature (a : List SFeature) : Nat := a.length + sumOf (fun y => w_SFeature y) a
theorem laws_szFeatureS_ok {n : Nat} (a : List SFeature) {left : Int} (h : (a.length ≤ 9223372036854775807 ∧ ∀ y ∈ a, wfSFeature y)) (h0 : 0 ≤ left) (h1 : left ≤ 1048576) (hn : 1000000000 < n) : laws_szFeatureS n a left = some (if (w_LSFeature a : Int) ≤ left then left - (w_LSFeature a : Int) else -1) := by
  have hw : w_LSFeature a = a.length + sumOf (fun y => w_SFeature y) a := rfl
  unfold laws_szFeatureS
  rw [w64_id (by have := h.1; omega) (by omega), bd_eq, bif_dec]
  by_cases c : (a.length : Int) ≤ left
  case neg => rw [if_pos (by omega), if_neg (by omega)]
  rw [if_neg (by omega)]
  refine loopN_ind (fun x => a.length - x.2.toNat) (fun x => ∃ k : Nat, k ≤ a.length ∧ x = (left - (a.length : Int) - (sumOf (fun y => w_SFeature y) (a.take k) : Int), (k : Int)) ∧ (sumOf (fun y => w_SFeature y) (a.take k) : Int) ≤ left - (a.length : Int))
    (fun x r => r = some (if (w_LSFeature a : Int) ≤ left then left - (w_LSFeature a : Int) else -1)) ?_ n _ ⟨0, by omega, by simp [sumOf], by simp [sumOf]; omega⟩ (by simp; omega)
  rintro _ J ⟨k, hk, rfl, hb⟩ ih
  unfold laws_szFeatureS_L5
  by_cases h2 : k < a.length
  · have s1 := sumOf_take_succ (f := fun y => w_SFeature y) (d := dSFeature) h2
    have s2 := sumOf_take_le (fun y => w_SFeature y) a (k + 1)
    try simp only at s1
    simp only [Int.ofNat_lt, h2, decide_true, cond_true, ix_nat h2, Int.toNat_natCast, bd_eq]
    rw [laws_szFeature_ok (n := n) (a.getD k dSFeature) (h.2 _ (getD_mem h2)) (by omega) (by omega) hn, Option.bind_some, bif_dec]
    by_cases c2 : (w_SFeature (a.getD k dSFeature) : Int) ≤ left - (a.length : Int) - (sumOf (fun y => w_SFeature y) (a.take k) : Int)
    · rw [if_pos c2, if_neg (by omega), w64_succ (by omega)]
      exact ih (_, ((k + 1 : Nat) : Int)) ⟨k + 1, h2, Prod.ext (by dsimp only; omega) rfl, by omega⟩ (by simp; omega)
    · rw [if_neg c2, if_pos (by omega), if_neg (by omega)]
  · have : k = a.length := by omega
    subst this
    rw [List.take_length] at hb ⊢
    simp only [Int.lt_irrefl, decide_false, cond_false]
    rw [if_pos (by omega)]
    congr 1
    omega
def w_SChart (a : SChart) : Nat := w_LInt a.Depths + w_LSFeature a.Features
theorem laws_szChart_ok {n : Nat} (a : SChart) {left : Int} (h : wfSChart a) (h0 : 0 ≤ left) (h1 : left ≤ 1048576) (hn : 1000000000 < n) : laws_szChart n a left = some (if (w_SChart a : Int) ≤ left then left - (w_SChart a : Int) else -1) := by
  have hw : w_SChart a = w_LInt a.Depths + w_LSFeature a.Features := rfl
  unfold laws_szChart
  rw [laws_szIntS_ok (n := n) a.Depths h.2.2.1 (by omega) (by omega) hn, Option.bind_some, bif_dec]
  by_cases c0 : (w_LInt a.Depths : Int) ≤ left
  case neg => rw [if_neg c0, if_pos (by omega), if_neg (by omega)]
  rw [if_pos c0, if_neg (by omega)]
  rw [laws_szFeatureS_ok (n := n) a.Features h.2.2.2.1 (by omega) (by omega) hn, Option.bind_some, bif_dec]
  by_cases c1 : (w_LSFeature a.Features : Int) ≤ left - (w_LInt a.Depths : Int)
  case neg => rw [if_neg c1, if_pos (by omega), if_neg (by omega)]
  rw [if_pos c1, if_neg (by omega)]
  rw [if_pos (by omega)]
  try (refine congrArg some ?_; omega)
def w_SNote (a : SNote) : Nat := a.Text.size
theorem laws_szNote_ok {n : Nat} (a : SNote) {left : Int} (h : wfSNote a) (h0 : 0 ≤ left) (h1 : left ≤ 1048576) (hn : 1000000000 < n) : laws_szNote n a left = some (if (w_SNote a : Int) ≤ left then left - (w_SNote a : Int) else -1) := by
  have hw : w_SNote a = a.Text.size := rfl
  unfold laws_szNote
  rw [w64_id (by have := h.2.2.2.2.2.1; omega) (by omega), bd_eq, bif_dec]
  by_cases c0 : (a.Text.size : Int) ≤ left
  case neg => rw [if_pos (by omega), if_neg (by omega)]
  rw [if_neg (by omega)]
  rw [if_pos (by omega)]
  try (refine congrArg some ?_; omega)
def w_LSNote (a : List SNote) : Nat := a.length + sumOf (fun y => w_SNote y) a
theorem laws_szNoteS_ok {n : Nat} (a : List SNote) {left : Int} (h : (a.length ≤ 9223372036854775807 ∧ ∀ y ∈ a, wfSNote y)) (h0 : 0 ≤ left) (h1 : left ≤ 1048576) (hn : 1000000000 < n) : laws_szNoteS n a left = some (if (w_LSNote a : Int) ≤ left then left - (w_LSNote a : Int) else -1) := by
  have hw : w_LSNote a = a.length + sumOf (fun y => w_SNote y) a := rfl
  unfold laws_szNoteS
  rw [w64_id (by have := h.1; omega) (by omega), bd_eq, bif_dec]
  by_cases c : (a.length : Int) ≤ left
  case neg => rw [if_pos (by omega), if_neg (by omega)]
  rw [if_neg (by omega)]
  refine loopN_ind (fun x => a.length - x.2.toNat) (fun x => ∃ k : Nat, k ≤ a.length ∧ x = (left - (a.length : Int) - (sumOf (fun y => w_SNote y) (a.take k) : Int), (k : Int)) ∧ (sumOf (fun y => w_SNote y) (a.take k) : Int) ≤ left - (a.length : Int))
    (fun x r => r = some (if (w_LSNote a : Int) ≤ left then left - (w_LSNote a : Int) else -1)) ?_ n _ ⟨0, by omega, by simp [sumOf], by simp [sumOf]; omega⟩ (by simp; omega)
  rintro _ J ⟨k, hk, rfl, hb⟩ ih
  unfold laws_szNoteS_L5
  by_cases h2 : k < a.length
  · have s1 := sumOf_take_succ (f := fun y => w_SNote y) (d := dSNote) h2
    have s2 := sumOf_take_le (fun y => w_SNote y) a (k + 1)
    try simp only at s1
    simp only [Int.ofNat_lt, h2, decide_true, cond_true, ix_nat h2, Int.toNat_natCast, bd_eq]
    rw [laws_szNote_ok (n := n) (a.getD k dSNote) (h.2 _ (getD_mem h2)) (by omega) (by omega) hn, Option.bind_some, bif_dec]
    by_cases c2 : (w_SNote (a.getD k dSNote) : Int) ≤ left - (a.length : Int) - (sumOf (fun y => w_SNote y) (a.take k) : Int)
    · rw [if_pos c2, if_neg (by omega), w64_succ (by omega)]
      exact ih (_, ((k + 1 : Nat) : Int)) ⟨k + 1, h2, Prod.ext (by dsimp only; omega) rfl, by omega⟩ (by simp; omega)
    · rw [if_neg c2, if_pos (by omega), if_neg (by omega)]
  · have : k = a.length := by omega
    subst this
    rw [List.take_length] at hb ⊢
    simp only [Int.lt_irrefl, decide_false, cond_false]
    rw [if_pos (by omega)]
    congr 1
    omega
def w_SUpdate (a : SUpdate) : Nat := w_LSNote a.Notes
theorem laws_szUpdate_ok {n : Nat} (a : SUpdate) {left : Int} (h : wfSUpdate a) (h0 : 0 ≤ left) (h1 : left ≤ 1048576) (hn : 1000000000 < n) : laws_szUpdate n a left = some (if (w_SUpdate a : Int) ≤ left then left - (w_SUpdate a : Int) else -1) := by
  have hw : w_SUpdate a = w_LSNote a.Notes := rfl
  unfold laws_szUpdate
  rw [laws_szNoteS_ok (n := n) a.Notes h.2 (by omega) (by omega) hn, Option.bind_some, bif_dec]
  by_cases c0 : (w_LSNote a.Notes : Int) ≤ left
  case neg => rw [if_neg c0, if_pos (by omega), if_neg (by omega)]
  rw [if_pos c0, if_neg (by omega)]
  rw [if_pos (by omega)]
  try (refine congrArg some ?_; omega)
def w_LSUpdate (a : List SUpdate) : Nat := a.length + sumOf (fun y => w_SUpdate y) a
theorem laws_szUpdateS_ok {n : Nat} (a : List SUpdate) {left : Int} (h : (a.length ≤ 9223372036854775807 ∧ ∀ y ∈ a, wfSUpdate y)) (h0 : 0 ≤ left) (h1 : left ≤ 1048576) (hn : 1000000000 < n) : laws_szUpdateS n a left = some (if (w_LSUpdate a : Int) ≤ left then left - (w_LSUpdate a : Int) else -1) := by
  have hw : w_LSUpdate a = a.length + sumOf (fun y => w_SUpdate y) a := rfl
  unfold laws_szUpdateS
  rw [w64_id (by have := h.1; omega) (by omega), bd_eq, bif_dec]
  by_cases c : (a.length : Int) ≤ left
  case neg => rw [if_pos (by omega), if_neg (by omega)]
  rw [if_neg (by omega)]
  refine loopN_ind (fun x => a.length - x.2.toNat) (fun x => ∃ k : Nat, k ≤ a.length ∧ x = (left - (a.length : Int) - (sumOf (fun y => w_SUpdate y) (a.take k) : Int), (k : Int)) ∧ (sumOf (fun y => w_SUpdate y) (a.take k) : Int) ≤ left - (a.length : Int))
    (fun x r => r = some (if (w_LSUpdate a : Int) ≤ left then left - (w_LSUpdate a : Int) else -1)) ?_ n _ ⟨0, by omega, by simp [sumOf], by simp [sumOf]; omega⟩ (by simp; omega)
  rintro _ J ⟨k, hk, rfl, hb⟩ ih
  unfold laws_szUpdateS_L5
  by_cases h2 : k < a.length
  · have s1 := sumOf_take_succ (f := fun y => w_SUpdate y) (d := dSUpdate) h2
    have s2 := sumOf_take_le (fun y => w_SUpdate y) a (k + 1)
    try simp only at s1
    simp only [Int.ofNat_lt, h2, decide_true, cond_true, ix_nat h2, Int.toNat_natCast, bd_eq]
    rw [laws_szUpdate_ok (n := n) (a.getD k dSUpdate) (h.2 _ (getD_mem h2)) (by omega) (by omega) hn, Option.bind_some, bif_dec]
    by_cases c2 : (w_SUpdate (a.getD k dSUpdate) : Int) ≤ left - (a.length : Int) - (sumOf (fun y => w_SUpdate y) (a.take k) : Int)
    · rw [if_pos c2, if_neg (by omega), w64_succ (by omega)]
      exact ih (_, ((k + 1 : Nat) : Int)) ⟨k + 1, h2, Prod.ext (by dsimp only; omega) rfl, by omega⟩ (by simp; omega)
    · rw [if_neg c2, if_pos (by omega), if_neg (by omega)]
  · have : k = a.length := by omega
    subst this
    rw [List.take_length] at hb ⊢
    simp only [Int.lt_irrefl, decide_false, cond_false]
    rw [if_pos (by omega)]
    congr 1
    omega
theorem laws_toIntS_ok {n : Nat} (a : List Int) (hb : w_LInt a ≤ 100000000) (hn : 1000000000 < n) : laws_toIntS n a = some a := by
  have hw0 : a.length ≤ 100000000 := by have hw : w_LInt a = a.length := rfl; omega
  unfold laws_toIntS
  rw [chk_dec (by omega), chk_dec (by omega), chk_dec (by omega)]
  refine loopN_ind (fun x => a.length - x.1.toNat) (fun x => ∃ k : Nat, k ≤ a.length ∧ x = ((k : Int), a.take k ++ (List.replicate a.length (0 : Int)).drop k)) (fun x r => r = some a) ?_ n _ ⟨0, by omega, by simp⟩ (by simp; omega)
  rintro _ J ⟨k, hk, rfl⟩ ih
  unfold laws_toIntS_L3
  dsimp only
  have hl : (a.take k ++ (List.replicate a.length (0 : Int)).drop k).length = a.length := by simp; omega
  by_cases h : k < a.length
  · have g := ih (((k + 1 : Nat) : Int), a.take (k + 1) ++ (List.replicate a.length (0 : Int)).drop (k + 1)) ⟨k + 1, h, rfl⟩ (by simp; omega)
    have hk2 : k < (a.take k ++ (List.replicate a.length (0 : Int)).drop k).length := by omega
    simp only [Int.ofNat_lt, h, hk2, decide_true, cond_true, ix_nat h, ix_nat hk2, chk_of, bd_eq, Option.bind_some, Int.toNat_natCast, w64_succ (show k < 9223372036854775807 by omega)]
    rw [take_drop_set (d := (0 : Int)) h rfl rfl]
    exact g
  · have : k = a.length := by omega
    subst this
    simp
theorem laws_toFeature_ok {n : Nat} (a : SFeature) (h : w_SFeature a ≤ 100000000) (hn : 1000000000 < n) : laws_toFeature n a = some a := by
  have hw : w_SFeature a = a.Text.size := rfl
  simp [laws_toFeature]
theorem laws_toFeatureS_ok {n : Nat} (a : List SFeature) (hb : w_LSFeature a ≤ 100000000) (hn : 1000000000 < n) : laws_toFeatureS n a = some a := by
  have hw0 : a.length ≤ 100000000 := by have hw : w_LSFeature a = a.length + sumOf (fun y => w_SFeature y) a := rfl; omega
  unfold laws_toFeatureS
  rw [chk_dec (by omega), chk_dec (by omega), chk_dec (by omega)]
  refine loopN_ind (fun x => a.length - x.1.toNat) (fun x => ∃ k : Nat, k ≤ a.length ∧ x = ((k : Int), a.take k ++ (List.replicate a.length dSFeature).drop k)) (fun x r => r = some a) ?_ n _ ⟨0, by omega, by simp⟩ (by simp; omega)
  rintro _ J ⟨k, hk, rfl⟩ ih
  unfold laws_toFeatureS_L3
  dsimp only
  have hl : (a.take k ++ (List.replicate a.length dSFeature).drop k).length = a.length := by simp; omega
  by_cases h : k < a.length
  · have g := ih (((k + 1 : Nat) : Int), a.take (k + 1) ++ (List.replicate a.length dSFeature).drop (k + 1)) ⟨k + 1, h, rfl⟩ (by simp; omega)
    have s1 := sumOf_mem (f := fun y => w_SFeature y) (d := dSFeature) h
    have hw : w_LSFeature a = a.length + sumOf (fun y => w_SFeature y) a := rfl
    try simp only at s1
    have hk2 : k < (a.take k ++ (List.replicate a.length dSFeature).drop k).length := by omega
    simp only [Int.ofNat_lt, h, hk2, decide_true, cond_true, ix_nat h, ix_nat hk2, chk_of, bd_eq, Option.bind_some, Int.toNat_natCast, w64_succ (show k < 9223372036854775807 by omega), laws_toFeature_ok (n := n) (a.getD k dSFeature) (by omega) hn]
    rw [take_drop_set (d := dSFeature) h rfl rfl]
    exact g
  · have : k = a.length := by omega
    subst this
    simp
theorem laws_toChart_ok {n : Nat} (a : SChart) (h : w_SChart a ≤ 100000000) (hn : 1000000000 < n) : laws_toChart n a = some a := by
  have hw : w_SChart a = w_LInt a.Depths + w_LSFeature a.Features := rfl
  simp [laws_toChart, laws_toIntS_ok (n := n) a.Depths (by omega) hn, laws_toFeatureS_ok (n := n) a.Features (by omega) hn]
theorem laws_toNote_ok {n : Nat} (a : SNote) (h : w_SNote a ≤ 100000000) (hn : 1000000000 < n) : laws_toNote n a = some a := by
  have hw : w_SNote a = a.Text.size := rfl
  simp [laws_toNote]
theorem laws_toNoteS_ok {n : Nat} (a : List SNote) (hb : w_LSNote a ≤ 100000000) (hn : 1000000000 < n) : laws_toNoteS n a = some a := by
  have hw0 : a.length ≤ 100000000 := by have hw : w_LSNote a = a.length + sumOf (fun y => w_SNote y) a := rfl; omega
  unfold laws_toNoteS
  rw [chk_dec (by omega), chk_dec (by omega), chk_dec (by omega)]
  refine loopN_ind (fun x => a.length - x.1.toNat) (fun x => ∃ k : Nat, k ≤ a.length ∧ x = ((k : Int), a.take k ++ (List.replicate a.length dSNote).drop k)) (fun x r => r = some a) ?_ n _ ⟨0, by omega, by simp⟩ (by simp; omega)
  rintro _ J ⟨k, hk, rfl⟩ ih
  unfold laws_toNoteS_L3
  dsimp only
  have hl : (a.take k ++ (List.replicate a.length dSNote).drop k).length = a.length := by simp; omega
  by_cases h : k < a.length
  · have g := ih (((k + 1 : Nat) : Int), a.take (k + 1) ++ (List.replicate a.length dSNote).drop (k + 1)) ⟨k + 1, h, rfl⟩ (by simp; omega)
    have s1 := sumOf_mem (f := fun y => w_SNote y) (d := dSNote) h
    have hw : w_LSNote a = a.length + sumOf (fun y => w_SNote y) a := rfl
    try simp only at s1
    have hk2 : k < (a.take k ++ (List.replicate a.length dSNote).drop k).length := by omega
    simp only [Int.ofNat_lt, h, hk2, decide_true, cond_true, ix_nat h, ix_nat hk2, chk_of, bd_eq, Option.bind_some, Int.toNat_natCast, w64_succ (show k < 9223372036854775807 by omega), laws_toNote_ok (n := n) (a.getD k dSNote) (by omega) hn]
    rw [take_drop_set (d := dSNote) h rfl rfl]
    exact g
  · have : k = a.length := by omega
    subst this
    simp
theorem laws_toUpdate_ok {n : Nat} (a : SUpdate) (h : w_SUpdate a ≤ 100000000) (hn : 1000000000 < n) : laws_toUpdate n a = some a := by
  have hw : w_SUpdate a = w_LSNote a.Notes := rfl
  simp [laws_toUpdate, laws_toNoteS_ok (n := n) a.Notes (by omega) hn]
theorem laws_toUpdateS_ok {n : Nat} (a : List SUpdate) (hb : w_LSUpdate a ≤ 100000000) (hn : 1000000000 < n) : laws_toUpdateS n a = some a := by
  have hw0 : a.length ≤ 100000000 := by have hw : w_LSUpdate a = a.length + sumOf (fun y => w_SUpdate y) a := rfl; omega
  unfold laws_toUpdateS
  rw [chk_dec (by omega), chk_dec (by omega), chk_dec (by omega)]
  refine loopN_ind (fun x => a.length - x.1.toNat) (fun x => ∃ k : Nat, k ≤ a.length ∧ x = ((k : Int), a.take k ++ (List.replicate a.length dSUpdate).drop k)) (fun x r => r = some a) ?_ n _ ⟨0, by omega, by simp⟩ (by simp; omega)
  rintro _ J ⟨k, hk, rfl⟩ ih
  unfold laws_toUpdateS_L3
  dsimp only
  have hl : (a.take k ++ (List.replicate a.length dSUpdate).drop k).length = a.length := by simp; omega
  by_cases h : k < a.length
  · have g := ih (((k + 1 : Nat) : Int), a.take (k + 1) ++ (List.replicate a.length dSUpdate).drop (k + 1)) ⟨k + 1, h, rfl⟩ (by simp; omega)
    have s1 := sumOf_mem (f := fun y => w_SUpdate y) (d := dSUpdate) h
    have hw : w_LSUpdate a = a.length + sumOf (fun y => w_SUpdate y) a := rfl
    try simp only at s1
    have hk2 : k < (a.take k ++ (List.replicate a.length dSUpdate).drop k).length := by omega
    simp only [Int.ofNat_lt, h, hk2, decide_true, cond_true, ix_nat h, ix_nat hk2, chk_of, bd_eq, Option.bind_some, Int.toNat_natCast, w64_succ (show k < 9223372036854775807 by omega), laws_toUpdate_ok (n := n) (a.getD k dSUpdate) (by omega) hn]
    rw [take_drop_set (d := dSUpdate) h rfl rfl]
    exact g
  · have : k = a.length := by omega
    subst this
    simp
theorem laws_eqIntS_ok {n : Nat} (a : List Int) (hb : w_LInt a ≤ 100000000) (hn : 1000000000 < n) : laws_eqIntS n a a = some true := by
  have hw0 : a.length ≤ 100000000 := by have hw : w_LInt a = a.length := rfl; omega
  unfold laws_eqIntS
  simp only [decide_true, Bool.not_true, cond_false]
  refine loopN_ind (fun x => a.length - x.toNat) (fun x => ∃ k : Nat, k ≤ a.length ∧ x = (k : Int)) (fun x r => r = some true) ?_ n _ ⟨0, by omega, rfl⟩ (by simp; omega)
  rintro _ J ⟨k, hk, rfl⟩ ih
  unfold laws_eqIntS_L4
  by_cases h : k < a.length
  · have g := ih ((k + 1 : Nat) : Int) ⟨k + 1, h, rfl⟩ (by simp; omega)
    simp only [Int.ofNat_lt, h, decide_true, cond_true, ix_nat h, Bool.not_true, cond_false, bd_eq, Option.bind_some, beq_self_eq_true, Int.toNat_natCast, w64_succ (show k < 9223372036854775807 by omega)]
    exact g
  · simp [h]
theorem laws_eqFeature_ok {n : Nat} (a : SFeature) (h : w_SFeature a ≤ 100000000) (hn : 1000000000 < n) : laws_eqFeature n a a = some true := by
  have hw : w_SFeature a = a.Text.size := rfl
  simp [laws_eqFeature]
theorem laws_eqFeatureS_ok {n : Nat} (a : List SFeature) (hb : w_LSFeature a ≤ 100000000) (hn : 1000000000 < n) : laws_eqFeatureS n a a = some true := by
  have hw0 : a.length ≤ 100000000 := by have hw : w_LSFeature a = a.length + sumOf (fun y => w_SFeature y) a := rfl; omega
  unfold laws_eqFeatureS
  simp only [decide_true, Bool.not_true, cond_false]
  refine loopN_ind (fun x => a.length - x.toNat) (fun x => ∃ k : Nat, k ≤ a.length ∧ x = (k : Int)) (fun x r => r = some true) ?_ n _ ⟨0, by omega, rfl⟩ (by simp; omega)
  rintro _ J ⟨k, hk, rfl⟩ ih
  unfold laws_eqFeatureS_L4
  by_cases h : k < a.length
  · have g := ih ((k + 1 : Nat) : Int) ⟨k + 1, h, rfl⟩ (by simp; omega)
    have s1 := sumOf_mem (f := fun y => w_SFeature y) (d := dSFeature) h
    have hw : w_LSFeature a = a.length + sumOf (fun y => w_SFeature y) a := rfl
    try simp only at s1
    simp only [Int.ofNat_lt, h, decide_true, cond_true, ix_nat h, Bool.not_true, cond_false, bd_eq, Option.bind_some, beq_self_eq_true, Int.toNat_natCast, w64_succ (show k < 9223372036854775807 by omega), laws_eqFeature_ok (n := n) (a.getD k dSFeature) (by omega) hn]
    exact g
  · simp [h]
theorem laws_eqChart_ok {n : Nat} (a : SChart) (h : w_SChart a ≤ 100000000) (hn : 1000000000 < n) : laws_eqChart n a a = some true := by
  have hw : w_SChart a = w_LInt a.Depths + w_LSFeature a.Features := rfl
  simp [laws_eqChart, laws_eqChart_k0, laws_eqIntS_ok (n := n) a.Depths (by omega) hn, laws_eqFeatureS_ok (n := n) a.Features (by omega) hn]
theorem laws_eqNote_ok {n : Nat} (a : SNote) (h : w_SNote a ≤ 100000000) (hn : 1000000000 < n) : laws_eqNote n a a = some true := by
  have hw : w_SNote a = a.Text.size := rfl
  simp [laws_eqNote, laws_eqNote_k0]
theorem laws_eqNoteS_ok {n : Nat} (a : List SNote) (hb : w_LSNote a ≤ 100000000) (hn : 1000000000 < n) : laws_eqNoteS n a a = some true := by
  have hw0 : a.length ≤ 100000000 := by have hw : w_LSNote a = a.length + sumOf (fun y => w_SNote y) a := rfl; omega
  unfold laws_eqNoteS
  simp only [decide_true, Bool.not_true, cond_false]
  refine loopN_ind (fun x => a.length - x.toNat) (fun x => ∃ k : Nat, k ≤ a.length ∧ x = (k : Int)) (fun x r => r = some true) ?_ n _ ⟨0, by omega, rfl⟩ (by simp; omega)
  rintro _ J ⟨k, hk, rfl⟩ ih
  unfold laws_eqNoteS_L4
  by_cases h : k < a.length
  · have g := ih ((k + 1 : Nat) : Int) ⟨k + 1, h, rfl⟩ (by simp; omega)
    have s1 := sumOf_mem (f := fun y => w_SNote y) (d := dSNote) h
    have hw : w_LSNote a = a.length + sumOf (fun y => w_SNote y) a := rfl
    try simp only at s1
    simp only [Int.ofNat_lt, h, decide_true, cond_true, ix_nat h, Bool.not_true, cond_false, bd_eq, Option.bind_some, beq_self_eq_true, Int.toNat_natCast, w64_succ (show k < 9223372036854775807 by omega), laws_eqNote_ok (n := n) (a.getD k dSNote) (by omega) hn]
    exact g
  · simp [h]
theorem laws_eqUpdate_ok {n : Nat} (a : SUpdate) (h : w_SUpdate a ≤ 100000000) (hn : 1000000000 < n) : laws_eqUpdate n a a = some true := by
  have hw : w_SUpdate a = w_LSNote a.Notes := rfl
  simp [laws_eqUpdate, laws_eqNoteS_ok (n := n) a.Notes (by omega) hn]
theorem laws_eqUpdateS_ok {n : Nat} (a : List SUpdate) (hb : w_LSUpdate a ≤ 100000000) (hn : 1000000000 < n) : laws_eqUpdateS n a a = some true := by
  have hw0 : a.length ≤ 100000000 := by have hw : w_LSUpdate a = a.length + sumOf (fun y => w_SUpdate y) a := rfl; omega
  unfold laws_eqUpdateS
  simp only [decide_true, Bool.not_true, cond_false]
  refine loopN_ind (fun x => a.length - x.toNat) (fun x => ∃ k : Nat, k ≤ a.length ∧ x = (k : Int)) (fun x r => r = some true) ?_ n _ ⟨0, by omega, rfl⟩ (by simp; omega)
  rintro _ J ⟨k, hk, rfl⟩ ih
  unfold laws_eqUpdateS_L4
  by_cases h : k < a.length
  · have g := ih ((k + 1 : Nat) : Int) ⟨k + 1, h, rfl⟩ (by simp; omega)
    have s1 := sumOf_mem (f := fun y => w_SUpdate y) (d := dSUpdate) h
    have hw : w_LSUpdate a = a.length + sumOf (fun y => w_SUpdate y) a := rfl
    try simp only at s1
    simp only [Int.ofNat_lt, h, decide_true, cond_true, ix_nat h, Bool.not_true, cond_false, bd_eq, Option.bind_some, beq_self_eq_true, Int.toNat_natCast, w64_succ (show k < 9223372036854775807 by omega), laws_eqUpdate_ok (n := n) (a.getD k dSUpdate) (by omega) hn]
    exact g
  · simp [h]
def Mk_LInt (n : Nat) (k : Int) (a x : Int) : Prop := x = k
def n_LInt (a : List Int) : Nat := sumOf (fun y => 1) a
theorem n_LInt_eq (a : List Int) : n_LInt a = 1 * a.length := sumOf_const 1 a
theorem n_LInt_le (a : List Int) : n_LInt a ≤ 1 * w_LInt a := by
  have h := n_LInt_eq a
  have h2 : w_LInt a = a.length := rfl
  omega
theorem laws_markIntS_i {n : Nat} (a : List Int) (k0 : Int) (hk0 : 0 ≤ k0) (hb : k0 + ((n_LInt a : Nat) : Int) ≤ 900000000) (hw : w_LInt a ≤ 100000000) (hn : 1000000000 < n) :
    ∃ p : List Int, laws_markIntS n a k0 = some (k0 + ((n_LInt a : Nat) : Int), p) ∧ p.length = a.length ∧ ∀ i, i < a.length → Mk_LInt n (k0 + ((sumOf (fun y => 1) (a.take i) : Nat) : Int)) (a.getD i (0 : Int)) (p.getD i (0 : Int)) := by
  have hw0 : a.length ≤ 100000000 := by have hw : w_LInt a = a.length := rfl; omega
  have hnA : n_LInt a = sumOf (fun y => 1) a := rfl
  unfold laws_markIntS
  refine loopN_ind (fun x => a.length - x.2.1.toNat) (fun x => ∃ (k : Nat) (p : List Int), k ≤ a.length ∧ x = (k0 + ((sumOf (fun y => 1) (a.take k) : Nat) : Int), (k : Int), p) ∧ p.length = a.length ∧
      (∀ i, i < k → Mk_LInt n (k0 + ((sumOf (fun y => 1) (a.take i) : Nat) : Int)) (a.getD i (0 : Int)) (p.getD i (0 : Int))) ∧ ∀ i, k ≤ i → p.getD i (0 : Int) = a.getD i (0 : Int))
    (fun x r => ∃ p : List Int, r = some (k0 + ((n_LInt a : Nat) : Int), p) ∧ p.length = a.length ∧ ∀ i, i < a.length → Mk_LInt n (k0 + ((sumOf (fun y => 1) (a.take i) : Nat) : Int)) (a.getD i (0 : Int)) (p.getD i (0 : Int))) ?_ n _ ⟨0, a, by omega, by simp [sumOf], rfl, by omega, fun _ _ => rfl⟩ (by simp; omega)
  rintro _ J ⟨k, p, hk, rfl, hp, hm, hrest⟩ ih
  by_cases h : k < a.length
  · have h' : k < p.length := by omega
    have s1 := sumOf_take_succ (f := fun y => 1) (d := (0 : Int)) h
    have s2 := sumOf_take_le (fun y => 1) a (k + 1)
    try simp only at s1
    obtain ⟨kk, hkk⟩ : ∃ kk : Int, kk = k0 + ((sumOf (fun y => 1) (a.take k) : Nat) : Int) := ⟨_, rfl⟩
    have hpk := hrest k (Nat.le_refl _)
    have step : ∀ (K : Int → List Int → Option (Int × List Int)) (J : Int → Int → List Int → Option (Int × List Int)), laws_markIntS_L2 n K J kk (k : Int) p = J (kk + 1) ((k : Int) + 1) (p.set k (kk)) := fun K J => by
      unfold laws_markIntS_L2
      simp (disch := omega) only [Int.ofNat_lt, h', decide_true, cond_true, ix_nat h', List.length_set, chk_of, chk_true, bd_eq, getD_set h', List.set_set, hpk, Int.toNat_natCast, w64_id, Int.add_assoc, Int.reduceAdd, Option.bind_some]
    dsimp only
    rw [← hkk]
    refine (congrArg (fun z => ∃ q : List Int, z = some (k0 + ((n_LInt a : Nat) : Int), q) ∧ q.length = a.length ∧ ∀ i, i < a.length → Mk_LInt n (k0 + ((sumOf (fun y => 1) (a.take i) : Nat) : Int)) (a.getD i (0 : Int)) (q.getD i (0 : Int))) (step _ _)).mpr ?_
    refine ih _ ⟨k + 1, _, h, Prod.ext (by dsimp only; omega) (Prod.ext (by dsimp only; omega) rfl), by simpa using hp, fun i hi => ?_, fun i hi => ?_⟩ (by dsimp only; omega)
    · by_cases e : i = k
      · subst e
        rw [getD_set h', ← hkk]
        unfold Mk_LInt
        exact rfl
      · rw [getD_set_ne e]
        exact hm i (by omega)
    · rw [getD_set_ne (by omega)]
      exact hrest i (by omega)
  · have : k = a.length := by omega
    subst this
    unfold laws_markIntS_L2
    simp only [hp, Int.lt_irrefl, decide_false, cond_false]
    rw [List.take_length]
    exact ⟨p, rfl, hp, hm⟩
theorem laws_heldIntS_i {n : Nat} (a p : List Int) (hp : p.length = a.length) (k0 : Int) (hk0 : 0 ≤ k0) (hb : k0 + ((n_LInt a : Nat) : Int) ≤ 900000000) (hw : w_LInt a ≤ 100000000) (hn : 1000000000 < n)
    (hm : ∀ i, i < a.length → Mk_LInt n (k0 + ((sumOf (fun y => 1) (a.take i) : Nat) : Int)) (a.getD i (0 : Int)) (p.getD i (0 : Int))) : laws_heldIntS n p k0 = some (k0 + ((n_LInt a : Nat) : Int)) := by
  have hw0 : a.length ≤ 100000000 := by have hw : w_LInt a = a.length := rfl; omega
  have hnA : n_LInt a = sumOf (fun y => 1) a := rfl
  unfold laws_heldIntS
  refine loopN_ind (fun x => a.length - x.2.toNat) (fun x => ∃ (k : Nat), k ≤ a.length ∧ x = (k0 + ((sumOf (fun y => 1) (a.take k) : Nat) : Int), (k : Int)))
    (fun x r => r = some (k0 + ((n_LInt a : Nat) : Int))) ?_ n _ ⟨0, by omega, by simp [sumOf]⟩ (by simp; omega)
  rintro _ J ⟨k, hk, rfl⟩ ih
  by_cases h : k < a.length
  · have h' : k < p.length := by omega
    have s1 := sumOf_take_succ (f := fun y => 1) (d := (0 : Int)) h
    have s2 := sumOf_take_le (fun y => 1) a (k + 1)
    try simp only at s1
    have hmk := hm k h
    unfold Mk_LInt at hmk
    obtain ⟨kk, hkk⟩ : ∃ kk : Int, kk = k0 + ((sumOf (fun y => 1) (a.take k) : Nat) : Int) := ⟨_, rfl⟩
    rw [← hkk] at hmk
    try simp (disch := omega) only [Int.add_assoc, Int.reduceAdd] at hmk
    have e0 := hmk
    have step : ∀ (K K2 : Int → Option Int) (J : Int → Int → Option Int), laws_heldIntS_L2 n K K2 J p kk (k : Int) = J (kk + 1) ((k : Int) + 1) := fun K K2 J => by
      unfold laws_heldIntS_L2
      simp (disch := omega) only [Int.ofNat_lt, h', decide_true, cond_true, ix_nat h', bd_eq, Int.toNat_natCast, w64_id, Int.add_assoc, Int.reduceAdd, Option.bind_some, Bool.not_true, cond_false, beq_self_eq_true, decide_eq_false_iff_not, Int.not_lt, bif_dec, if_neg, e0]
    dsimp only
    rw [← hkk]
    refine (step _ _ _).trans ?_
    exact ih (_, _) ⟨k + 1, h, Prod.ext (by dsimp only; omega) (by dsimp only; omega)⟩ (by dsimp only; omega)
  · have : k = a.length := by omega
    subst this
    unfold laws_heldIntS_L2
    simp only [hp, Int.lt_irrefl, decide_false, cond_false]
    rw [List.take_length]
    rfl
theorem laws_markIntS_ok {n : Nat} (a : List Int) (k0 : Int) (hk0 : 0 ≤ k0) (hb : k0 + ((n_LInt a : Nat) : Int) ≤ 900000000) (hw : w_LInt a ≤ 100000000) (hn : 1000000000 < n) : ∃ p : List Int, laws_markIntS n a k0 = some (k0 + ((n_LInt a : Nat) : Int), p) ∧ laws_heldIntS n p k0 = some (k0 + ((n_LInt a : Nat) : Int)) := by
  obtain ⟨p, h1, h2, h3⟩ := laws_markIntS_i (n := n) a k0 hk0 hb hw hn
  exact ⟨p, h1, laws_heldIntS_i a p h2 k0 hk0 hb hw hn h3⟩
def Mk_LSFeature (n : Nat) (k : Int) (a x : SFeature) : Prop := x.Id = k ∧ x.Kind = k + 1 ∧ x.X = k + 2 ∧ x.Y = k + 3 ∧ laws_markText n (k + 4) = some x.Text
def n_LSFeature (a : List SFeature) : Nat := sumOf (fun y => 5) a
theorem n_LSFeature_eq (a : List SFeature) : n_LSFeature a = 5 * a.length := sumOf_const 5 a
theorem n_LSFeature_le (a : List SFeature) : n_LSFeature a ≤ 5 * w_LSFeature a := by
  have h := n_LSFeature_eq a
  have h2 : w_LSFeature a = a.length + sumOf (fun y : SFeature => w_SFeature y) a := rfl
  omega
theorem laws_markFeatureS_i {n : Nat} (a : List SFeature) (k0 : Int) (hk0 : 0 ≤ k0) (hb : k0 + ((n_LSFeature a : Nat) : Int) ≤ 900000000) (hw : w_LSFeature a ≤ 100000000) (hn : 1000000000 < n) :
    ∃ p : List SFeature, laws_markFeatureS n a k0 = some (k0 + ((n_LSFeature a : Nat) : Int), p) ∧ p.length = a.length ∧ ∀ i, i < a.length → Mk_LSFeature n (k0 + ((sumOf (fun y => 5) (a.take i) : Nat) : Int)) (a.getD i dSFeature) (p.getD i dSFeature) := by
  have hw0 : a.length ≤ 100000000 := by have hw : w_LSFeature a = a.length + sumOf (fun y => w_SFeature y) a := rfl; omega
  have hnA : n_LSFeature a = sumOf (fun y => 5) a := rfl
  unfold laws_markFeatureS
  refine loopN_ind (fun x => a.length - x.2.1.toNat) (fun x => ∃ (k : Nat) (p : List SFeature), k ≤ a.length ∧ x = (k0 + ((sumOf (fun y => 5) (a.take k) : Nat) : Int), (k : Int), p) ∧ p.length = a.length ∧
      (∀ i, i < k → Mk_LSFeature n (k0 + ((sumOf (fun y => 5) (a.take i) : Nat) : Int)) (a.getD i dSFeature) (p.getD i dSFeature)) ∧ ∀ i, k ≤ i → p.getD i dSFeature = a.getD i dSFeature)
    (fun x r => ∃ p : List SFeature, r = some (k0 + ((n_LSFeature a : Nat) : Int), p) ∧ p.length = a.length ∧ ∀ i, i < a.length → Mk_LSFeature n (k0 + ((sumOf (fun y => 5) (a.take i) : Nat) : Int)) (a.getD i dSFeature) (p.getD i dSFeature)) ?_ n _ ⟨0, a, by omega, by simp [sumOf], rfl, by omega, fun _ _ => rfl⟩ (by simp; omega)
  rintro _ J ⟨k, p, hk, rfl, hp, hm, hrest⟩ ih
  by_cases h : k < a.length
  · have h' : k < p.length := by omega
    have s1 := sumOf_take_succ (f := fun y => 5) (d := dSFeature) h
    have s2 := sumOf_take_le (fun y => 5) a (k + 1)
    try simp only at s1
    obtain ⟨kk, hkk⟩ : ∃ kk : Int, kk = k0 + ((sumOf (fun y => 5) (a.take k) : Nat) : Int) := ⟨_, rfl⟩
    have hpk := hrest k (Nat.le_refl _)
    have s3 := sumOf_mem (f := fun y => w_SFeature y) (d := dSFeature) h
    have hwx : w_LSFeature a = a.length + sumOf (fun y => w_SFeature y) a := rfl
    try simp only at s3
    have hwy : w_SFeature (a.getD k dSFeature) = ((a.getD k dSFeature).Text).size := rfl
    obtain ⟨t0, ht0⟩ := laws_markText_ok (n := n) (kk + 4) (by omega) hn
    have step : ∀ (K : Int → List SFeature → Option (Int × List SFeature)) (J : Int → Int → List SFeature → Option (Int × List SFeature)), laws_markFeatureS_L2 n K J kk (k : Int) p = J (kk + 5) ((k : Int) + 1) (p.set k (⟨(kk), (kk + 1), (kk + 2), (kk + 3), (t0)⟩ : SFeature)) := fun K J => by
      unfold laws_markFeatureS_L2
      simp (disch := omega) only [laws_markFeatureS_k0, Int.ofNat_lt, h', decide_true, cond_true, ix_nat h', List.length_set, chk_of, chk_true, bd_eq, getD_set h', List.set_set, hpk, Int.toNat_natCast, w64_id, Int.add_assoc, Int.reduceAdd, Option.bind_some, ht0]
    dsimp only
    rw [← hkk]
    refine (congrArg (fun z => ∃ q : List SFeature, z = some (k0 + ((n_LSFeature a : Nat) : Int), q) ∧ q.length = a.length ∧ ∀ i, i < a.length → Mk_LSFeature n (k0 + ((sumOf (fun y => 5) (a.take i) : Nat) : Int)) (a.getD i dSFeature) (q.getD i dSFeature)) (step _ _)).mpr ?_
    refine ih _ ⟨k + 1, _, h, Prod.ext (by dsimp only; omega) (Prod.ext (by dsimp only; omega) rfl), by simpa using hp, fun i hi => ?_, fun i hi => ?_⟩ (by dsimp only; omega)
    · by_cases e : i = k
      · subst e
        rw [getD_set h', ← hkk]
        unfold Mk_LSFeature
        exact ⟨rfl, rfl, rfl, rfl, ht0⟩
      · rw [getD_set_ne e]
        exact hm i (by omega)
    · rw [getD_set_ne (by omega)]
      exact hrest i (by omega)
  · have : k = a.length := by omega
    subst this
    unfold laws_markFeatureS_L2
    simp only [hp, Int.lt_irrefl, decide_false, cond_false]
    rw [List.take_length]
    exact ⟨p, rfl, hp, hm⟩
theorem laws_heldFeatureS_i {n : Nat} (a p : List SFeature) (hp : p.length = a.length) (k0 : Int) (hk0 : 0 ≤ k0) (hb : k0 + ((n_LSFeature a : Nat) : Int) ≤ 900000000) (hw : w_LSFeature a ≤ 100000000) (hn : 1000000000 < n)
    (hm : ∀ i, i < a.length → Mk_LSFeature n (k0 + ((sumOf (fun y => 5) (a.take i) : Nat) : Int)) (a.getD i dSFeature) (p.getD i dSFeature)) : laws_heldFeatureS n p k0 = some (k0 + ((n_LSFeature a : Nat) : Int)) := by
  have hw0 : a.length ≤ 100000000 := by have hw : w_LSFeature a = a.length + sumOf (fun y => w_SFeature y) a := rfl; omega
  have hnA : n_LSFeature a = sumOf (fun y => 5) a := rfl
  unfold laws_heldFeatureS
  refine loopN_ind (fun x => a.length - x.2.toNat) (fun x => ∃ (k : Nat), k ≤ a.length ∧ x = (k0 + ((sumOf (fun y => 5) (a.take k) : Nat) : Int), (k : Int)))
    (fun x r => r = some (k0 + ((n_LSFeature a : Nat) : Int))) ?_ n _ ⟨0, by omega, by simp [sumOf]⟩ (by simp; omega)
  rintro _ J ⟨k, hk, rfl⟩ ih
  by_cases h : k < a.length
  · have h' : k < p.length := by omega
    have s1 := sumOf_take_succ (f := fun y => 5) (d := dSFeature) h
    have s2 := sumOf_take_le (fun y => 5) a (k + 1)
    try simp only at s1
    have hmk := hm k h
    unfold Mk_LSFeature at hmk
    obtain ⟨kk, hkk⟩ : ∃ kk : Int, kk = k0 + ((sumOf (fun y => 5) (a.take k) : Nat) : Int) := ⟨_, rfl⟩
    rw [← hkk] at hmk
    try simp (disch := omega) only [Int.add_assoc, Int.reduceAdd] at hmk
    obtain ⟨e0, e1, e2, e3, e4⟩ := hmk
    have step : ∀ (K K2 : Int → Option Int) (J : Int → Int → Option Int), laws_heldFeatureS_L2 n K K2 J p kk (k : Int) = J (kk + 5) ((k : Int) + 1) := fun K K2 J => by
      unfold laws_heldFeatureS_L2
      simp (disch := omega) only [laws_heldFeatureS_k2, laws_heldFeatureS_k1, laws_heldFeatureS_k0, Int.ofNat_lt, h', decide_true, cond_true, ix_nat h', bd_eq, Int.toNat_natCast, w64_id, Int.add_assoc, Int.reduceAdd, Option.bind_some, Bool.not_true, cond_false, beq_self_eq_true, decide_eq_false_iff_not, Int.not_lt, bif_dec, if_neg, e0, e1, e2, e3, e4]
    dsimp only
    rw [← hkk]
    refine (step _ _ _).trans ?_
    exact ih (_, _) ⟨k + 1, h, Prod.ext (by dsimp only; omega) (by dsimp only; omega)⟩ (by dsimp only; omega)
  · have : k = a.length := by omega
    subst this
    unfold laws_heldFeatureS_L2
    simp only [hp, Int.lt_irrefl, decide_false, cond_false]
    rw [List.take_length]
    rfl
theorem laws_markFeatureS_ok {n : Nat} (a : List SFeature) (k0 : Int) (hk0 : 0 ≤ k0) (hb : k0 + ((n_LSFeature a : Nat) : Int) ≤ 900000000) (hw : w_LSFeature a ≤ 100000000) (hn : 1000000000 < n) : ∃ p : List SFeature, laws_markFeatureS n a k0 = some (k0 + ((n_LSFeature a : Nat) : Int), p) ∧ laws_heldFeatureS n p k0 = some (k0 + ((n_LSFeature a : Nat) : Int)) := by
  obtain ⟨p, h1, h2, h3⟩ := laws_markFeatureS_i (n := n) a k0 hk0 hb hw hn
  exact ⟨p, h1, laws_heldFeatureS_i a p h2 k0 hk0 hb hw hn h3⟩
theorem laws_markChart_ok {n : Nat} (a : SChart) (k0 : Int) (hk0 : 0 ≤ k0) (hb : k0 + ((n_LInt a.Depths + n_LSFeature a.Features : Nat) : Int) ≤ 900000000) (hw : w_SChart a ≤ 100000000) (hn : 1000000000 < n) : ∃ w0 w1, laws_markChart n a k0 = some (k0 + ((n_LInt a.Depths + n_LSFeature a.Features : Nat) : Int), w0, w1) ∧ ∀ b : SChart, b.Depths = w0 → b.Features = w1 → laws_heldChart n b k0 = some (k0 + ((n_LInt a.Depths + n_LSFeature a.Features : Nat) : Int)) := by
  have hww : w_SChart a = w_LInt a.Depths + w_LSFeature a.Features := rfl
  obtain ⟨w0, x0, y0⟩ := laws_markIntS_ok (n := n) a.Depths (k0) (by omega) (by omega) (by omega) hn
  obtain ⟨w1, x1, y1⟩ := laws_markFeatureS_ok (n := n) a.Features (k0 + (n_LInt a.Depths : Int)) (by omega) (by omega) (by omega) hn
  refine ⟨w0, w1, ?_, fun b g0 g1 => ?_⟩
  · unfold laws_markChart
    simp only [x0, x1, Option.bind_some]
    first | done | (congr 2; omega)
  · unfold laws_heldChart
    rw [g0, y0, Option.bind_some, bif_dec, if_neg (by omega)]
    rw [g1, y1, Option.bind_some, bif_dec, if_neg (by omega)]
    first | done | (congr 1; omega)
def Mk_LSNote (n : Nat) (k : Int) (a x : SNote) : Prop := x.Kind = k ∧ x.Id = k + 1 ∧ x.X = k + 2 ∧ x.Y = k + 3 ∧ x.Depth = k + 4 ∧ laws_markText n (k + 5) = some x.Text ∧ x.Sort_ = k + 6
def n_LSNote (a : List SNote) : Nat := sumOf (fun y => 7) a
theorem n_LSNote_eq (a : List SNote) : n_LSNote a = 7 * a.length := sumOf_const 7 a
theorem n_LSNote_le (a : List SNote) : n_LSNote a ≤ 7 * w_LSNote a := by
  have h := n_LSNote_eq a
  have h2 : w_LSNote a = a.length + sumOf (fun y : SNote => w_SNote y) a := rfl
  omega
theorem laws_markNoteS_i {n : Nat} (a : List SNote) (k0 : Int) (hk0 : 0 ≤ k0) (hb : k0 + ((n_LSNote a : Nat) : Int) ≤ 900000000) (hw : w_LSNote a ≤ 100000000) (hn : 1000000000 < n) :
    ∃ p : List SNote, laws_markNoteS n a k0 = some (k0 + ((n_LSNote a : Nat) : Int), p) ∧ p.length = a.length ∧ ∀ i, i < a.length → Mk_LSNote n (k0 + ((sumOf (fun y => 7) (a.take i) : Nat) : Int)) (a.getD i dSNote) (p.getD i dSNote) := by
  have hw0 : a.length ≤ 100000000 := by have hw : w_LSNote a = a.length + sumOf (fun y => w_SNote y) a := rfl; omega
  have hnA : n_LSNote a = sumOf (fun y => 7) a := rfl
  unfold laws_markNoteS
  refine loopN_ind (fun x => a.length - x.2.1.toNat) (fun x => ∃ (k : Nat) (p : List SNote), k ≤ a.length ∧ x = (k0 + ((sumOf (fun y => 7) (a.take k) : Nat) : Int), (k : Int), p) ∧ p.length = a.length ∧
      (∀ i, i < k → Mk_LSNote n (k0 + ((sumOf (fun y => 7) (a.take i) : Nat) : Int)) (a.getD i dSNote) (p.getD i dSNote)) ∧ ∀ i, k ≤ i → p.getD i dSNote = a.getD i dSNote)
    (fun x r => ∃ p : List SNote, r = some (k0 + ((n_LSNote a : Nat) : Int), p) ∧ p.length = a.length ∧ ∀ i, i < a.length → Mk_LSNote n (k0 + ((sumOf (fun y => 7) (a.take i) : Nat) : Int)) (a.getD i dSNote) (p.getD i dSNote)) ?_ n _ ⟨0, a, by omega, by simp [sumOf], rfl, by omega, fun _ _ => rfl⟩ (by simp; omega)
  rintro _ J ⟨k, p, hk, rfl, hp, hm, hrest⟩ ih
  by_cases h : k < a.length
  · have h' : k < p.length := by omega
    have s1 := sumOf_take_succ (f := fun y => 7) (d := dSNote) h
    have s2 := sumOf_take_le (fun y => 7) a (k + 1)
    try simp only at s1
    obtain ⟨kk, hkk⟩ : ∃ kk : Int, kk = k0 + ((sumOf (fun y => 7) (a.take k) : Nat) : Int) := ⟨_, rfl⟩
    have hpk := hrest k (Nat.le_refl _)
    have s3 := sumOf_mem (f := fun y => w_SNote y) (d := dSNote) h
    have hwx : w_LSNote a = a.length + sumOf (fun y => w_SNote y) a := rfl
    try simp only at s3
    have hwy : w_SNote (a.getD k dSNote) = ((a.getD k dSNote).Text).size := rfl
    obtain ⟨t0, ht0⟩ := laws_markText_ok (n := n) (kk + 5) (by omega) hn
    have step : ∀ (K : Int → List SNote → Option (Int × List SNote)) (J : Int → Int → List SNote → Option (Int × List SNote)), laws_markNoteS_L2 n K J kk (k : Int) p = J (kk + 7) ((k : Int) + 1) (p.set k (⟨(kk), (kk + 1), (kk + 2), (kk + 3), (kk + 4), (t0), (kk + 6)⟩ : SNote)) := fun K J => by
      unfold laws_markNoteS_L2
      simp (disch := omega) only [laws_markNoteS_k0, Int.ofNat_lt, h', decide_true, cond_true, ix_nat h', List.length_set, chk_of, chk_true, bd_eq, getD_set h', List.set_set, hpk, Int.toNat_natCast, w64_id, Int.add_assoc, Int.reduceAdd, Option.bind_some, ht0]
    dsimp only
    rw [← hkk]
    refine (congrArg (fun z => ∃ q : List SNote, z = some (k0 + ((n_LSNote a : Nat) : Int), q) ∧ q.length = a.length ∧ ∀ i, i < a.length → Mk_LSNote n (k0 + ((sumOf (fun y => 7) (a.take i) : Nat) : Int)) (a.getD i dSNote) (q.getD i dSNote)) (step _ _)).mpr ?_
    refine ih _ ⟨k + 1, _, h, Prod.ext (by dsimp only; omega) (Prod.ext (by dsimp only; omega) rfl), by simpa using hp, fun i hi => ?_, fun i hi => ?_⟩ (by dsimp only; omega)
    · by_cases e : i = k
      · subst e
        rw [getD_set h', ← hkk]
        unfold Mk_LSNote
        exact ⟨rfl, rfl, rfl, rfl, rfl, ht0, rfl⟩
      · rw [getD_set_ne e]
        exact hm i (by omega)
    · rw [getD_set_ne (by omega)]
      exact hrest i (by omega)
  · have : k = a.length := by omega
    subst this
    unfold laws_markNoteS_L2
    simp only [hp, Int.lt_irrefl, decide_false, cond_false]
    rw [List.take_length]
    exact ⟨p, rfl, hp, hm⟩
theorem laws_markNoteS_ok {n : Nat} (a : List SNote) (k0 : Int) (hk0 : 0 ≤ k0) (hb : k0 + ((n_LSNote a : Nat) : Int) ≤ 900000000) (hw : w_LSNote a ≤ 100000000) (hn : 1000000000 < n) : ∃ p : List SNote, laws_markNoteS n a k0 = some (k0 + ((n_LSNote a : Nat) : Int), p) := by
  obtain ⟨p, h1, h2, h3⟩ := laws_markNoteS_i (n := n) a k0 hk0 hb hw hn
  exact ⟨p, h1⟩
def Mk_LSUpdate (n : Nat) (k : Int) (a x : SUpdate) : Prop := x.Edition = k
def n_LSUpdate (a : List SUpdate) : Nat := sumOf (fun y => 1 + n_LSNote y.Notes) a
theorem n_LSUpdate_le (a : List SUpdate) : n_LSUpdate a ≤ 7 * w_LSUpdate a := by
  have h := sumOf_lin (f := fun y : SUpdate => 1 + n_LSNote y.Notes) (g := fun y : SUpdate => w_SUpdate y) (c := 7) (s := 1) (fun y => by have q0 := n_LSNote_le y.Notes; have hw : w_SUpdate y = w_LSNote y.Notes := rfl; show 1 + n_LSNote y.Notes ≤ 7 * (w_SUpdate y) + 1; omega) a
  have h1 : n_LSUpdate a = sumOf (fun y : SUpdate => 1 + n_LSNote y.Notes) a := rfl
  have h2 : w_LSUpdate a = a.length + sumOf (fun y : SUpdate => w_SUpdate y) a := rfl
  omega
theorem laws_markUpdateS_i {n : Nat} (a : List SUpdate) (k0 : Int) (hk0 : 0 ≤ k0) (hb : k0 + ((n_LSUpdate a : Nat) : Int) ≤ 900000000) (hw : w_LSUpdate a ≤ 100000000) (hn : 1000000000 < n) :
    ∃ p : List SUpdate, laws_markUpdateS n a k0 = some (k0 + ((n_LSUpdate a : Nat) : Int), p) ∧ p.length = a.length ∧ ∀ i, i < a.length → Mk_LSUpdate n (k0 + ((sumOf (fun y => 1 + n_LSNote y.Notes) (a.take i) : Nat) : Int)) (a.getD i dSUpdate) (p.getD i dSUpdate) := by
  have hw0 : a.length ≤ 100000000 := by have hw : w_LSUpdate a = a.length + sumOf (fun y => w_SUpdate y) a := rfl; omega
  have hnA : n_LSUpdate a = sumOf (fun y => 1 + n_LSNote y.Notes) a := rfl
  unfold laws_markUpdateS
  refine loopN_ind (fun x => a.length - x.2.1.toNat) (fun x => ∃ (k : Nat) (p : List SUpdate), k ≤ a.length ∧ x = (k0 + ((sumOf (fun y => 1 + n_LSNote y.Notes) (a.take k) : Nat) : Int), (k : Int), p) ∧ p.length = a.length ∧
      (∀ i, i < k → Mk_LSUpdate n (k0 + ((sumOf (fun y => 1 + n_LSNote y.Notes) (a.take i) : Nat) : Int)) (a.getD i dSUpdate) (p.getD i dSUpdate)) ∧ ∀ i, k ≤ i → p.getD i dSUpdate = a.getD i dSUpdate)
    (fun x r => ∃ p : List SUpdate, r = some (k0 + ((n_LSUpdate a : Nat) : Int), p) ∧ p.length = a.length ∧ ∀ i, i < a.length → Mk_LSUpdate n (k0 + ((sumOf (fun y => 1 + n_LSNote y.Notes) (a.take i) : Nat) : Int)) (a.getD i dSUpdate) (p.getD i dSUpdate)) ?_ n _ ⟨0, a, by omega, by simp [sumOf], rfl, by omega, fun _ _ => rfl⟩ (by simp; omega)
  rintro _ J ⟨k, p, hk, rfl, hp, hm, hrest⟩ ih
  by_cases h : k < a.length
  · have h' : k < p.length := by omega
    have s1 := sumOf_take_succ (f := fun y => 1 + n_LSNote y.Notes) (d := dSUpdate) h
    have s2 := sumOf_take_le (fun y => 1 + n_LSNote y.Notes) a (k + 1)
    try simp only at s1
    obtain ⟨kk, hkk⟩ : ∃ kk : Int, kk = k0 + ((sumOf (fun y => 1 + n_LSNote y.Notes) (a.take k) : Nat) : Int) := ⟨_, rfl⟩
    have hpk := hrest k (Nat.le_refl _)
    have s3 := sumOf_mem (f := fun y => w_SUpdate y) (d := dSUpdate) h
    have hwx : w_LSUpdate a = a.length + sumOf (fun y => w_SUpdate y) a := rfl
    try simp only at s3
    have hwy : w_SUpdate (a.getD k dSUpdate) = w_LSNote ((a.getD k dSUpdate).Notes) := rfl
    obtain ⟨t0, ht0⟩ := laws_markNoteS_ok (n := n) (a.getD k dSUpdate).Notes (kk + 1) (by omega) (by omega) (by omega) hn
    have step : ∀ (K : Int → List SUpdate → Option (Int × List SUpdate)) (J : Int → Int → List SUpdate → Option (Int × List SUpdate)), laws_markUpdateS_L2 n K J kk (k : Int) p = J (kk + 1 + ((n_LSNote ((a.getD k dSUpdate).Notes) : Nat) : Int)) ((k : Int) + 1) (p.set k (⟨(kk), (t0)⟩ : SUpdate)) := fun K J => by
      unfold laws_markUpdateS_L2
      simp (disch := omega) only [laws_markUpdateS_k0, Int.ofNat_lt, h', decide_true, cond_true, ix_nat h', List.length_set, chk_of, chk_true, bd_eq, getD_set h', List.set_set, hpk, Int.toNat_natCast, w64_id, Int.add_assoc, Int.reduceAdd, Option.bind_some, ht0]
    dsimp only
    rw [← hkk]
    refine (congrArg (fun z => ∃ q : List SUpdate, z = some (k0 + ((n_LSUpdate a : Nat) : Int), q) ∧ q.length = a.length ∧ ∀ i, i < a.length → Mk_LSUpdate n (k0 + ((sumOf (fun y => 1 + n_LSNote y.Notes) (a.take i) : Nat) : Int)) (a.getD i dSUpdate) (q.getD i dSUpdate)) (step _ _)).mpr ?_
    refine ih _ ⟨k + 1, _, h, Prod.ext (by dsimp only; omega) (Prod.ext (by dsimp only; omega) rfl), by simpa using hp, fun i hi => ?_, fun i hi => ?_⟩ (by dsimp only; omega)
    · by_cases e : i = k
      · subst e
        rw [getD_set h', ← hkk]
        unfold Mk_LSUpdate
        exact rfl
      · rw [getD_set_ne e]
        exact hm i (by omega)
    · rw [getD_set_ne (by omega)]
      exact hrest i (by omega)
  · have : k = a.length := by omega
    subst this
    unfold laws_markUpdateS_L2
    simp only [hp, Int.lt_irrefl, decide_false, cond_false]
    rw [List.take_length]
    exact ⟨p, rfl, hp, hm⟩
theorem laws_markUpdateS_ok {n : Nat} (a : List SUpdate) (k0 : Int) (hk0 : 0 ≤ k0) (hb : k0 + ((n_LSUpdate a : Nat) : Int) ≤ 900000000) (hw : w_LSUpdate a ≤ 100000000) (hn : 1000000000 < n) : ∃ p : List SUpdate, laws_markUpdateS n a k0 = some (k0 + ((n_LSUpdate a : Nat) : Int), p) := by
  obtain ⟨p, h1, h2, h3⟩ := laws_markUpdateS_i (n := n) a k0 hk0 hb hw hn
  exact ⟨p, h1⟩
end Go.Sm
end

section
set_option linter.unusedSimpArgs false
set_option linter.deprecated false
set_option linter.unusedSectionVars false
set_option linter.unusedVariables false
set_option linter.unusedSimpArgs false
namespace Go.Sm
attribute [local irreducible] bd chk ix loopN
theorem in_spec5 (n : Nat) (x a b : Int) : spec_l1In n x a b = some (decide (a ≤ x ∧ x ≤ b)) := by
  unfold spec_l1In
  by_cases h0 : a ≤ x <;> by_cases h1 : x ≤ b <;> simp [h0, h1]
theorem in_impl5 (n : Nat) (x a b : Int) : impl_in n x a b = some (decide (a ≤ x ∧ x ≤ b)) := by
  unfold impl_in
  by_cases h0 : a ≤ x <;> by_cases h1 : x ≤ b <;> simp [h0, h1]
def placeOk (c : SChart) (x y : Int) : Bool := decide (0 ≤ x ∧ x ≤ w64 (c.Wide - 1)) && decide (0 ≤ y ∧ y ≤ w64 (c.High - 1))
theorem place_spec (n : Nat) (c : SChart) (x y : Int) : spec_l6Place n c x y = some (placeOk c x y) := by
  unfold spec_l6Place placeOk
  simp only [in_spec5, bd_eq, Option.bind_some]
  cases decide (0 ≤ x ∧ x ≤ w64 (c.Wide - 1)) <;> rfl
theorem place_impl (n : Nat) (c : SChart) (x y : Int) : impl_Chart_place n c x y = some (placeOk c x y) := by
  unfold impl_Chart_place placeOk
  simp only [in_impl5, bd_eq, Option.bind_some]
  cases decide (0 ≤ x ∧ x ≤ w64 (c.Wide - 1)) <;> rfl
def featOk (c : SChart) (f : SFeature) : Bool := decide (1 ≤ f.Id ∧ f.Id ≤ 1000000) && (decide (1 ≤ f.Kind ∧ f.Kind ≤ 9) && (placeOk c f.X f.Y && decide ((f.Text.size : Int) ≤ 40)))
theorem feat_spec (n : Nat) (c : SChart) (f : SFeature) : spec_l6Feature n c f = some (featOk c f) := by
  unfold spec_l6Feature featOk
  simp only [in_spec5, place_spec, Option.bind_some]
  cases decide (1 ≤ f.Id ∧ f.Id ≤ 1000000) <;> cases decide (1 ≤ f.Kind ∧ f.Kind ≤ 9) <;> cases placeOk c f.X f.Y <;> rfl
theorem feat_impl (n : Nat) (c : SChart) (f : SFeature) : impl_Chart_featureOk n c f = some (featOk c f) := by
  unfold impl_Chart_featureOk featOk
  simp only [in_impl5, place_impl, Option.bind_some]
  cases decide (1 ≤ f.Id ∧ f.Id ≤ 1000000) <;> cases decide (1 ≤ f.Kind ∧ f.Kind ≤ 9) <;> cases placeOk c f.X f.Y <;> rfl
/-- The feature at i is right, and above the one before. -/
def featAt (c : SChart) (i : Nat) : Prop := featOk c (c.Features.getD i dSFeature) = true ∧ (0 < i → ¬ (c.Features.getD (i - 1) dSFeature).Id ≥ (c.Features.getD i dSFeature).Id)
instance (c : SChart) (i : Nat) : Decidable (featAt c i) := by unfold featAt; exact inferInstance
def featsOk (c : SChart) : Prop := ∀ i, i < c.Features.length → featAt c i
instance (c : SChart) : Decidable (featsOk c) := Nat.decidableBallLT _ _
def depthOk (d : Int) : Bool := decide (-1000 ≤ d ∧ d ≤ 10000)
def depthsOk (c : SChart) : Prop := ∀ i, i < c.Depths.length → depthOk (c.Depths.getD i 0) = true
instance (c : SChart) : Decidable (depthsOk c) := Nat.decidableBallLT _ _
theorem feats_spec {n : Nat} (c : SChart) (kr : Bool → Option Bool) (hk : kr = fun t => some t) (hl : c.Features.length ≤ 1048576) (hn : 1000000000 < n) :
    loopN (fun (x : Int) J' => spec_ChartOk_L9 n (some true) kr J' x c) n (0 : Int) = some (decide (featsOk c)) := by
  subst hk
  refine loopN_ind (fun x => c.Features.length - x.toNat) (fun x => ∃ k : Nat, k ≤ c.Features.length ∧ x = (k : Int) ∧ ∀ i, i < k → featAt c i) (fun x r => r = some (decide (featsOk c))) ?_ n _ ⟨0, by omega, rfl, by omega⟩ (by simp; omega)
  rintro _ J ⟨k, hk, rfl, hg⟩ ih
  unfold spec_ChartOk_L9
  by_cases h : k < c.Features.length
  · simp only [Int.ofNat_lt, h, decide_true, cond_true]
    unfold spec_ChartOk_k0
    simp only [ix_nat h, Int.toNat_natCast, bd_eq, feat_spec, Option.bind_some, bif_not]
    have hbad : ¬ featAt c k → some (decide (featsOk c)) = some false := fun hb => by rw [decide_eq_false (fun hf : featsOk c => hb (hf k h))]
    have hgo : featAt c k → J ((k + 1 : Nat) : Int) = some (decide (featsOk c)) := fun hf => ih _ ⟨k + 1, h, rfl, fun i hi => by
      by_cases e : i = k
      · rw [e]; exact hf
      · exact hg i (by omega)⟩ (by simp; omega)
    cases h1 : featOk c (c.Features.getD k dSFeature) with
    | false =>
      rw [hbad (fun hf => by rw [hf.1] at h1; cases h1)]
      rfl
    | true =>
      rw [cond_true]
      by_cases h0 : 0 < k
      · have e0 : decide ((k : Int) > 0) = true := decide_eq_true (by omega)
        have e1 : w64 ((k : Int) - 1) = ((k - 1 : Nat) : Int) := by rw [w64_id (by omega) (by omega)]; omega
        rw [e0, cond_true, e1, ix_nat (by omega), Int.toNat_natCast, bif_dec, w64_succ (by omega)]
        split
        · rename_i h2
          rw [hbad (fun hf => hf.2 h0 h2)]
        · rename_i h2
          exact hgo ⟨h1, fun _ => h2⟩
      · have e0 : decide ((k : Int) > 0) = false := decide_eq_false (by omega)
        rw [e0, cond_false, w64_succ (by omega)]
        exact hgo ⟨h1, fun h => absurd h h0⟩
  · have : k = c.Features.length := by omega
    subst this
    simp only [Int.lt_irrefl, decide_false, cond_false]
    rw [decide_eq_true (show featsOk c from hg)]
theorem feats_impl {n : Nat} (c : SChart) (hl : c.Features.length ≤ 1048576) (hn : 1000000000 < n) :
    loopN (fun (x : Int) J' => impl_ChartOk_L4 n (some true) (fun t => some t) J' c.Features (c.Features.length : Int) x c) n (0 : Int) = some (decide (featsOk c)) := by
  refine loopN_ind (fun x => c.Features.length - x.toNat) (fun x => ∃ k : Nat, k ≤ c.Features.length ∧ x = (k : Int) ∧ ∀ i, i < k → featAt c i) (fun x r => r = some (decide (featsOk c))) ?_ n _ ⟨0, by omega, rfl, by omega⟩ (by simp; omega)
  rintro _ J ⟨k, hk, rfl, hg⟩ ih
  unfold impl_ChartOk_L4
  by_cases h : k < c.Features.length
  · simp only [Int.ofNat_lt, h, decide_true, cond_true]
    unfold impl_ChartOk_k0
    simp only [ix_nat h, Int.toNat_natCast, bd_eq, feat_impl, Option.bind_some, bif_not]
    have hbad : ¬ featAt c k → some (decide (featsOk c)) = some false := fun hb => by rw [decide_eq_false (fun hf : featsOk c => hb (hf k h))]
    have hgo : featAt c k → J ((k + 1 : Nat) : Int) = some (decide (featsOk c)) := fun hf => ih _ ⟨k + 1, h, rfl, fun i hi => by
      by_cases e : i = k
      · rw [e]; exact hf
      · exact hg i (by omega)⟩ (by simp; omega)
    cases h1 : featOk c (c.Features.getD k dSFeature) with
    | false =>
      rw [hbad (fun hf => by rw [hf.1] at h1; cases h1)]
      rfl
    | true =>
      rw [cond_true]
      by_cases h0 : 0 < k
      · have e0 : decide ((k : Int) > 0) = true := decide_eq_true (by omega)
        have e1 : w64 ((k : Int) - 1) = ((k - 1 : Nat) : Int) := by rw [w64_id (by omega) (by omega)]; omega
        rw [e0, cond_true, e1, ix_nat (by omega), Int.toNat_natCast, bif_dec, w64_succ (by omega)]
        split
        · rename_i h2
          rw [hbad (fun hf => hf.2 h0 h2)]
        · rename_i h2
          exact hgo ⟨h1, fun _ => h2⟩
      · have e0 : decide ((k : Int) > 0) = false := decide_eq_false (by omega)
        rw [e0, cond_false, w64_succ (by omega)]
        exact hgo ⟨h1, fun h => absurd h h0⟩
  · have : k = c.Features.length := by omega
    subst this
    simp only [Int.lt_irrefl, decide_false, cond_false]
    rw [decide_eq_true (show featsOk c from hg)]
theorem depths_spec {n : Nat} (c : SChart) (kx : Option Bool) (hl : c.Depths.length ≤ 1048576) (hn : 1000000000 < n) :
    loopN (fun (x : Int) J' => spec_ChartOk_L4 n kx (fun t => some t) J' x c) n (0 : Int) = if depthsOk c then kx else some false := by
  refine loopN_ind (fun x => c.Depths.length - x.toNat) (fun x => ∃ k : Nat, k ≤ c.Depths.length ∧ x = (k : Int) ∧ ∀ i, i < k → depthOk (c.Depths.getD i 0) = true) (fun x r => r = if depthsOk c then kx else some false) ?_ n _ ⟨0, by omega, rfl, by omega⟩ (by simp; omega)
  rintro _ J ⟨k, hk, rfl, hg⟩ ih
  unfold spec_ChartOk_L4 spec_l6Depth
  by_cases h : k < c.Depths.length
  · simp only [Int.ofNat_lt, h, decide_true, cond_true, ix_nat h, Int.toNat_natCast, bd_eq, in_spec5, Option.bind_some, bif_not]
    cases h1 : depthOk (c.Depths.getD k 0) with
    | false =>
      rw [if_neg (fun hf : depthsOk c => by rw [hf k h] at h1; cases h1)]
      rw [depthOk] at h1
      rw [h1]
      rfl
    | true =>
      have h1' := h1
      rw [depthOk] at h1'
      rw [h1', cond_true, w64_succ (by omega)]
      exact ih _ ⟨k + 1, h, rfl, fun i hi => by
        by_cases e : i = k
        · rw [e]; exact h1
        · exact hg i (by omega)⟩ (by simp; omega)
  · have : k = c.Depths.length := by omega
    subst this
    simp only [Int.lt_irrefl, decide_false, cond_false]
    rw [if_pos (show depthsOk c from hg)]
theorem all_impl {n : Nat} (c : SChart) (hl : c.Depths.length ≤ 1048576) (hn : 1000000000 < n) : impl_all n c.Depths (-1000) 10000 = some (decide (depthsOk c)) := by
  unfold impl_all slices_ContainsFunc_int_int__impl_all_1
  have : ∃ r, slices_IndexFunc_int_int__impl_all_1 n c.Depths (-1000) 10000 = some r ∧ decide (r ≥ 0) = !decide (depthsOk c) := by
    unfold slices_IndexFunc_int_int__impl_all_1
    refine loopN_ind (fun x => c.Depths.length - x.toNat) (fun x => ∃ k : Nat, k ≤ c.Depths.length ∧ x = (k : Int) ∧ ∀ i, i < k → depthOk (c.Depths.getD i 0) = true) (fun x r => ∃ r', r = some r' ∧ decide (r' ≥ 0) = !decide (depthsOk c)) ?_ n _ ⟨0, by omega, rfl, by omega⟩ (by simp; omega)
    rintro _ J ⟨k, hk, rfl, hg⟩ ih
    unfold slices_IndexFunc_int_int__impl_all_1_L2 impl_all_1
    by_cases h : k < c.Depths.length
    · simp only [Int.ofNat_lt, h, decide_true, cond_true, ix_nat h, Int.toNat_natCast, in_impl5, Option.bind_some, bif_not]
      cases h1 : depthOk (c.Depths.getD k 0) with
      | false =>
        have h2 : decide (depthsOk c) = false := decide_eq_false (fun hf : depthsOk c => by rw [hf k h] at h1; cases h1)
        rw [depthOk] at h1
        rw [h1, h2]
        exact ⟨_, rfl, by simp⟩
      | true =>
        have h1' := h1
        rw [depthOk] at h1'
        rw [h1', cond_true, w64_succ (by omega)]
        exact ih _ ⟨k + 1, h, rfl, fun i hi => by
          by_cases e : i = k
          · rw [e]; exact h1
          · exact hg i (by omega)⟩ (by simp; omega)
    · have : k = c.Depths.length := by omega
      subst this
      simp only [Int.lt_irrefl, decide_false, cond_false]
      exact ⟨_, rfl, by rw [decide_eq_true (show depthsOk c from hg)]; rfl⟩
  obtain ⟨r, h1, h2⟩ := this
  rw [h1]
  simp only [Option.bind_some, h2, Bool.not_not]
def chOk (c : SChart) : Prop := (1 ≤ c.Wide ∧ c.Wide ≤ 12) ∧ (1 ≤ c.High ∧ c.High ≤ 12) ∧ (c.Depths.length : Int) = w64 (c.Wide * c.High) ∧ (c.Features.length : Int) ≤ 30 ∧ (0 ≤ c.Edition ∧ c.Edition ≤ 1000000) ∧ depthsOk c ∧ featsOk c
instance (c : SChart) : Decidable (chOk c) := by unfold chOk; exact inferInstance
theorem ch_spec {n : Nat} (c : SChart) (h1 : c.Depths.length ≤ 1048576) (h2 : c.Features.length ≤ 1048576) (hn : 1000000000 < n) : spec_ChartOk n c = some (decide (chOk c)) := by
  unfold spec_ChartOk
  simp only [in_spec5, Option.bind_some, bif_not, bd_eq, bif_dec, feats_spec c _ rfl h2 hn, depths_spec c _ h1 hn]
  by_cases a1 : 1 ≤ c.Wide ∧ c.Wide ≤ 12
  · by_cases a2 : 1 ≤ c.High ∧ c.High ≤ 12
    · by_cases a3 : (c.Depths.length : Int) = w64 (c.Wide * c.High)
      · by_cases a4 : (c.Features.length : Int) ≤ 30
        · by_cases a5 : 0 ≤ c.Edition ∧ c.Edition ≤ 1000000
          · by_cases a6 : depthsOk c
            · rw [if_pos a1, if_pos a2, if_pos a3, if_neg (by omega), if_pos a5, if_pos a6]
              exact congrArg some (decide_eq_decide.2 ⟨fun h => ⟨a1, a2, a3, a4, a5, a6, h⟩, fun h => h.2.2.2.2.2.2⟩)
            · rw [if_pos a1, if_pos a2, if_pos a3, if_neg (by omega), if_pos a5, if_neg a6, decide_eq_false (fun h : chOk c => a6 h.2.2.2.2.2.1)]
          · rw [if_pos a1, if_pos a2, if_pos a3, if_neg (by omega), if_neg a5, decide_eq_false (fun h : chOk c => a5 h.2.2.2.2.1)]
        · rw [if_pos a1, if_pos a2, if_pos a3, if_pos (by omega), decide_eq_false (fun h : chOk c => a4 h.2.2.2.1)]
      · rw [if_pos a1, if_pos a2, if_neg a3, decide_eq_false (fun h : chOk c => a3 h.2.2.1)]
    · rw [if_pos a1, if_neg a2, decide_eq_false (fun h : chOk c => a2 h.2.1)]
  · rw [if_neg a1, decide_eq_false (fun h : chOk c => a1 h.1)]
theorem ch_impl {n : Nat} (c : SChart) (h1 : c.Depths.length ≤ 1048576) (h2 : c.Features.length ≤ 1048576) (hn : 1000000000 < n) : impl_ChartOk n c = some (decide (chOk c)) := by
  unfold impl_ChartOk
  simp only [in_impl5, Option.bind_some, bif_not, bd_eq, bif_dec, feats_impl c h2 hn, all_impl c h1 hn]
  by_cases a1 : 1 ≤ c.Wide ∧ c.Wide ≤ 12
  · by_cases a2 : 1 ≤ c.High ∧ c.High ≤ 12
    · by_cases a3 : (c.Depths.length : Int) = w64 (c.Wide * c.High)
      · by_cases a6 : depthsOk c
        · by_cases a4 : (c.Features.length : Int) ≤ 30
          · by_cases a5 : 0 ≤ c.Edition ∧ c.Edition ≤ 1000000
            · rw [if_pos a1, if_pos a2, if_pos a3, if_pos a6, if_neg (by omega), if_pos a5]
              exact congrArg some (decide_eq_decide.2 ⟨fun h => ⟨a1, a2, a3, a4, a5, a6, h⟩, fun h => h.2.2.2.2.2.2⟩)
            · rw [if_pos a1, if_pos a2, if_pos a3, if_pos a6, if_neg (by omega), if_neg a5, decide_eq_false (fun h : chOk c => a5 h.2.2.2.2.1)]
          · rw [if_pos a1, if_pos a2, if_pos a3, if_pos a6, if_pos (by omega), decide_eq_false (fun h : chOk c => a4 h.2.2.2.1)]
        · rw [if_pos a1, if_pos a2, if_pos a3, if_neg a6, decide_eq_false (fun h : chOk c => a6 h.2.2.2.2.2.1)]
      · rw [if_pos a1, if_pos a2, if_neg a3, decide_eq_false (fun h : chOk c => a3 h.2.2.1)]
    · rw [if_pos a1, if_neg a2, decide_eq_false (fun h : chOk c => a2 h.2.1)]
  · rw [if_neg a1, decide_eq_false (fun h : chOk c => a1 h.1)]
end Go.Sm
end

section
set_option linter.unusedSimpArgs false
set_option linter.deprecated false
set_option linter.unusedSectionVars false
set_option linter.unusedVariables false
set_option linter.unusedSimpArgs false
namespace Go.Sm
attribute [local irreducible] bd chk ix loopN
def findF (l : List SFeature) (id : Int) : Int := idxOf (fun k => decide ((l.getD k dSFeature).Id = id)) l.length
/-! ### A lot put in its place -/
def cutF (l : List SFeature) (id : Int) : Nat := (l.takeWhile fun y => decide (y.Id < id)).length
def putFeat (l : List SFeature) (x : SFeature) : List SFeature := l.take (cutF l x.Id) ++ x :: l.drop (cutF l x.Id)
theorem cutF_le (l : List SFeature) (id : Int) : cutF l id ≤ l.length := by
  unfold cutF
  induction l with
  | nil => simp
  | cons a l ih =>
    rw [List.takeWhile_cons]
    split
    · simp; omega
    · simp
theorem cutF_lt (l : List SFeature) (id : Int) : ∀ k, k < cutF l id → (l.getD k dSFeature).Id < id := by
  unfold cutF
  induction l with
  | nil => intro k hk; simp at hk
  | cons a l ih =>
    intro k hk
    rw [List.takeWhile_cons] at hk
    split at hk
    · rename_i h
      cases k with
      | zero => simpa using h
      | succ k =>
        have := ih k (by simpa using hk)
        simpa using this
    · simp at hk
theorem cutF_ge (l : List SFeature) (id : Int) (h : cutF l id < l.length) : ¬ (l.getD (cutF l id) dSFeature).Id < id := by
  unfold cutF at *
  induction l with
  | nil => simp at h
  | cons a l ih =>
    rw [List.takeWhile_cons] at h ⊢
    split
    · rename_i hc
      rw [if_pos hc] at h
      have := ih (by simpa using h)
      simpa using this
    · rename_i hc
      simpa using hc
/-! ### A lot put in by a sort -/
def incF (l : List SFeature) : Prop := ∀ i j, i < j → j < l.length → (l.getD i dSFeature).Id < (l.getD j dSFeature).Id
def rngF (l : List SFeature) : Prop := ∀ y ∈ l, 1 ≤ y.Id ∧ y.Id ≤ 1000000
theorem inc_pairwise {l : List SFeature} (h : incF l) : l.Pairwise fun a b => a.Id < b.Id := by
  rw [List.pairwise_iff_getElem]
  intro i j hi hj hij
  have := h i j hij hj
  rwa [getD_eq hi, getD_eq hj] at this
theorem find_neg {l : List SFeature} {id : Int} (h : ¬ findF l id ≥ 0) : ∀ y ∈ l, y.Id ≠ id := by
  intro y hy he
  obtain ⟨k, hk, rfl⟩ := List.mem_iff_getElem.1 hy
  have := idxOf_ge (fun k => decide ((l.getD k dSFeature).Id = id)) l.length
  rw [show decide (idxOf (fun k => decide ((l.getD k dSFeature).Id = id)) l.length ≥ 0) = false from decide_eq_false h] at this
  rw [any_range_of hk (by rw [getD_eq hk]; exact decide_eq_true he)] at this
  cases this
theorem with_pairwise {l : List SFeature} {x : SFeature} (h : incF l) (hx : ∀ y ∈ l, y.Id ≠ x.Id) : (putFeat l x).Pairwise fun a b => a.Id < b.Id := by
  unfold putFeat
  have hp := inc_pairwise h
  rw [List.pairwise_append]
  refine ⟨hp.sublist (List.take_sublist _ _), ?_, ?_⟩
  · rw [List.pairwise_cons]
    refine ⟨fun y hy => ?_, hp.sublist (List.drop_sublist _ _)⟩
    obtain ⟨k, hk, rfl⟩ := List.mem_iff_getElem.1 hy
    have hk2 : cutF l x.Id + k < l.length := by simp at hk; omega
    have h0 : ¬ (l.getD (cutF l x.Id) dSFeature).Id < x.Id := cutF_ge l x.Id (by omega)
    have h1 : (l.getD (cutF l x.Id) dSFeature).Id ≤ (l.getD (cutF l x.Id + k) dSFeature).Id := by
      cases k with
      | zero => exact Int.le_refl _
      | succ k => have := h (cutF l x.Id) (cutF l x.Id + (k + 1)) (by omega) hk2; omega
    rw [List.getElem_drop]
    have h2 := hx _ (List.getElem_mem hk2)
    rw [getD_eq hk2] at h1
    omega
  · intro a ha b hb
    obtain ⟨k, hk, rfl⟩ := List.mem_iff_getElem.1 ha
    have hk2 : k < cutF l x.Id ∧ k < l.length := by simp at hk; omega
    have h1 := cutF_lt l x.Id k hk2.1
    rw [List.getElem_take]
    rw [getD_eq hk2.2] at h1
    rcases List.mem_cons.1 hb with rfl | hb
    · exact h1
    · obtain ⟨j, hj, rfl⟩ := List.mem_iff_getElem.1 hb
      have hj2 : cutF l x.Id + j < l.length := by simp at hj; omega
      rw [List.getElem_drop]
      have := h k (cutF l x.Id + j) (by omega) hj2
      rwa [getD_eq hk2.2, getD_eq hj2] at this
theorem with_perm (l : List SFeature) (x : SFeature) : (putFeat l x).Perm (l ++ [x]) := by
  unfold putFeat
  refine (List.perm_middle).trans ?_
  rw [List.take_append_drop]
  exact (List.perm_append_singleton x l).symm
theorem put_sorted {n : Nat} {l : List SFeature} {x : SFeature} (hl : l.length ≤ 1000000) (hi : incF l) (hr : rngF l) (hxr : 1 ≤ x.Id ∧ x.Id ≤ 1000000) (hx : ∀ y ∈ l, y.Id ≠ x.Id) :
    slices_SortFunc_impl_Feature_impl_Feature__impl_Chart_note_2 n (l ++ [x]) = some (putFeat l x) := by
  unfold slices_SortFunc_impl_Feature_impl_Feature__impl_Chart_note_2
  have hm : ∀ y ∈ l ++ [x], 1 ≤ y.Id ∧ y.Id ≤ 1000000 := fun y hy => by
    rcases List.mem_append.1 hy with h | h
    · exact hr y h
    · simp at h; subst h; exact hxr
  obtain ⟨l', h1, h2, h3⟩ := sortL_ok (d := dSFeature) (cmp := fun a b => impl_Chart_note_2 n a b) (cf := fun a b => a.Id - b.Id) (l := l ++ [x])
    (fun a ha b hb => by
      have := hm a ha; have := hm b hb
      unfold impl_Chart_note_2
      rw [w64_id (by omega) (by omega)])
    (fun a _ => by omega) (fun a _ b _ c _ _ _ => by omega) (fun a _ b _ c _ _ _ => by omega) (by simp; omega)
  rw [h1]
  congr 1
  have hw := with_pairwise hi hx
  refine List.Perm.eq_of_pairwise (le := fun a b => a.Id ≤ b.Id) ?_ (h3.imp fun h => by omega) (hw.imp fun h => by omega) (h2.trans (with_perm l x).symm)
  intro a b ha hb h4 h5
  have hab : a.Id = b.Id := by omega
  have ha' : a ∈ putFeat l x := (with_perm l x).symm.subset (h2.subset ha)
  obtain ⟨i, hi', rfl⟩ := List.mem_iff_getElem.1 ha'
  obtain ⟨j, hj', rfl⟩ := List.mem_iff_getElem.1 hb
  rcases Nat.lt_trichotomy i j with h | h | h
  · have := List.pairwise_iff_getElem.1 hw i j hi' hj' h; omega
  · subst h; rfl
  · have := List.pairwise_iff_getElem.1 hw j i hj' hi' h; omega
end Go.Sm
end

section
set_option linter.unusedSimpArgs false
set_option linter.deprecated false
set_option linter.unusedSectionVars false
set_option linter.unusedVariables false
set_option linter.unusedSimpArgs false
namespace Go.Sm
attribute [local irreducible] bd chk ix loopN
theorem findF_spec {n : Nat} (c : SChart) (id : Int) (hl : c.Features.length ≤ 1048576) (hn : 1000000000 < n) : spec_l6Find n c id = some (findF c.Features id) := by
  unfold spec_l6Find
  refine loop_idx (len := c.Features.length) (p := fun k => decide ((c.Features.getD k dSFeature).Id = id)) (by omega) (fun k J hk _ => ?_) (fun J _ => ?_) (by omega)
  · unfold spec_l6Find_L2
    simp only [Int.ofNat_lt, hk, decide_true, cond_true, ix_nat hk, bd_eq, Int.toNat_natCast, w64_succ (show k < 9223372036854775807 by omega)]
  · unfold spec_l6Find_L2
    simp only [Int.lt_irrefl, decide_false, cond_false]
theorem findF_impl {n : Nat} (l : List SFeature) (nt : SNote) (hl : l.length ≤ 1048576) (hn : 1000000000 < n) : slices_IndexFunc_impl_Feature_impl_Feature__impl_Chart_note_1 n l nt = some (findF l nt.Id) := by
  unfold slices_IndexFunc_impl_Feature_impl_Feature__impl_Chart_note_1
  rw [loop_idx (len := l.length) (p := fun k => decide ((l.getD k dSFeature).Id = nt.Id)) (by omega) (fun k J hk _ => ?_) (fun J _ => ?_) (by omega)]
  · rfl
  · unfold slices_IndexFunc_impl_Feature_impl_Feature__impl_Chart_note_1_L2 impl_Chart_note_1
    simp only [Int.ofNat_lt, hk, decide_true, cond_true, ix_nat hk, bd_eq, Int.toNat_natCast, Option.bind_some, w64_succ (show k < 9223372036854775807 by omega)]
  · unfold slices_IndexFunc_impl_Feature_impl_Feature__impl_Chart_note_1_L2
    simp only [Int.lt_irrefl, decide_false, cond_false]
theorem findF_cases (l : List SFeature) (id : Int) : findF l id = -1 ∨ ∃ k : Nat, findF l id = (k : Int) ∧ k < l.length := by
  unfold findF
  rcases idxOf_spec (fun k => decide ((l.getD k dSFeature).Id = id)) l.length with ⟨h, _⟩ | ⟨k, h, hk, _⟩
  · exact .inl h
  · exact .inr ⟨k, h, hk⟩
/-- What a chart is while notes are done on it. -/
structure CI (c : SChart) : Prop where
  wide : 1 ≤ c.Wide ∧ c.Wide ≤ 12
  high : 1 ≤ c.High ∧ c.High ≤ 12
  dep : (c.Depths.length : Int) = c.Wide * c.High
  len : c.Features.length ≤ 30
  inc : incF c.Features
  ids : rngF c.Features
theorem CI.dl {c : SChart} (h : CI c) : c.Depths.length ≤ 144 := by
  have h1 : c.Wide * c.High ≤ 12 * 12 := Int.mul_le_mul h.wide.2 h.high.2 (by have := h.high; omega) (by omega)
  have := h.dep
  omega
theorem ci_of {c : SChart} (h : chOk c) : CI c := by
  obtain ⟨h1, h2, h3, h4, _, _, h7⟩ := h
  have h5 : c.Wide * c.High ≤ 12 * 12 := Int.mul_le_mul h1.2 h2.2 (by omega) (by omega)
  have h6 : 0 ≤ c.Wide * c.High := Int.mul_nonneg (by omega) (by omega)
  refine ⟨h1, h2, by rw [h3, w64_id (by omega) (by omega)], by omega, fun i j hij hj => ?_, fun y hy => ?_⟩
  · have key : ∀ j i, i < j → j < c.Features.length → (c.Features.getD i dSFeature).Id < (c.Features.getD j dSFeature).Id := by
      intro j
      induction j with
      | zero => intro i hi; exact absurd hi (Nat.not_lt_zero _)
      | succ j ih =>
        intro i hi hj
        have h1 := (h7 (j + 1) hj).2 (by omega)
        simp only [Nat.add_sub_cancel] at h1
        by_cases e : i = j
        · rw [e]; omega
        · have := ih i (by omega) (by omega)
          omega
    exact key j i hij hj
  · obtain ⟨i, hi, rfl⟩ := List.getElem_of_mem hy
    have h3 := (h7 i hi).1
    rw [getD_eq hi] at h3
    unfold featOk at h3
    simp only [Bool.and_eq_true, decide_eq_true_eq] at h3
    exact h3.1
def noteF (nt : SNote) : SFeature := ⟨nt.Id, nt.Sort_, nt.X, nt.Y, nt.Text⟩
def dIx (c : SChart) (nt : SNote) : Nat := (nt.Y * c.Wide + nt.X).toNat
def noteR (c : SChart) (nt : SNote) : SChart × Bool :=
  bif decide (nt.Kind = 1) then (bif featOk c (noteF nt) && (decide (findF c.Features nt.Id < 0) && decide (c.Features.length < 30)) then (⟨c.Wide, c.High, c.Depths, putFeat c.Features (noteF nt), c.Edition⟩, true) else (c, false))
  else bif decide (nt.Kind = 2) then (bif decide (findF c.Features nt.Id < 0) then (c, false) else (⟨c.Wide, c.High, c.Depths, c.Features.take (findF c.Features nt.Id).toNat ++ c.Features.drop ((findF c.Features nt.Id).toNat + 1), c.Edition⟩, true))
  else bif decide (nt.Kind = 3) then (bif !decide (findF c.Features nt.Id < 0) && placeOk c nt.X nt.Y then (⟨c.Wide, c.High, c.Depths, c.Features.set (findF c.Features nt.Id).toNat ⟨(c.Features.getD (findF c.Features nt.Id).toNat dSFeature).Id, (c.Features.getD (findF c.Features nt.Id).toNat dSFeature).Kind, nt.X, nt.Y, (c.Features.getD (findF c.Features nt.Id).toNat dSFeature).Text⟩, c.Edition⟩, true) else (c, false))
  else bif decide (nt.Kind = 4) then (bif placeOk c nt.X nt.Y && depthOk nt.Depth then (⟨c.Wide, c.High, c.Depths.set (dIx c nt) nt.Depth, c.Features, c.Edition⟩, true) else (c, false))
  else (c, false)
theorem dIx_ok {c : SChart} (h : CI c) {nt : SNote} (hp : placeOk c nt.X nt.Y = true) : w64 (w64 (nt.Y * c.Wide) + nt.X) = (dIx c nt : Int) ∧ dIx c nt < c.Depths.length := by
  have h1 := h.wide
  have h2 := h.high
  have h3 := h.dep
  unfold placeOk at hp
  rw [w64_id (by omega) (by omega), w64_id (by omega) (by omega)] at hp
  simp only [Bool.and_eq_true, decide_eq_true_eq] at hp
  have m1 : nt.Y * c.Wide ≤ (c.High - 1) * c.Wide := Int.mul_le_mul_of_nonneg_right (by omega) (by omega)
  have m2 : 0 ≤ nt.Y * c.Wide := Int.mul_nonneg (by omega) (by omega)
  have m3 : (c.High - 1) * c.Wide = c.Wide * c.High - c.Wide := by rw [Int.sub_mul, Int.one_mul, Int.mul_comm]
  have m4 := h.dl
  unfold dIx
  rw [w64_id (x := nt.Y * c.Wide) (by omega) (by omega), w64_id (by omega) (by omega)]
  omega
theorem putFeat_len (l : List SFeature) (x : SFeature) : (putFeat l x).length = l.length + 1 := by
  have := (with_perm l x).length_eq
  simpa using this
theorem pairwise_inc {l : List SFeature} (h : l.Pairwise fun a b => a.Id < b.Id) : incF l := fun i j hij hj => by
  have := List.pairwise_iff_getElem.1 h i j (by omega) hj hij
  rwa [getD_eq (show i < l.length by omega), getD_eq hj]
theorem featOk_id {c : SChart} {f : SFeature} (h : featOk c f = true) : 1 ≤ f.Id ∧ f.Id ≤ 1000000 := by
  unfold featOk at h
  simp only [Bool.and_eq_true, decide_eq_true_eq] at h
  exact h.1
theorem note_ci {c : SChart} (h : CI c) (nt : SNote) : CI (noteR c nt).1 ∧ (noteR c nt).1.Edition = c.Edition := by
  unfold noteR
  cases decide (nt.Kind = 1) with
  | true =>
    rw [cond_true]
    cases hc : featOk c (noteF nt) && (decide (findF c.Features nt.Id < 0) && decide (c.Features.length < 30)) with
    | false => exact ⟨h, rfl⟩
    | true =>
      simp only [Bool.and_eq_true, decide_eq_true_eq] at hc
      have hx := find_neg (l := c.Features) (id := nt.Id) (by omega)
      refine ⟨⟨h.wide, h.high, h.dep, ?_, ?_, fun y hy => ?_⟩, rfl⟩
      · show (putFeat _ _).length ≤ 30
        rw [putFeat_len]
        omega
      · exact pairwise_inc (with_pairwise h.inc hx)
      · have := (with_perm c.Features (noteF nt)).subset hy
        rcases List.mem_append.1 this with h1 | h1
        · exact h.ids y h1
        · rw [List.mem_singleton.1 h1]
          exact featOk_id hc.1
  | false =>
    rw [cond_false]
    cases decide (nt.Kind = 2) with
    | true =>
      rw [cond_true]
      cases decide (findF c.Features nt.Id < 0) with
      | true => exact ⟨h, rfl⟩
      | false =>
        have hp := inc_pairwise h.inc
        refine ⟨⟨h.wide, h.high, h.dep, ?_, ?_, fun y hy => ?_⟩, rfl⟩
        · show (_ ++ _ : List SFeature).length ≤ 30
          have := h.len
          rw [List.length_append, List.length_take, List.length_drop]
          omega
        · refine pairwise_inc (hp.sublist ?_)
          have e : c.Features = c.Features.take (findF c.Features nt.Id).toNat ++ c.Features.drop (findF c.Features nt.Id).toNat := (List.take_append_drop _ _).symm
          conv => rhs; rw [e]
          refine List.Sublist.append (List.Sublist.refl _) ?_
          rw [← List.drop_drop]
          exact List.drop_sublist _ _
        · rcases List.mem_append.1 hy with h1 | h1
          · exact h.ids y (List.mem_of_mem_take h1)
          · exact h.ids y (List.mem_of_mem_drop h1)
    | false =>
      rw [cond_false]
      cases decide (nt.Kind = 3) with
      | true =>
        rw [cond_true]
        cases !decide (findF c.Features nt.Id < 0) && placeOk c nt.X nt.Y with
        | false => exact ⟨h, rfl⟩
        | true =>
          have hid : ∀ j, ((c.Features.set (findF c.Features nt.Id).toNat ⟨(c.Features.getD (findF c.Features nt.Id).toNat dSFeature).Id, (c.Features.getD (findF c.Features nt.Id).toNat dSFeature).Kind, nt.X, nt.Y, (c.Features.getD (findF c.Features nt.Id).toNat dSFeature).Text⟩).getD j dSFeature).Id = (c.Features.getD j dSFeature).Id := fun j => by
            by_cases e : j = (findF c.Features nt.Id).toNat
            · by_cases hl : j < c.Features.length
              · rw [← e, getD_set hl]
              · rw [List.set_eq_of_length_le (by omega)]
            · rw [getD_set_ne e]
          refine ⟨⟨h.wide, h.high, h.dep, ?_, fun i j hij hj => ?_, fun y hy => ?_⟩, rfl⟩
          · show (List.set _ _ _).length ≤ 30
            rw [List.length_set]
            exact h.len
          · change j < (List.set _ _ _).length at hj
            rw [List.length_set] at hj
            have := h.inc i j hij hj
            rw [← hid i, ← hid j] at this
            exact this
          · change y ∈ List.set _ _ _ at hy
            obtain ⟨j, hj, rfl⟩ := List.getElem_of_mem hy
            have hj' : j < c.Features.length := by simpa using hj
            have e := hid j
            rw [getD_eq hj] at e
            rw [e]
            exact h.ids _ (getD_mem hj')
      | false =>
        rw [cond_false]
        cases decide (nt.Kind = 4) with
        | true =>
          rw [cond_true]
          cases placeOk c nt.X nt.Y && depthOk nt.Depth with
          | false => exact ⟨h, rfl⟩
          | true => exact ⟨⟨h.wide, h.high, by show ((List.set _ _ _).length : Int) = _; rw [List.length_set]; exact h.dep, h.len, h.inc, h.ids⟩, rfl⟩
        | false => exact ⟨h, rfl⟩
theorem depth_impl (n : Nat) (d : Int) : impl_depthOk n d = some (depthOk d) := by
  unfold impl_depthOk
  rw [in_impl5, Option.bind_some]
  rfl
theorem depth_specL (n : Nat) (d : Int) : spec_l6Depth n d = some (depthOk d) := by
  unfold spec_l6Depth
  rw [in_spec5, Option.bind_some]
  rfl
theorem ins_spec {n : Nat} {c : SChart} (h : CI c) (nt : SNote) (hn : 1000000000 < n) : spec_l6Note_k0 n c.Wide c.High c.Edition c.Depths c.Features nt = some (⟨c.Wide, c.High, c.Depths, putFeat c.Features (noteF nt), c.Edition⟩, true) := by
  have hl := h.len
  unfold spec_l6Note_k0
  refine loopN_ind (fun y => c.Features.length - y.toNat) (fun y => ∃ k : Nat, k ≤ cutF c.Features nt.Id ∧ y = (k : Int)) (fun y r => r = some ((⟨c.Wide, c.High, c.Depths, putFeat c.Features (noteF nt), c.Edition⟩ : SChart), true)) ?_ n _ ⟨0, by omega, rfl⟩ (by simp; omega)
  rintro _ J ⟨k, hk, rfl⟩ ih
  have hle := cutF_le c.Features nt.Id
  have hend : k = cutF c.Features nt.Id → (chk (decide ((0 : Int) ≤ (k : Int))) (chk (decide ((k : Int) ≤ (c.Features.length : Int))) (chk (decide (((k : Int).toNat + (c.Features.length - (k : Int).toNat)) ≤ c.Features.length)) ((bd ([(⟨nt.Id, nt.Sort_, nt.X, nt.Y, nt.Text⟩ : SFeature)] ++ ((c.Features.drop (k : Int).toNat).take (c.Features.length - (k : Int).toNat))) fun (l43 : List SFeature) => chk (decide (l43.length * 48 ≤ 140737488355328)) (chk (decide ((0 : Int) ≤ (k : Int))) (chk (decide ((k : Int) ≤ (c.Features.length : Int))) (chk (decide ((0 + ((k : Int).toNat - 0)) ≤ c.Features.length)) ((bd ((c.Features.drop 0).take ((k : Int).toNat - 0)) fun (l44 : List SFeature) => chk (decide (l44.length * 48 ≤ 140737488355328)) (chk (decide ((l44 ++ l43).length * 48 ≤ 140737488355328)) (some ((⟨c.Wide, c.High, c.Depths, (l44 ++ l43), c.Edition⟩ : SChart), true))))))))))))) = some ((⟨c.Wide, c.High, c.Depths, putFeat c.Features (noteF nt), c.Edition⟩ : SChart), true) := fun hkk => by
    simp only [bd_eq, Int.toNat_natCast, Nat.sub_zero, Nat.zero_add, List.drop_zero]
    have e : (c.Features.drop k).take (c.Features.length - k) = c.Features.drop k := List.take_of_length_le (by simp)
    rw [e, chk_dec (by omega), chk_dec (by omega), chk_dec (by omega), chk_dec (by simp; omega), chk_dec (by omega), chk_dec (by omega), chk_dec (by omega), chk_dec (by simp; omega), chk_dec (by simp; omega)]
    unfold putFeat
    show _ = some ((⟨c.Wide, c.High, c.Depths, c.Features.take (cutF c.Features nt.Id) ++ noteF nt :: c.Features.drop (cutF c.Features nt.Id), c.Edition⟩ : SChart), true)
    rw [← hkk]
    rfl
  unfold spec_l6Note_L8
  by_cases d : k < c.Features.length
  · simp only [Int.ofNat_lt, d, decide_true, cond_true, ix_nat d, chk_true, Int.toNat_natCast] at hend ⊢
    by_cases e : (c.Features.getD k dSFeature).Id < nt.Id
    · rw [decide_eq_true e, cond_true, w64_succ (by omega)]
      refine ih _ ⟨k + 1, ?_, rfl⟩ (by simp; omega)
      have : k ≠ cutF c.Features nt.Id := fun q => cutF_ge c.Features nt.Id (q ▸ d) (q ▸ e)
      omega
    · rw [decide_eq_false e, cond_false]
      refine hend ?_
      have : ¬ k < cutF c.Features nt.Id := fun q => e (cutF_lt _ _ _ q)
      omega
  · simp only [Int.ofNat_lt, d, decide_false, cond_false, Int.toNat_natCast] at hend ⊢
    exact hend (by omega)
theorem move_set {R : Type} {l : List SFeature} {k : Nat} (hk : k < l.length) (x y : Int) (F : List SFeature → Option R) :
    ix (k : Int) l.length (chk (decide ((k : Int).toNat < l.length)) ((bd (l.getD (k : Int).toNat dSFeature) fun (e79 : SFeature) => (bd (l.set (k : Int).toNat (⟨e79.Id, e79.Kind, x, e79.Y, e79.Text⟩ : SFeature)) fun (l80 : List SFeature) => ix (k : Int) l80.length (chk (decide ((k : Int).toNat < l80.length)) ((bd (l80.getD (k : Int).toNat dSFeature) fun (e81 : SFeature) => (bd (l80.set (k : Int).toNat (⟨e81.Id, e81.Kind, e81.X, y, e81.Text⟩ : SFeature)) fun (l82 : List SFeature) => F l82)))))))) =
      F (l.set k ⟨(l.getD k dSFeature).Id, (l.getD k dSFeature).Kind, x, y, (l.getD k dSFeature).Text⟩) := by
  simp only [bd_eq, Int.toNat_natCast, ix_nat hk, hk, decide_true, chk_true, List.length_set, getD_set hk, List.set_set]
theorem note_spec {n : Nat} {c : SChart} (h : CI c) (nt : SNote) (hn : 1000000000 < n) : spec_l6Note n c nt = some (noteR c nt) := by
  have hl := h.len
  have hdl := h.dl
  unfold spec_l6Note noteR
  rw [findF_spec c nt.Id (by omega) hn, Option.bind_some]
  cases decide (nt.Kind = 1) with
  | true =>
    rw [cond_true, cond_true, feat_spec, Option.bind_some]
    change (bif !featOk c (noteF nt) then _ else _) = _
    cases hf : featOk c (noteF nt) with
    | false => rfl
    | true =>
      by_cases h1 : findF c.Features nt.Id < 0
      · by_cases h2 : c.Features.length < 30
        · rw [decide_eq_false (show ¬ findF c.Features nt.Id ≥ 0 by omega), decide_eq_false (show ¬ (c.Features.length : Int) ≥ 30 by omega), decide_eq_true h1, decide_eq_true h2]
          exact ins_spec h nt hn
        · rw [decide_eq_false (show ¬ findF c.Features nt.Id ≥ 0 by omega), decide_eq_true (show (c.Features.length : Int) ≥ 30 by omega), decide_eq_true h1, decide_eq_false h2]
          rfl
      · rw [decide_eq_true (show findF c.Features nt.Id ≥ 0 by omega), decide_eq_false h1]
        rfl
  | false =>
    rw [cond_false, cond_false]
    cases decide (nt.Kind = 2) with
    | true =>
      rw [cond_true, cond_true]
      rcases findF_cases c.Features nt.Id with e | ⟨k, e, hk⟩
      · rw [e]; rfl
      · rw [e, decide_eq_false (by omega), cond_false, cond_false]
        unfold spec_l6Note_k1
        simp only [bd_eq, Int.toNat_natCast, Nat.sub_zero, Nat.zero_add, List.drop_zero, w64_succ (show k < 9223372036854775807 by omega)]
        have e2 : (c.Features.drop (k + 1)).take (c.Features.length - (k + 1)) = c.Features.drop (k + 1) := List.take_of_length_le (by simp)
        rw [e2, chk_dec (by omega), chk_dec (by omega), chk_dec (by omega), chk_dec (by simp; omega), chk_dec (by omega), chk_dec (by omega), chk_dec (by omega), chk_dec (by simp; omega)]
    | false =>
      rw [cond_false, cond_false]
      cases decide (nt.Kind = 3) with
      | true =>
        rw [cond_true, cond_true]
        rcases findF_cases c.Features nt.Id with e | ⟨k, e, hk⟩
        · rw [e]; rfl
        · rw [e, decide_eq_false (by omega), cond_false, place_spec, Option.bind_some]
          cases placeOk c nt.X nt.Y with
          | false => rfl
          | true =>
            unfold spec_l6Note_k2
            exact move_set hk nt.X nt.Y fun l => some ((⟨c.Wide, c.High, c.Depths, l, c.Edition⟩ : SChart), true)
      | false =>
        rw [cond_false, cond_false]
        cases decide (nt.Kind = 4) with
        | true =>
          rw [cond_true, cond_true, place_spec, Option.bind_some]
          cases hp : placeOk c nt.X nt.Y with
          | false => rfl
          | true =>
            obtain ⟨d1, d2⟩ := dIx_ok h hp
            rw [depth_specL, Option.bind_some]
            unfold spec_l6Note_k3
            cases depthOk nt.Depth with
            | false => rfl
            | true =>
              simp only [bd_eq]
              rw [d1, ix_nat d2, Int.toNat_natCast, chk_dec d2]
              rfl
        | false => rfl
theorem note_impl {n : Nat} {c : SChart} (h : CI c) (nt : SNote) (hn : 1000000000 < n) : impl_Chart_note n c nt = some ((noteR c nt).2, (noteR c nt).1) := by
  have hl := h.len
  have hdl := h.dl
  unfold impl_Chart_note noteR
  rw [findF_impl c.Features nt (by omega) hn, Option.bind_some]
  cases decide (nt.Kind = 1) with
  | true =>
    rw [cond_true, cond_true, feat_impl, Option.bind_some]
    change (bif !featOk c (noteF nt) then _ else _) = _
    cases hf : featOk c (noteF nt) with
    | false => rfl
    | true =>
      by_cases h1 : findF c.Features nt.Id < 0
      · rw [decide_eq_false (show ¬ findF c.Features nt.Id ≥ 0 by omega), decide_eq_true h1]
        by_cases h2 : c.Features.length < 30
        · rw [decide_eq_false (show ¬ (c.Features.length : Int) = 30 by omega), decide_eq_true h2]
          have hx := find_neg (l := c.Features) (id := nt.Id) (by omega)
          unfold impl_Chart_note_k0
          simp only [Bool.not_true, cond_false, bd_eq]
          rw [chk_dec (by simp; omega)]
          have := put_sorted (n := n) (l := c.Features) (x := noteF nt) (by omega) h.inc h.ids (featOk_id hf) hx
          unfold noteF at this
          rw [this, Option.bind_some]
          rfl
        · rw [decide_eq_true (show (c.Features.length : Int) = 30 by omega), decide_eq_false h2]
          rfl
      · rw [decide_eq_true (show findF c.Features nt.Id ≥ 0 by omega), decide_eq_false h1]
        rfl
  | false =>
    rw [cond_false, cond_false]
    cases decide (nt.Kind = 2) with
    | true =>
      rw [cond_true, cond_true]
      rcases findF_cases c.Features nt.Id with e | ⟨k, e, hk⟩
      · rw [e]; rfl
      · rw [e, decide_eq_false (by omega), cond_false, cond_false]
        unfold slices_Delete_impl_Feature_impl_Feature delL
        rw [w64_succ (show k < 9223372036854775807 by omega), if_pos ⟨by omega, by omega, by omega, by omega⟩, Option.bind_some]
        rfl
    | false =>
      rw [cond_false, cond_false]
      cases decide (nt.Kind = 3) with
      | true =>
        rw [cond_true, cond_true]
        rcases findF_cases c.Features nt.Id with e | ⟨k, e, hk⟩
        · rw [e]; rfl
        · rw [e, decide_eq_false (by omega), cond_false, place_impl, Option.bind_some]
          cases placeOk c nt.X nt.Y with
          | false => rfl
          | true =>
            unfold impl_Chart_note_k1
            exact move_set hk nt.X nt.Y fun l => some (true, (⟨c.Wide, c.High, c.Depths, l, c.Edition⟩ : SChart))
      | false =>
        rw [cond_false, cond_false]
        cases decide (nt.Kind = 4) with
        | true =>
          rw [cond_true, cond_true, place_impl, Option.bind_some]
          cases hp : placeOk c nt.X nt.Y with
          | false => rfl
          | true =>
            obtain ⟨d1, d2⟩ := dIx_ok h hp
            rw [depth_impl, Option.bind_some]
            unfold impl_Chart_note_k2
            cases depthOk nt.Depth with
            | false => rfl
            | true =>
              simp only [bd_eq]
              rw [Bool.not_true, cond_false, cond_false, d1, ix_nat d2, Int.toNat_natCast, chk_dec d2]
              rfl
        | false => rfl
end Go.Sm
end

section
set_option linter.unusedSimpArgs false
set_option linter.deprecated false
set_option linter.unusedSectionVars false
set_option linter.unusedVariables false
set_option linter.unusedSimpArgs false
namespace Go.Sm
attribute [local irreducible] bd chk ix loopN
theorem copy_spec (n : Nat) (c : SChart) (h1 : c.Depths.length ≤ 1048576) (h2 : c.Features.length ≤ 1048576) : spec_l6Copy n c = some c := by
  unfold spec_l6Copy
  rw [chk_dec (by omega), chk_dec (by omega)]
theorem own_impl (n : Nat) (c : SChart) (h1 : c.Depths.length ≤ 1048576) (h2 : c.Features.length ≤ 1048576) : impl_Chart_own n c = some c := by
  unfold impl_Chart_own impl_own_int impl_own_impl_Feature
  rw [chk_dec (by omega), chk_dec (by omega), chk_dec (by omega), Option.bind_some, chk_dec (by omega), chk_dec (by omega), chk_dec (by omega), Option.bind_some]
/-- The notes in their order; the first that does not fit ends it. -/
def nU : List SNote → SChart → SChart × Bool
  | [], c => (c, true)
  | nt :: l, c => bif (noteR c nt).2 then nU l (noteR c nt).1 else ((noteR c nt).1, false)
theorem drop_note {l : List SNote} {k : Nat} (h : k < l.length) : l.drop k = l.getD k dSNote :: l.drop (k + 1) := by
  rw [List.drop_eq_getElem_cons h, getD_eq h]
theorem nU_cons (nt : SNote) (l : List SNote) (c : SChart) : nU (nt :: l) c = bif (noteR c nt).2 then nU l (noteR c nt).1 else ((noteR c nt).1, false) := rfl
theorem nU_ci : ∀ (l : List SNote) {c : SChart}, CI c → CI (nU l c).1
  | [], c, h => h
  | nt :: l, c, h => by
    have h1 := (note_ci h nt).1
    unfold nU
    cases (noteR c nt).2 with
    | true => exact nU_ci l h1
    | false => exact h1
def applyV (c : SChart) (u : SUpdate) : SChart × Int := bif (nU u.Notes c).2 then (⟨(nU u.Notes c).1.Wide, (nU u.Notes c).1.High, (nU u.Notes c).1.Depths, (nU u.Notes c).1.Features, u.Edition⟩, 0) else (c, 4)
def applyR (c : SChart) (u : SUpdate) : SChart × Int :=
  if chOk c then if 1 ≤ (u.Notes.length : Int) ∧ (u.Notes.length : Int) ≤ 20 then if u.Edition ≤ c.Edition then (c, 2) else if u.Edition > c.Edition + 1 then (c, 3) else if u.Edition > 1000000 then (c, 4) else applyV c u else (c, 1) else (c, 1)
theorem ed_w {c : SChart} (h : chOk c) : w64 (c.Edition + 1) = c.Edition + 1 := by
  have := h.2.2.2.2.1
  rw [w64_id (by omega) (by omega)]
theorem notes_spec {n : Nat} {c : SChart} (h : CI c) (hd : c.Depths.length ≤ 1048576) (u : SUpdate) (hl : u.Notes.length ≤ 20) (he : ¬ u.Edition > 1000000) (hn : 1000000000 < n) :
    spec_Apply6_k1 n c.Wide c.High c.Edition c.Depths c.Features u = some (applyV c u) := by
  have h30 := h.len
  unfold spec_Apply6_k1
  have e0 : spec_l6Copy n (⟨c.Wide, c.High, c.Depths, c.Features, c.Edition⟩ : SChart) = some c := copy_spec n c hd (by omega)
  rw [e0, Option.bind_some, decide_eq_true (show u.Edition ≤ 1000000 by omega)]
  refine loopN_ind (fun x => u.Notes.length - x.2.1.toNat)
    (fun x => ∃ (k : Nat) (d : SChart) (o : Bool), k ≤ u.Notes.length ∧ CI d ∧ x = (o, (k : Int), d.Wide, d.High, d.Edition, d.Depths, d.Features) ∧ (bif o then nU (u.Notes.drop k) d = nU u.Notes c else (nU u.Notes c).2 = false))
    (fun x r => r = some (applyV c u)) ?_ n _ ⟨0, c, true, by omega, h, rfl, rfl⟩ (by simp; omega)
  rintro _ J ⟨k, d, o, hk, hc, rfl, hg⟩ ih
  unfold spec_Apply6_L11 spec_Apply6_k0
  dsimp only at ih ⊢
  cases o with
  | false =>
    have hg : (nU u.Notes c).2 = false := hg
    unfold applyV
    rw [hg]
    cases decide ((k : Int) < (u.Notes.length : Int)) <;> rfl
  | true =>
    have hg : nU (u.Notes.drop k) d = nU u.Notes c := hg
    by_cases hlt : k < u.Notes.length
    · rw [decide_eq_true (show (k : Int) < (u.Notes.length : Int) by omega), cond_true, cond_true, ix_nat hlt, bd_eq, Int.toNat_natCast]
      have e1 : spec_l6Note n (⟨d.Wide, d.High, d.Depths, d.Features, d.Edition⟩ : SChart) (u.Notes.getD k dSNote) = some (noteR d (u.Notes.getD k dSNote)) := note_spec hc _ hn
      rw [e1, Option.bind_some, w64_succ (by omega)]
      refine ih _ ⟨k + 1, (noteR d (u.Notes.getD k dSNote)).1, (noteR d (u.Notes.getD k dSNote)).2, by omega, (note_ci hc _).1, rfl, ?_⟩ (by simp; omega)
      rw [drop_note hlt, nU_cons] at hg
      cases hv : (noteR d (u.Notes.getD k dSNote)).2 with
      | true =>
        rw [hv] at hg
        exact hg
      | false =>
        rw [hv] at hg
        show (nU u.Notes c).2 = false
        rw [← hg]
        rfl
    · have hk2 : k = u.Notes.length := by omega
      rw [hk2, List.drop_length] at hg
      have hg : (d, true) = nU u.Notes c := hg
      rw [decide_eq_false (show ¬ (k : Int) < (u.Notes.length : Int) by omega)]
      unfold applyV
      rw [← hg]
      rfl
theorem notes_impl {n : Nat} {c : SChart} (h : CI c) (hd : c.Depths.length ≤ 1048576) (u : SUpdate) (hl : u.Notes.length ≤ 20) (hn : 1000000000 < n) :
    impl_Apply6_k1 n c u c.Wide c.High c.Edition c.Depths c.Features = some (applyV c u) := by
  have h30 := h.len
  unfold impl_Apply6_k1
  rw [own_impl n c hd (by omega), Option.bind_some]
  refine loopN_ind (fun x => u.Notes.length - x.1.toNat)
    (fun x => ∃ (k : Nat) (d : SChart), k ≤ u.Notes.length ∧ CI d ∧ x = ((k : Int), d.Wide, d.High, d.Edition, d.Depths, d.Features) ∧ nU (u.Notes.drop k) d = nU u.Notes c)
    (fun x r => r = some (applyV c u)) ?_ n _ ⟨0, c, by omega, h, rfl, rfl⟩ (by simp; omega)
  rintro _ J ⟨k, d, hk, hc, rfl, hg⟩ ih
  unfold impl_Apply6_L12 impl_Apply6_k0
  dsimp only at ih ⊢
  by_cases hlt : k < u.Notes.length
  · rw [decide_eq_true (show (k : Int) < (u.Notes.length : Int) by omega), cond_true, ix_nat hlt, bd_eq, Int.toNat_natCast]
    have e1 : impl_Chart_note n (⟨d.Wide, d.High, d.Depths, d.Features, d.Edition⟩ : SChart) (u.Notes.getD k dSNote) = some ((noteR d (u.Notes.getD k dSNote)).2, (noteR d (u.Notes.getD k dSNote)).1) := note_impl hc _ hn
    rw [e1, Option.bind_some, w64_succ (by omega)]
    rw [drop_note hlt, nU_cons] at hg
    dsimp only
    cases hv : (noteR d (u.Notes.getD k dSNote)).2 with
    | true =>
      rw [hv] at hg
      rw [Bool.not_true, cond_false]
      refine ih _ ⟨k + 1, (noteR d (u.Notes.getD k dSNote)).1, by omega, (note_ci hc _).1, rfl, hg⟩ (by simp; omega)
    | false =>
      rw [hv] at hg
      rw [Bool.not_false, cond_true]
      have : (nU u.Notes c).2 = false := by
        rw [← hg]
        rfl
      unfold applyV
      rw [this]
      rfl
  · have hk2 : k = u.Notes.length := by omega
    rw [hk2, List.drop_length] at hg
    have hg : (d, true) = nU u.Notes c := hg
    rw [decide_eq_false (show ¬ (k : Int) < (u.Notes.length : Int) by omega), cond_false]
    have hdl := hc.dl
    have hl2 := hc.len
    have e1 : impl_Chart_own n (⟨d.Wide, d.High, d.Depths, d.Features, u.Edition⟩ : SChart) = some (⟨d.Wide, d.High, d.Depths, d.Features, u.Edition⟩ : SChart) := own_impl n _ (show d.Depths.length ≤ 1048576 by omega) (show d.Features.length ≤ 1048576 by omega)
    rw [e1, Option.bind_some]
    unfold applyV
    rw [← hg]
    rfl
theorem apply_spec {n : Nat} (c : SChart) (u : SUpdate) (h1 : c.Depths.length ≤ 1048576) (h2 : c.Features.length ≤ 1048576) (hn : 1000000000 < n) : spec_Apply6 n c u = some (applyR c u) := by
  unfold spec_Apply6 applyR
  rw [copy_spec n c h1 h2, Option.bind_some, ch_spec c h1 h2 hn, Option.bind_some, bif_not, bif_dec]
  by_cases a1 : chOk c
  · rw [if_pos a1, if_pos a1, in_spec5, Option.bind_some]
    unfold spec_Apply6_k2
    rw [bif_not, bif_dec]
    by_cases a2 : 1 ≤ (u.Notes.length : Int) ∧ (u.Notes.length : Int) ≤ 20
    · rw [if_pos a2, if_pos a2, bif_dec, ed_w a1, bif_dec]
      by_cases a3 : u.Edition ≤ c.Edition
      · rw [if_pos a3, if_pos a3]
      · rw [if_neg a3, if_neg a3]
        by_cases a4 : u.Edition > c.Edition + 1
        · rw [if_pos a4, if_pos a4]
        · rw [if_neg a4, if_neg a4]
          by_cases a5 : u.Edition > 1000000
          · rw [if_pos a5]
            unfold spec_Apply6_k1
            have e0 : spec_l6Copy n (⟨c.Wide, c.High, c.Depths, c.Features, c.Edition⟩ : SChart) = some c := copy_spec n c h1 h2
            rw [e0, Option.bind_some, decide_eq_false (show ¬ u.Edition ≤ 1000000 by omega)]
            refine loopN_ind (fun x => 0) (fun x => x.1 = false) (fun x r => r = some (c, 4)) ?_ n _ rfl (by omega)
            rintro ⟨o, i, d⟩ J e ih
            cases (show o = false from e)
            unfold spec_Apply6_L11 spec_Apply6_k0
            dsimp only
            cases decide (i < (u.Notes.length : Int)) <;> rfl
          · rw [if_neg a5]
            exact notes_spec (ci_of a1) h1 u (by omega) a5 hn
    · rw [if_neg a2, if_neg a2]
  · rw [if_neg a1, if_neg a1]
theorem apply_impl {n : Nat} (c : SChart) (u : SUpdate) (h1 : c.Depths.length ≤ 1048576) (h2 : c.Features.length ≤ 1048576) (hn : 1000000000 < n) : impl_Apply6 n c u = some (applyR c u) := by
  unfold impl_Apply6 applyR
  rw [own_impl n c h1 h2, Option.bind_some, ch_impl c h1 h2 hn, Option.bind_some, bif_not, bif_dec]
  by_cases a1 : chOk c
  · rw [if_pos a1, if_pos a1, in_impl5, Option.bind_some]
    unfold impl_Apply6_k2
    rw [bif_not, bif_dec]
    by_cases a2 : 1 ≤ (u.Notes.length : Int) ∧ (u.Notes.length : Int) ≤ 20
    · rw [if_pos a2, if_pos a2, bif_dec, ed_w a1, bd_eq, bif_dec, bif_dec]
      by_cases a3 : u.Edition ≤ c.Edition
      · rw [if_pos a3, if_pos a3]
      · rw [if_neg a3, if_neg a3]
        by_cases a4 : u.Edition > c.Edition + 1
        · rw [if_pos a4, if_pos a4]
        · rw [if_neg a4, if_neg a4]
          by_cases a5 : u.Edition > 1000000
          · rw [if_pos a5, if_pos a5]
          · rw [if_neg a5, if_neg a5]
            exact notes_impl (ci_of a1) h1 u (by omega) hn
    · rw [if_neg a2, if_neg a2]
  · rw [if_neg a1, if_neg a1]
/-- What an update leaves is the chart itself, or a small one. -/
theorem apply_or {c : SChart} {u : SUpdate} : (applyR c u).1 = c ∨ ((applyR c u).1.Depths.length ≤ 144 ∧ (applyR c u).1.Features.length ≤ 30) := by
  unfold applyR
  by_cases a1 : chOk c
  · rw [if_pos a1]
    split
    · split
      · exact .inl rfl
      · split
        · exact .inl rfl
        · split
          · exact .inl rfl
          · unfold applyV
            have h := nU_ci u.Notes (ci_of a1)
            cases (nU u.Notes c).2 with
            | true => exact .inr ⟨h.dl, h.len⟩
            | false => exact .inl rfl
    · exact .inl rfl
  · rw [if_neg a1]
    exact .inl rfl
/-! ### What an update leaves is no heavier than the chart, or light -/
def txF (l : List SFeature) : Prop := ∀ y ∈ l, y.Text.size ≤ 40
theorem featOk_tx {c : SChart} {f : SFeature} (h : featOk c f = true) : f.Text.size ≤ 40 := by
  unfold featOk at h
  simp only [Bool.and_eq_true, decide_eq_true_eq] at h
  omega
theorem tx_of {c : SChart} (h : chOk c) : txF c.Features := fun y hy => by
  obtain ⟨k, hk, rfl⟩ := List.getElem_of_mem hy
  have := (h.2.2.2.2.2.2 k hk).1
  rw [getD_eq hk] at this
  exact featOk_tx this
theorem note_tx {c : SChart} (h : txF c.Features) (nt : SNote) : txF (noteR c nt).1.Features := by
  unfold noteR
  cases decide (nt.Kind = 1) with
  | true =>
    rw [cond_true]
    cases hc : featOk c (noteF nt) && (decide (findF c.Features nt.Id < 0) && decide (c.Features.length < 30)) with
    | false => exact h
    | true =>
      simp only [Bool.and_eq_true, decide_eq_true_eq] at hc
      intro y hy
      have := (with_perm c.Features (noteF nt)).subset hy
      rcases List.mem_append.1 this with h1 | h1
      · exact h y h1
      · rw [List.mem_singleton.1 h1]
        exact featOk_tx hc.1
  | false =>
    rw [cond_false]
    cases decide (nt.Kind = 2) with
    | true =>
      rw [cond_true]
      cases decide (findF c.Features nt.Id < 0) with
      | true => exact h
      | false =>
        intro y hy
        rcases List.mem_append.1 hy with h1 | h1
        · exact h y (List.mem_of_mem_take h1)
        · exact h y (List.mem_of_mem_drop h1)
    | false =>
      rw [cond_false]
      cases decide (nt.Kind = 3) with
      | true =>
        rw [cond_true]
        rcases findF_cases c.Features nt.Id with e | ⟨k, e, hk⟩
        · rw [e]; exact h
        · rw [e]
          cases !decide ((k : Int) < 0) && placeOk c nt.X nt.Y with
          | false => exact h
          | true =>
            intro y hy
            rcases List.mem_or_eq_of_mem_set hy with h1 | h1
            · exact h y h1
            · rw [h1]
              exact h (c.Features.getD k dSFeature) (getD_mem hk)
      | false =>
        rw [cond_false]
        cases decide (nt.Kind = 4) with
        | true =>
          rw [cond_true]
          cases placeOk c nt.X nt.Y && depthOk nt.Depth with
          | false => exact h
          | true => exact h
        | false => exact h
theorem nU_tx : ∀ (l : List SNote) {c : SChart}, txF c.Features → txF (nU l c).1.Features
  | [], c, h => h
  | nt :: l, c, h => by
    have h1 := note_tx h nt
    unfold nU
    cases (noteR c nt).2 with
    | true => exact nU_tx l h1
    | false => exact h1
theorem sumOf_tx : ∀ {l : List SFeature}, txF l → sumOf (fun y => w_SFeature y) l ≤ 40 * l.length
  | [], _ => Nat.le_refl _
  | a :: l, h => by
    have h1 := h a (List.mem_cons_self ..)
    have h2 := sumOf_tx (l := l) fun y hy => h y (List.mem_cons_of_mem _ hy)
    show w_SFeature a + sumOf (fun y => w_SFeature y) l ≤ 40 * (l.length + 1)
    have : w_SFeature a = a.Text.size := rfl
    omega
theorem apply_w {c : SChart} {u : SUpdate} {m : Nat} (hm : 2000 ≤ m) (hw : w_SChart c ≤ m) : w_SChart (applyR c u).1 ≤ m := by
  unfold applyR
  by_cases a1 : chOk c
  · rw [if_pos a1]
    split
    · split
      · exact hw
      · split
        · exact hw
        · split
          · exact hw
          · unfold applyV
            have h := nU_ci u.Notes (ci_of a1)
            have h2 := sumOf_tx (nU_tx u.Notes (tx_of a1))
            have h3 := h.len
            have h4 := h.dl
            cases (nU u.Notes c).2 with
            | true =>
              show (nU u.Notes c).1.Depths.length + ((nU u.Notes c).1.Features.length + sumOf (fun y => w_SFeature y) (nU u.Notes c).1.Features) ≤ m
              omega
            | false => exact hw
    · exact hw
  · rw [if_neg a1]
    exact hw
end Go.Sm
end

section
set_option linter.unusedSimpArgs false
set_option linter.deprecated false
set_option linter.unusedSectionVars false
set_option linter.unusedVariables false
set_option linter.unusedSimpArgs false
namespace Go.Sm
attribute [local irreducible] bd chk ix loopN
/-! ### Updates taken as they fit, till none does -/
/-- The update at k is not done yet, and fits. -/
def goes (l : List SUpdate) (c : SChart) (d : List Bool) (k : Nat) : Bool := !d.getD k false && decide ((applyR c (l.getD k dSUpdate)).2 = 0)
def cf : List Bool → Nat
  | [] => 0
  | true :: d => cf d
  | false :: d => cf d + 1
theorem cf_set : ∀ {d : List Bool} {k : Nat}, k < d.length → d.getD k false = false → cf d = cf (d.set k true) + 1
  | [], k, hk, _ => absurd hk (Nat.not_lt_zero _)
  | true :: d, 0, _, h => by cases h
  | false :: d, 0, _, h => rfl
  | true :: d, k + 1, hk, h => cf_set (d := d) (k := k) (Nat.lt_of_succ_lt_succ hk) h
  | false :: d, k + 1, hk, h => congrArg (· + 1) (cf_set (d := d) (k := k) (Nat.lt_of_succ_lt_succ hk) h)
def catchU (l : List SUpdate) : Nat → SChart → List Bool → SChart × List Bool
  | 0, c, d => (c, d)
  | f + 1, c, d => match (List.range l.length).find? (goes l c d) with
    | some k => catchU l f (applyR c (l.getD k dSUpdate)).1 (d.set k true)
    | none => (c, d)
theorem catchU_go {l : List SUpdate} {c : SChart} {d : List Bool} {k : Nat} (hk : k < d.length) (hg : goes l c d k = true) (hf : (List.range l.length).find? (goes l c d) = some k) :
    cf d = cf (d.set k true) + 1 ∧ catchU l (cf d) c d = catchU l (cf (d.set k true)) (applyR c (l.getD k dSUpdate)).1 (d.set k true) := by
  have h0 : d.getD k false = false := by
    unfold goes at hg
    cases h : d.getD k false with
    | false => rfl
    | true => rw [h] at hg; cases hg
  have h1 := cf_set hk h0
  refine ⟨h1, ?_⟩
  rw [h1]
  show (match (List.range l.length).find? (goes l c d) with | some k => catchU l (cf (d.set _ true)) (applyR c (l.getD k dSUpdate)).1 (d.set k true) | none => (c, d)) = _
  rw [hf]
theorem catchU_end {l : List SUpdate} {c : SChart} {d : List Bool} (hf : (List.range l.length).find? (goes l c d) = none) : ∀ f, catchU l f c d = (c, d)
  | 0 => rfl
  | f + 1 => by
    show (match (List.range l.length).find? (goes l c d) with | some k => catchU l f (applyR c (l.getD k dSUpdate)).1 (d.set k true) | none => (c, d)) = _
    rw [hf]
theorem catchU_keep {l : List SUpdate} {m : Nat} (hm : 2000 ≤ m) : ∀ (f : Nat) {c : SChart} {d : List Bool}, w_SChart c ≤ m → w_SChart (catchU l f c d).1 ≤ m ∧ (catchU l f c d).2.length = d.length
  | 0, c, d, hw => ⟨hw, rfl⟩
  | f + 1, c, d, hw => by
    unfold catchU
    split
    · rename_i k hk
      have := catchU_keep (l := l) hm f (c := (applyR c (l.getD k dSUpdate)).1) (d := d.set k true) (apply_w hm hw)
      rwa [List.length_set] at this
    · exact ⟨hw, rfl⟩
theorem szw {c : SChart} {m : Nat} (h : w_SChart c ≤ m) : c.Depths.length ≤ m ∧ c.Features.length ≤ m := by
  have w1 : w_SChart c = c.Depths.length + (c.Features.length + sumOf (fun y => w_SFeature y) c.Features) := rfl
  omega
def rndK {R : Type} (l : List SUpdate) (J : Bool → Int → Int → Int → List Int → List SFeature → List Bool → Option R) (c : SChart) (d : List Bool) : Option R :=
  match (List.range l.length).find? (goes l c d) with
  | some k => J true (applyR c (l.getD k dSUpdate)).1.Wide (applyR c (l.getD k dSUpdate)).1.High (applyR c (l.getD k dSUpdate)).1.Edition (applyR c (l.getD k dSUpdate)).1.Depths (applyR c (l.getD k dSUpdate)).1.Features (d.set k true)
  | none => J false c.Wide c.High c.Edition c.Depths c.Features d
theorem round_spec {R : Type} {n : Nat} {l : List SUpdate} (hl : l.length ≤ 60) (kx0 : Int → Int → Int → List Int → List SFeature → List Bool → Option R) (J : Bool → Int → Int → Int → List Int → List SFeature → List Bool → Option R)
    {c : SChart} (hw : w_SChart c ≤ 1048576) {d : List Bool} (hd : d.length = l.length) (hn : 1000000000 < n) :
    spec_Catch_k2 n kx0 J l c.Wide c.High c.Edition c.Depths c.Features 0 0 0 [] [] [] d = rndK l J c d := by
  unfold spec_Catch_k2
  refine loopN_ind (fun x => l.length - x.2.1.toNat)
    (fun x => (∃ k : Nat, k ≤ l.length ∧ x = (false, (k : Int), c.Wide, c.High, c.Edition, c.Depths, c.Features, d) ∧ ∀ j, j < k → goes l c d j = false) ∨
      (∃ (k : Nat) (A : SChart), (List.range l.length).find? (goes l c d) = some k ∧ A = (applyR c (l.getD k dSUpdate)).1 ∧ x = (true, ((k + 1 : Nat) : Int), A.Wide, A.High, A.Edition, A.Depths, A.Features, d.set k true)))
    (fun x r => r = rndK l J c d) ?_ n _ (.inl ⟨0, by omega, rfl, fun j hj => absurd hj (Nat.not_lt_zero _)⟩) (by simp; omega)
  rintro _ J' (⟨k, hk, rfl, hg⟩ | ⟨k, A, hf, rfl, rfl⟩) ih
  · unfold spec_Catch_L10
    dsimp only at ih ⊢
    by_cases h : k < l.length
    · rw [decide_eq_true (show (k : Int) < (l.length : Int) by omega), cond_true, Bool.not_false, cond_true]
      unfold spec_Catch_k1 spec_Catch_k0
      rw [ix_nat (by omega), Int.toNat_natCast, chk_dec (by omega), ix_nat h, bd_eq]
      have hskip : goes l c d k = false → J' (false, ((k + 1 : Nat) : Int), c.Wide, c.High, c.Edition, c.Depths, c.Features, d) = rndK l J c d := fun hno =>
        ih _ (.inl ⟨k + 1, h, rfl, fun j hj => by
          by_cases e : j = k
          · rw [e]; exact hno
          · exact hg j (by omega)⟩) (by simp; omega)
      rw [w64_succ (by omega)]
      cases hdk : d.getD k false with
      | true => exact hskip (by unfold goes; rw [hdk]; rfl)
      | false =>
        rw [cond_false]
        have e1 : spec_Apply6 n (⟨c.Wide, c.High, c.Depths, c.Features, c.Edition⟩ : SChart) (l.getD k dSUpdate) = some (applyR c (l.getD k dSUpdate)) := apply_spec c _ (szw hw).1 (szw hw).2 hn
        rw [e1, Option.bind_some, bif_dec]
        split
        · rename_i h0
          have hgo : goes l c d k = true := by
            unfold goes
            rw [hdk, decide_eq_true h0]
            rfl
          rw [ix_nat (by omega), chk_dec (by omega)]
          exact ih _ (.inr ⟨k, _, find_range_some h hgo hg, rfl, rfl⟩) (by simp; omega)
        · rename_i h0
          exact hskip (by unfold goes; rw [hdk, decide_eq_false h0]; rfl)
    · have : k = l.length := by omega
      subst this
      rw [decide_eq_false (Int.lt_irrefl _), cond_false]
      unfold rndK
      rw [find_range_none hg]
  · unfold spec_Catch_L10 rndK
    rw [hf]
    dsimp only
    cases decide (((k + 1 : Nat) : Int) < (l.length : Int)) <;> rfl
theorem round_impl {R : Type} {n : Nat} {l : List SUpdate} (hl : l.length ≤ 60) (J : Bool → Int → Int → Int → List Int → List SFeature → List Bool → Option R)
    {c : SChart} (hw : w_SChart c ≤ 1048576) {d : List Bool} (hd : d.length = l.length) (hn : 1000000000 < n) :
    loopN (fun (x : Int) J' => impl_Catch_L9 n (fun again58 c59 c60 c61 c62 c63 done64 => J again58 c59 c60 c61 c62 c63 done64) J' l false l (l.length : Int) x c.Wide c.High c.Edition c.Depths c.Features 0 0 0 [] [] d) n (0 : Int) = rndK l J c d := by
  refine loop_find (len := l.length) (p := goes l c d) (yes := fun k => J true (applyR c (l.getD k dSUpdate)).1.Wide (applyR c (l.getD k dSUpdate)).1.High (applyR c (l.getD k dSUpdate)).1.Edition (applyR c (l.getD k dSUpdate)).1.Depths (applyR c (l.getD k dSUpdate)).1.Features (d.set k true)) (no := J false c.Wide c.High c.Edition c.Depths c.Features d) (by omega) (fun k J' h hg => ?_) (fun J' _ => ?_) (by omega)
  · unfold impl_Catch_L9 impl_Catch_k1 impl_Catch_k0
    rw [decide_eq_true (show (k : Int) < (l.length : Int) by omega), cond_true, ix_nat h, Int.toNat_natCast, bd_eq, ix_nat (by omega), chk_dec (by omega), w64_succ (by omega)]
    have e1 : impl_Apply6 n (⟨c.Wide, c.High, c.Depths, c.Features, c.Edition⟩ : SChart) (l.getD k dSUpdate) = some (applyR c (l.getD k dSUpdate)) := apply_impl c _ (szw hw).1 (szw hw).2 hn
    rw [e1, Option.bind_some]
    unfold goes
    cases d.getD k false with
    | true => rfl
    | false =>
      rw [ix_nat (by omega), chk_dec (by omega)]
      rfl
  · unfold impl_Catch_L9
    rw [decide_eq_false (Int.lt_irrefl _), cond_false]
def RI (l : List SUpdate) (E : SChart × List Bool) (x : Bool × Int × Int × Int × List Int × List SFeature × List Bool) : Prop :=
  ∃ (g : Bool) (c : SChart) (d : List Bool), x = (g, c.Wide, c.High, c.Edition, c.Depths, c.Features, d) ∧ w_SChart c ≤ 1048576 ∧ d.length = l.length ∧ (if g then catchU l (cf d) c d = E else (c, d) = E)
def rmu (x : Bool × Int × Int × Int × List Int × List SFeature × List Bool) : Nat := bif x.1 then cf x.2.2.2.2.2.2 + 1 else 0
theorem rnd_step {R : Type} {l : List SUpdate} {E : SChart × List Bool} {Z : Option R} {J : Bool × Int × Int × Int × List Int × List SFeature × List Bool → Option R} {c : SChart} {d : List Bool} (hw : w_SChart c ≤ 1048576) (hd : d.length = l.length) (he : catchU l (cf d) c d = E)
    (ih : ∀ y, RI l E y → rmu y < cf d + 1 → J y = Z) : rndK l (fun a1 a2 a3 a4 a5 a6 a7 => J (a1, a2, a3, a4, a5, a6, a7)) c d = Z := by
  unfold rndK
  rcases find_range (goes l c d) l.length with ⟨h1, h2⟩ | ⟨k, h1, h2, h3, h4⟩
  · rw [h1]
    rw [catchU_end h1] at he
    exact ih _ ⟨false, c, d, rfl, hw, hd, by rw [if_neg (by decide)]; exact he⟩ (by simp [rmu])
  · rw [h1]
    obtain ⟨q1, q2⟩ := catchU_go (by omega) h3 h1
    exact ih _ ⟨true, (applyR c (l.getD k dSUpdate)).1, d.set k true, rfl, apply_w (by omega) hw, by rw [List.length_set]; exact hd, by rw [if_pos rfl, ← q2]; exact he⟩ (by simp [rmu]; omega)
theorem cf_le : ∀ d : List Bool, cf d ≤ d.length
  | [] => Nat.le_refl _
  | true :: d => Nat.le_succ_of_le (cf_le d)
  | false :: d => Nat.succ_le_succ (cf_le d)
theorem rounds_spec {R : Type} {n : Nat} {l : List SUpdate} (hl : l.length ≤ 60) (kx0 : Int → Int → Int → List Int → List SFeature → List Bool → Option R)
    {c : SChart} (hw : w_SChart c ≤ 1048576) {d : List Bool} (hd : d.length = l.length) {E : SChart × List Bool} (he : catchU l (cf d) c d = E) (hn : 1000000000 < n) :
    loopN (fun (x : Bool × Int × Int × Int × List Int × List SFeature × List Bool) J' => spec_Catch_L7 n kx0 (fun a1 a2 a3 a4 a5 a6 a7 => J' (a1, a2, a3, a4, a5, a6, a7)) l x.1 x.2.1 x.2.2.1 x.2.2.2.1 x.2.2.2.2.1 x.2.2.2.2.2.1 0 0 0 [] [] [] x.2.2.2.2.2.2) n (true, c.Wide, c.High, c.Edition, c.Depths, c.Features, d) = kx0 E.1.Wide E.1.High E.1.Edition E.1.Depths E.1.Features E.2 := by
  have := cf_le d
  refine loopN_ind rmu (RI l E) (fun x r => r = kx0 E.1.Wide E.1.High E.1.Edition E.1.Depths E.1.Features E.2) ?_ n _ ⟨true, c, d, rfl, hw, hd, he⟩ (by simp [rmu]; omega)
  rintro _ J ⟨g, c, d, rfl, hw, hd, he⟩ ih
  unfold spec_Catch_L7
  dsimp only
  cases g with
  | false =>
    rw [if_neg (by decide)] at he
    rw [← he]
    rfl
  | true =>
    rw [cond_true, round_spec hl _ _ hw hd hn]
    exact rnd_step hw hd he fun y hy hm => ih y hy hm
theorem rounds_impl {R : Type} {n : Nat} {l : List SUpdate} (hl : l.length ≤ 60) (kx0 : Int → Int → Int → List Int → List SFeature → List Bool → Option R)
    {c : SChart} (hw : w_SChart c ≤ 1048576) {d : List Bool} (hd : d.length = l.length) {E : SChart × List Bool} (he : catchU l (cf d) c d = E) (hn : 1000000000 < n) :
    loopN (fun (x : Bool × Int × Int × Int × List Int × List SFeature × List Bool) J' => impl_Catch_L6 n kx0 (fun a1 a2 a3 a4 a5 a6 a7 => J' (a1, a2, a3, a4, a5, a6, a7)) l x.1 x.2.1 x.2.2.1 x.2.2.2.1 x.2.2.2.2.1 x.2.2.2.2.2.1 0 0 0 [] [] x.2.2.2.2.2.2) n (true, c.Wide, c.High, c.Edition, c.Depths, c.Features, d) = kx0 E.1.Wide E.1.High E.1.Edition E.1.Depths E.1.Features E.2 := by
  have := cf_le d
  refine loopN_ind rmu (RI l E) (fun x r => r = kx0 E.1.Wide E.1.High E.1.Edition E.1.Depths E.1.Features E.2) ?_ n _ ⟨true, c, d, rfl, hw, hd, he⟩ (by simp [rmu]; omega)
  rintro _ J ⟨g, c, d, rfl, hw, hd, he⟩ ih
  unfold impl_Catch_L6
  dsimp only
  cases g with
  | false =>
    rw [if_neg (by decide)] at he
    rw [← he]
    rfl
  | true =>
    rw [cond_true, round_impl hl _ hw hd hn]
    exact rnd_step hw hd he fun y hy hm => ih y hy hm
/-! ### What is left over -/
def leftU (d : List Bool) : Nat → List Int
  | 0 => []
  | k + 1 => leftU d k ++ (bif d.getD k false then [] else [(k : Int)])
theorem leftU_len (d : List Bool) : ∀ k, (leftU d k).length ≤ k
  | 0 => Nat.le_refl _
  | k + 1 => by
    have := leftU_len d k
    unfold leftU
    cases d.getD k false <;> simp <;> omega
theorem leftU_succ (d : List Bool) (k : Nat) : leftU d (k + 1) = leftU d k ++ (bif d.getD k false then [] else [(k : Int)]) := rfl
theorem left_spec {R : Type} {n : Nat} {l : List SUpdate} (hl : l.length ≤ 60) (K : List Int → Option R) (x1 x2 x3 : Int) (x4 : List Int) (x5 : List SFeature) {d : List Bool} (hd : d.length = l.length) (hn : 1000000000 < n) :
    loopN (fun (x : Int × List Int) J' => spec_Catch_L19 n K (fun a b => J' (a, b)) l x.1 x1 x2 x3 x4 x5 0 0 0 [] [] x.2 d) n ((0 : Int), []) = K (leftU d l.length) := by
  refine loopN_ind (fun x => l.length - x.1.toNat) (fun x => ∃ k : Nat, k ≤ l.length ∧ x = ((k : Int), leftU d k)) (fun x r => r = K (leftU d l.length)) ?_ n _ ⟨0, by omega, rfl⟩ (by simp; omega)
  rintro _ J ⟨k, hk, rfl⟩ ih
  unfold spec_Catch_L19
  dsimp only at ih ⊢
  by_cases h : k < l.length
  · have hle := leftU_len d k
    have hgo : J (((k + 1 : Nat) : Int), leftU d (k + 1)) = K (leftU d l.length) := ih _ ⟨k + 1, h, rfl⟩ (by simp; omega)
    rw [decide_eq_true (show (k : Int) < (l.length : Int) by omega), cond_true]
    unfold spec_Catch_k3
    rw [ix_nat (by omega), Int.toNat_natCast, chk_dec (by omega), w64_succ (by omega), ← hgo, leftU_succ]
    cases d.getD k false with
    | true => rw [Bool.not_true, cond_false, cond_true, List.append_nil]
    | false => rw [Bool.not_false, cond_true, cond_false, chk_dec (by rw [List.length_append, List.length_singleton]; omega)]
  · have : k = l.length := by omega
    subst this
    rw [decide_eq_false (Int.lt_irrefl _), cond_false]
theorem left_impl {R : Type} {n : Nat} (K : List Int → Option R) (x1 x2 x3 : Int) (x4 : List Int) (x5 : List SFeature) {d : List Bool} (hd : d.length ≤ 60) (hn : 1000000000 < n) :
    loopN (fun (x : Int × List Int) J' => impl_Catch_L18 n K (fun a b => J' (a, b)) (d.length : Int) x.1 x1 x2 x3 x4 x5 0 0 0 [] [] x.2 d) n ((0 : Int), []) = K (leftU d d.length) := by
  refine loopN_ind (fun x => d.length - x.1.toNat) (fun x => ∃ k : Nat, k ≤ d.length ∧ x = ((k : Int), leftU d k)) (fun x r => r = K (leftU d d.length)) ?_ n _ ⟨0, by omega, rfl⟩ (by simp; omega)
  rintro _ J ⟨k, hk, rfl⟩ ih
  unfold impl_Catch_L18
  dsimp only at ih ⊢
  by_cases h : k < d.length
  · have hle := leftU_len d k
    have hgo : J (((k + 1 : Nat) : Int), leftU d (k + 1)) = K (leftU d d.length) := ih _ ⟨k + 1, h, rfl⟩ (by simp; omega)
    rw [decide_eq_true (show (k : Int) < (d.length : Int) by omega), cond_true]
    rw [ix_nat (by omega), Int.toNat_natCast, chk_dec (by omega), w64_succ (by omega), ← hgo, leftU_succ]
    cases d.getD k false with
    | true => rw [Bool.not_true, cond_false, cond_true, List.append_nil]
    | false => rw [Bool.not_false, cond_true, cond_false, chk_dec (by rw [List.length_append, List.length_singleton]; omega)]
  · have : k = d.length := by omega
    subst this
    rw [decide_eq_false (Int.lt_irrefl _), cond_false]
def catchE (c : SChart) (l : List SUpdate) : SChart × List Bool := catchU l (cf (List.replicate l.length false)) c (List.replicate l.length false)
def catchR (c : SChart) (l : List SUpdate) : SChart × List Int := if (l.length : Int) > 60 then (c, []) else ((catchE c l).1, leftU (catchE c l).2 l.length)
theorem catch_spec {n : Nat} {c : SChart} (hw : w_SChart c ≤ 1048576) (l : List SUpdate) (hn : 1000000000 < n) : spec_Catch n c l = some (catchR c l) := by
  obtain ⟨s1, s2⟩ := szw hw
  unfold spec_Catch catchR
  rw [copy_spec n c s1 s2, Option.bind_some, bif_dec]
  split
  · rfl
  · rename_i h60
    have hd : (List.replicate l.length false).length = l.length := List.length_replicate
    unfold spec_Catch_k4
    rw [chk_dec (by omega), chk_dec (by omega), chk_dec (by omega), Int.toNat_natCast]
    rw [rounds_spec (by omega) _ hw hd (E := catchE c l) rfl hn]
    have hk := catchU_keep (l := l) (m := 1048576) (by omega) (cf (List.replicate l.length false)) (c := c) (d := List.replicate l.length false) hw
    have hk2 : (catchE c l).2.length = l.length := hk.2.trans hd
    rw [left_spec (by omega) _ _ _ _ _ _ hk2 hn]
theorem catch_impl {n : Nat} {c : SChart} (hw : w_SChart c ≤ 1048576) (l : List SUpdate) (hn : 1000000000 < n) : impl_Catch n c l = some (catchR c l) := by
  obtain ⟨s1, s2⟩ := szw hw
  unfold impl_Catch catchR
  rw [own_impl n c s1 s2, Option.bind_some, bif_dec]
  split
  · rfl
  · rename_i h60
    have hd : (List.replicate l.length false).length = l.length := List.length_replicate
    unfold impl_Catch_k2
    rw [chk_dec (by omega), chk_dec (by omega), chk_dec (by omega), Int.toNat_natCast]
    rw [rounds_impl (by omega) _ hw hd (E := catchE c l) rfl hn]
    have hk := catchU_keep (l := l) (m := 1048576) (by omega) (cf (List.replicate l.length false)) (c := c) (d := List.replicate l.length false) hw
    have hk2 : (catchE c l).2.length = l.length := hk.2.trans hd
    have hlen := leftU_len (catchE c l).2 (catchE c l).2.length
    rw [left_impl _ _ _ _ _ _ (by omega) hn]
    unfold impl_own_int
    rw [chk_dec (by omega), chk_dec (by omega), chk_dec (by omega), Option.bind_some, hk2]
theorem catch_w {c : SChart} {l : List SUpdate} (hw : w_SChart c ≤ 1048576) : w_SChart (catchR c l).1 ≤ 1048576 ∧ (catchR c l).2.length ≤ 60 := by
  unfold catchR
  split
  · exact ⟨hw, Nat.zero_le _⟩
  · have hlen := leftU_len (catchE c l).2 l.length
    exact ⟨(catchU_keep (by omega) _ hw).1, by show (leftU _ _).length ≤ 60; omega⟩
end Go.Sm
end

section
set_option linter.unusedSimpArgs false
set_option linter.deprecated false
set_option linter.unusedSectionVars false
set_option linter.unusedVariables false
set_option linter.unusedSimpArgs false
namespace Go.Sm
attribute [local irreducible] bd chk ix loopN
theorem guard_szL {w : Nat} {left : Int} {x : Option Bool} (h0 : 0 ≤ left) (h : (w : Int) ≤ left → x = some true) : (bif decide ((if (w : Int) ≤ left then left - (w : Int) else -1) < 0) then some true else x) = some true := by
  by_cases hw : (w : Int) ≤ left
  · rw [if_pos hw, decide_eq_false (by omega)]
    exact h hw
  · rw [if_neg hw]
    rfl
theorem laws_FnExactCatch_true (aC0 : SChart) (aList1 : List SUpdate) (h0 : wfSChart aC0) (h1 : (aList1.length ≤ 9223372036854775807 ∧ ∀ y ∈ aList1, wfSUpdate y)) : ∃ n, laws_FnExactCatch n aC0 aList1 = some true := by
  refine ⟨1000000001, ?_⟩
  generalize hN : (1000000001 : Nat) = n
  have hn : 1000000000 < n := by omega
  unfold laws_FnExactCatch
  rw [laws_szChart_ok (n := n) aC0 (left := 1048576) h0 (by omega) (by omega) hn, Option.bind_some]
  refine guard_sz fun hw => ?_
  rw [if_pos (show (w_SChart aC0 : Int) ≤ 1048576 by omega), laws_szUpdateS_ok (n := n) aList1 (left := 1048576 - (w_SChart aC0 : Int)) h1 (by omega) (by omega) hn, Option.bind_some]
  refine guard_szL (by omega) fun hw2 => ?_
  have hS := catch_spec (n := n) (c := aC0) (by omega) aList1 hn
  have hI := catch_impl (n := n) (c := aC0) (by omega) aList1 hn
  have hW := catch_w (c := aC0) (l := aList1) (by omega)
  generalize catchR aC0 aList1 = R at *
  obtain ⟨R1, R2⟩ := R
  dsimp only at hW
  have w1 : w_SChart aC0 = w_LInt aC0.Depths + w_LSFeature aC0.Features := rfl
  have n1 := n_LInt_le aC0.Depths
  have n2 := n_LSFeature_le aC0.Features
  have n3 := n_LInt_le R1.Depths
  have n4 := n_LSFeature_le R1.Features
  have n5 := n_LSUpdate_le aList1
  have n6 := n_LInt_le R2
  have w4 : w_SChart R1 = w_LInt R1.Depths + w_LSFeature R1.Features := rfl
  have w6 : w_LInt R2 = R2.length := rfl
  obtain ⟨u1, u2, m1, _⟩ := laws_markChart_ok (n := n) aC0 1 (by omega) (by omega) (by omega) hn
  obtain ⟨u3, m2⟩ := laws_markUpdateS_ok (n := n) aList1 (1 + ((n_LInt aC0.Depths + n_LSFeature aC0.Features : Nat) : Int)) (by omega) (by omega) (by omega) hn
  obtain ⟨v1, v2, p1, p2⟩ := laws_markChart_ok (n := n) R1 1 (by omega) (by omega) (by omega) hn
  have p3 := p2 ⟨R1.Wide, R1.High, v1, v2, R1.Edition⟩ rfl rfl
  obtain ⟨v3, q1, q2⟩ := laws_markIntS_ok (n := n) R2 (1 + ((n_LInt R1.Depths + n_LSFeature R1.Features : Nat) : Int)) (by omega) (by omega) (by omega) hn
  have d1 : decide (1 + ((n_LInt aC0.Depths + n_LSFeature aC0.Features : Nat) : Int) + ((n_LSUpdate aList1 : Nat) : Int) < 0) = false := decide_eq_false (by omega)
  have d2 : decide (1 + ((n_LInt R1.Depths + n_LSFeature R1.Features : Nat) : Int) < 0) = false := decide_eq_false (by omega)
  have d3 : decide (1 + ((n_LInt R1.Depths + n_LSFeature R1.Features : Nat) : Int) + ((n_LInt R2 : Nat) : Int) < 0) = false := decide_eq_false (by omega)
  have e1 : (⟨aC0.Wide, aC0.High, aC0.Depths, aC0.Features, aC0.Edition⟩ : SChart) = aC0 := rfl
  have e2 : (⟨R1.Wide, R1.High, R1.Depths, R1.Features, R1.Edition⟩ : SChart) = R1 := rfl
  unfold laws_FnExactCatch_k5 laws_FnExactCatch_k4 laws_FnExactCatch_k3 laws_FnExactCatch_k2 laws_FnExactCatch_k1 laws_FnExactCatch_k0
  simp only [laws_toChart_ok aC0 (show _ ≤ 100000000 by omega) hn, laws_toUpdateS_ok aList1 (show _ ≤ 100000000 by omega) hn, hS, hI, Option.bind_some, laws_eqChart_ok aC0 (show _ ≤ 100000000 by omega) hn, laws_eqChart_ok R1 (show _ ≤ 100000000 by omega) hn, laws_eqUpdateS_ok aList1 (show _ ≤ 100000000 by omega) hn, laws_eqIntS_ok R2 (show _ ≤ 100000000 by omega) hn,
    e1, e2, m1, m2, p1, p3, q1, q2, d1, d2, d3, decide_true, beq_self_eq_true, Bool.not_true, cond_false, cond_true]
end Go.Sm
end
