import Derived.Test.YtmefinakmgnbpaaEngE
import Derived.Test.YtmefinakmgnbpaaEngA
/- The functions as plain functions over data, and that the law answers true for all arguments. Fewest: the search answers as the written-out way, and gives an own list. -/
set_option linter.unusedSimpArgs false
set_option linter.deprecated false
set_option linter.unusedSectionVars false
set_option linter.unusedVariables false
noncomputable section
namespace Go.Sm
structure SHatch where
  Rows : Int
  Tiers : Int
  Most : Int
  Plugs : Int
structure SBox where
  Name : ByteArray
  Weight : Int
  Class : Int
  Cold : Bool
  From : Int
  To : Int
structure SSpot where
  Bay : Int
  Row : Int
  Tier : Int
structure SStow where
  Box : SBox
  Spot : SSpot
structure SFn102 where
  ix : Nat
structure SFn112 where
  ix : Nat
  a0 : List SStow
  a1 : List SHatch
structure SAnon113 where
  code : Int
  is : SFn112
def dSHatch : SHatch := ⟨(0 : Int), (0 : Int), (0 : Int), (0 : Int)⟩
def dSBox : SBox := ⟨str [], (0 : Int), (0 : Int), false, (0 : Int), (0 : Int)⟩
def dSSpot : SSpot := ⟨(0 : Int), (0 : Int), (0 : Int)⟩
def dSStow : SStow := ⟨dSBox, dSSpot⟩
def dSFn102 : SFn102 := ⟨999⟩
def dSFn112 : SFn112 := ⟨999, [], []⟩
def dSAnon113 : SAnon113 := ⟨(0 : Int), dSFn112⟩
def laws_szHatchS (n : Nat) (a0 : List SHatch) (left1 : Int) : Option Int :=
  (bd (w64 (left1 - (a0.length : Int))) fun (v1 : Int) => (bif (decide (v1 < (0 : Int))) then some ((-1 : Int)) else some (v1)))
def laws_szBox (n : Nat) (a0 : SBox) (left1 : Int) : Option Int :=
  (bd (w64 (left1 - (a0.Name.size : Int))) fun (v1 : Int) => (bif (decide (v1 < (0 : Int))) then some ((-1 : Int)) else some (v1)))
def laws_szBoxS_L5 {R : Type} (n : Nat) (kx0 : Int → Option R) (kxr : Int → Option R) (J : Int → Int → Option R) (a3 : List SBox) (left4 : Int) (i5 : Int) : Option R :=
  (bif (decide (i5 < (a3.length : Int))) then ix i5 a3.length ((bd (a3.getD i5.toNat dSBox) fun (e12 : SBox) => (laws_szBox n e12 left4).bind fun r13 => (bif (decide (r13 < (0 : Int))) then kxr (-1 : Int) else J r13 (w64 (i5 + (1 : Int)))))) else kx0 left4)
def laws_szBoxS (n : Nat) (a0 : List SBox) (left1 : Int) : Option Int :=
  (bd (w64 (left1 - (a0.length : Int))) fun (v1 : Int) => (bif (decide (v1 < (0 : Int))) then some ((-1 : Int)) else loopN (fun (x : Int × Int) J' => laws_szBoxS_L5 n (fun left20 => some (left20)) (fun t21 => some (t21)) (fun left22 i23 => J' (left22, i23)) a0 x.1 x.2) n (v1, (0 : Int))))
def laws_toHatch (n : Nat) (a0 : SHatch) : Option SHatch :=
  some (a0)
def laws_toHatchS_L3 {R : Type} (n : Nat) (kx0 : List SHatch → Option R) (J : Int → List SHatch → Option R) (a1 : List SHatch) (i2 : Int) (out3 : List SHatch) : Option R :=
  (bif (decide (i2 < (a1.length : Int))) then ix i2 a1.length ((bd (a1.getD i2.toNat dSHatch) fun (e8 : SHatch) => (laws_toHatch n e8).bind fun r9 => ix i2 out3.length (chk (decide (i2.toNat < out3.length)) (J (w64 (i2 + (1 : Int))) (out3.set i2.toNat r9))))) else kx0 out3)
def laws_toHatchS (n : Nat) (a0 : List SHatch) : Option (List SHatch) :=
  chk (decide ((0 : Int) ≤ (a0.length : Int))) (chk (decide ((a0.length : Int) ≤ (a0.length : Int))) (chk (decide ((a0.length : Int) ≤ 9223372036854775807 ∧ (a0.length : Int) * (32 : Int) ≤ 281474976710656)) (loopN (fun (x : Int × List SHatch) J' => laws_toHatchS_L3 n (fun out10 => some (out10)) (fun i11 out12 => J' (i11, out12)) a0 x.1 x.2) n ((0 : Int), (List.replicate (a0.length : Int).toNat dSHatch)))))
def laws_toBox (n : Nat) (a0 : SBox) : Option SBox :=
  some (a0)
def laws_toBoxS_L3 {R : Type} (n : Nat) (kx0 : List SBox → Option R) (J : Int → List SBox → Option R) (a1 : List SBox) (i2 : Int) (out3 : List SBox) : Option R :=
  (bif (decide (i2 < (a1.length : Int))) then ix i2 a1.length ((bd (a1.getD i2.toNat dSBox) fun (e8 : SBox) => (laws_toBox n e8).bind fun r9 => ix i2 out3.length (chk (decide (i2.toNat < out3.length)) (J (w64 (i2 + (1 : Int))) (out3.set i2.toNat r9))))) else kx0 out3)
def laws_toBoxS (n : Nat) (a0 : List SBox) : Option (List SBox) :=
  chk (decide ((0 : Int) ≤ (a0.length : Int))) (chk (decide ((a0.length : Int) ≤ (a0.length : Int))) (chk (decide ((a0.length : Int) ≤ 9223372036854775807 ∧ (a0.length : Int) * (56 : Int) ≤ 281474976710656)) (loopN (fun (x : Int × List SBox) J' => laws_toBoxS_L3 n (fun out10 => some (out10)) (fun i11 out12 => J' (i11, out12)) a0 x.1 x.2) n ((0 : Int), (List.replicate (a0.length : Int).toNat dSBox)))))
def spec_l1In (n : Nat) (x0 : Int) (a1 : Int) (b2 : Int) : Option Bool :=
  (bif (decide (x0 ≥ a1)) then some ((decide (x0 ≤ b2))) else some (false))
def spec_HatchesOk_k0 {R : Type} (n : Nat) (kx0 : Option R) (kxr : Bool → Option R) (J : Int → Option R) (bays1 : List SHatch) (i3 : Int) : Option R :=
  ix i3 bays1.length ((bd (bays1.getD i3.toNat dSHatch) fun (e4 : SHatch) => (spec_l1In n e4.Rows (1 : Int) (6 : Int)).bind fun r5 => (bif (!r5) then kxr false else (spec_l1In n e4.Tiers (1 : Int) (6 : Int)).bind fun r7 => (bif (!r7) then kxr false else (spec_l1In n e4.Most (0 : Int) (1000000 : Int)).bind fun r9 => (bif (!r9) then kxr false else (spec_l1In n e4.Plugs (0 : Int) (36 : Int)).bind fun r11 => (bif (!r11) then kxr false else J (w64 (i3 + (1 : Int)))))))))
def spec_HatchesOk_L2 {R : Type} (n : Nat) (kx0 : Option R) (kxr : Bool → Option R) (J : Int → Option R) (bays1 : List SHatch) (i2 : Int) : Option R :=
  (bif (decide (i2 < (bays1.length : Int))) then spec_HatchesOk_k0 n kx0 kxr J bays1 i2 else kx0)
def spec_HatchesOk (n : Nat) (bays0 : List SHatch) : Option Bool :=
  loopN (fun (x : Int) J' => spec_HatchesOk_L2 n ((spec_l1In n (bays0.length : Int) (1 : Int) (6 : Int)).bind fun r16 => some (r16)) (fun t17 => some (t17)) J' bays0 x) n ((0 : Int))
def spec_l11Letter_L2 {R : Type} (n : Nat) (kx0 : Int → Option R) (J : Int → Int → Option R) (k1 : Int) (x2 : Int) : Option R :=
  (bif (decide (k1 > (0 : Int))) then (bd (Int.tmod (w64 (x2 + (1 : Int))) (11 : Int)) fun (v11 : Int) => (bif (decide (v11 = (0 : Int))) then (bd (w64 ((w64 (x2 + (1 : Int))) + (1 : Int))) fun (v12 : Int) => J (w64 (k1 - (1 : Int))) v12) else J (w64 (k1 - (1 : Int))) (w64 (x2 + (1 : Int))))) else kx0 x2)
def spec_l11Letter (n : Nat) (k0 : Int) : Option Int :=
  loopN (fun (x : Int × Int) J' => spec_l11Letter_L2 n (fun x17 => some (x17)) (fun k18 x19 => J' (k18, x19)) x.1 x.2) n (k0, (10 : Int))
def spec_CheckDigit_k0 {R : Type} (n : Nat) (kx0 : Int → Option R) (kxr : Int → Option R) (J : Int → Int → Option R) (name1 : ByteArray) (sum7 : Int) (i8 : Int) (x9 : Int) (t10 : Bool) : Option R :=
  (bif t10 then (spec_l11Letter n (w64 (x9 - (65 : Int)))).bind fun r11 => chk (decide (0 ≤ i8)) ((bd (w64 (r11 * 2 ^ (min i8.toNat 64))) fun (v18 : Int) => J (w64 (sum7 + v18)) (w64 (i8 + (1 : Int))))) else (bif (decide (i8 ≥ (4 : Int))) then (spec_l1In n x9 (48 : Int) (57 : Int)).bind fun r21 => (bif r21 then chk (decide (0 ≤ i8)) ((bd (w64 ((w64 (x9 - (48 : Int))) * 2 ^ (min i8.toNat 64))) fun (v35 : Int) => J (w64 (sum7 + v35)) (w64 (i8 + (1 : Int))))) else kxr (-1 : Int)) else kxr (-1 : Int)))
def spec_CheckDigit_k1 {R : Type} (n : Nat) (kx0 : Int → Option R) (kxr : Int → Option R) (J : Int → Int → Option R) (name1 : ByteArray) (sum41 : Int) (i42 : Int) (x43 : Int) : Option R :=
  (bif (decide (i42 ≥ (4 : Int))) then (spec_l1In n x43 (48 : Int) (57 : Int)).bind fun r44 => (bif r44 then chk (decide (0 ≤ i42)) ((bd (w64 ((w64 (x43 - (48 : Int))) * 2 ^ (min i42.toNat 64))) fun (v52 : Int) => J (w64 (sum41 + v52)) (w64 (i42 + (1 : Int))))) else kxr (-1 : Int)) else kxr (-1 : Int))
def spec_CheckDigit_k2 {R : Type} (n : Nat) (kx0 : Int → Option R) (kxr : Int → Option R) (J : Int → Int → Option R) (name1 : ByteArray) (sum4 : Int) (i5 : Int) : Option R :=
  ix i5 name1.size ((bif (decide (i5 < (4 : Int))) then (spec_l1In n (w64 (byteAt name1 i5.toNat)) (65 : Int) (90 : Int)).bind fun r6 => spec_CheckDigit_k0 n kx0 kxr J name1 sum4 i5 (w64 (byteAt name1 i5.toNat)) r6 else spec_CheckDigit_k1 n kx0 kxr J name1 sum4 i5 (w64 (byteAt name1 i5.toNat))))
def spec_CheckDigit_L5 {R : Type} (n : Nat) (kx0 : Int → Option R) (kxr : Int → Option R) (J : Int → Int → Option R) (name1 : ByteArray) (sum2 : Int) (i3 : Int) : Option R :=
  (bif (decide (i3 < (10 : Int))) then spec_CheckDigit_k2 n kx0 kxr J name1 sum2 i3 else kx0 sum2)
def spec_CheckDigit_k3 (n : Nat)  (name0 : ByteArray) : Option Int :=
  loopN (fun (x : Int × Int) J' => spec_CheckDigit_L5 n (fun sum58 => (bd (Int.tmod sum58 (11 : Int)) fun (v59 : Int) => (bd (Int.tmod v59 (10 : Int)) fun (v60 : Int) => some (v60)))) (fun t61 => some (t61)) (fun sum62 i63 => J' (sum62, i63)) name0 x.1 x.2) n ((0 : Int), (0 : Int))
def spec_CheckDigit (n : Nat) (name0 : ByteArray) : Option Int :=
  (bif (!(decide ((name0.size : Int) = (10 : Int)))) then some ((-1 : Int)) else spec_CheckDigit_k3 n  name0)
def spec_BoxName (n : Nat) (text0 : ByteArray) : Option Bool :=
  (bif (!(decide ((text0.size : Int) = (11 : Int)))) then some (false) else chk (decide ((10 : Int) ≤ (text0.size : Int))) ((spec_CheckDigit n (text0.extract 0 10)).bind fun r3 => (bif (decide (r3 ≥ (0 : Int))) then ix (10 : Int) text0.size (some ((decide ((w64 (byteAt text0 10)) = (w64 ((48 : Int) + r3)))))) else some (false))))
def spec_BoxOk (n : Nat) (b0 : SBox) : Option Bool :=
  (spec_BoxName n b0.Name).bind fun r1 => (bif r1 then (spec_l1In n b0.Weight (1 : Int) (40000 : Int)).bind fun r2 => (bif r2 then (spec_l1In n b0.Class (0 : Int) (9 : Int)).bind fun r3 => (bif r3 then (spec_l1In n b0.From (0 : Int) (19 : Int)).bind fun r4 => (bif r4 then (bd (w64 (b0.From + (1 : Int))) fun (v5 : Int) => (spec_l1In n b0.To v5 (19 : Int)).bind fun r6 => some (r6)) else some (false)) else some (false)) else some (false)) else some (false))
def spec_l12At_L2 {R : Type} (n : Nat) (kx0 : Option R) (kxr : Int → Option R) (J : Int → Option R) (list1 : List SStow) (i2 : Int) (s3 : SSpot) : Option R :=
  (bif (decide (i2 < (list1.length : Int))) then ix i2 list1.length ((bd (list1.getD i2.toNat dSStow) fun (e7 : SStow) => (bif ((decide (e7.Spot.Bay = s3.Bay)) && ((decide (e7.Spot.Row = s3.Row)) && (decide (e7.Spot.Tier = s3.Tier)))) then kxr i2 else J (w64 (i2 + (1 : Int)))))) else kx0)
def spec_l12At (n : Nat) (list0 : List SStow) (s1 : SSpot) : Option Int :=
  loopN (fun (x : Int) J' => spec_l12At_L2 n (some ((-1 : Int))) (fun t9 => some (t9)) J' list0 x s1) n ((0 : Int))
def spec_l12Stack_k0 {R : Type} (n : Nat) (kx0 : List SBox → Option R) (J : Int → List SBox → Option R) (list1 : List SStow) (bay2 : Int) (row3 : Int) (t6 : Int) (out7 : List SBox) : Option R :=
  (spec_l12At n list1 (⟨bay2, row3, t6⟩ : SSpot)).bind fun r8 => (bif (decide (r8 ≥ (0 : Int))) then ix r8 list1.length ((bd (list1.getD r8.toNat dSStow) fun (e9 : SStow) => chk (decide ((out7 ++ [e9.Box]).length * 56 ≤ 140737488355328)) (J (w64 (t6 + (1 : Int))) (out7 ++ [e9.Box])))) else J (w64 (t6 + (1 : Int))) out7)
def spec_l12Stack_L3 {R : Type} (n : Nat) (kx0 : List SBox → Option R) (J : Int → List SBox → Option R) (list1 : List SStow) (bay2 : Int) (row3 : Int) (t4 : Int) (out5 : List SBox) : Option R :=
  (bif (decide (t4 < (20 : Int))) then spec_l12Stack_k0 n kx0 J list1 bay2 row3 t4 out5 else kx0 out5)
def spec_l12Stack (n : Nat) (list0 : List SStow) (bay1 : Int) (row2 : Int) : Option (List SBox) :=
  loopN (fun (x : Int × List SBox) J' => spec_l12Stack_L3 n (fun out14 => some (out14)) (fun t15 out16 => J' (t15, out16)) list0 bay1 row2 x.1 x.2) n ((0 : Int), [])
def spec_StackOk_k0 {R : Type} (n : Nat) (kx0 : Int → Option R) (kxr : Bool → Option R) (J : Int → Int → Option R) (boxes1 : List SBox) (most2 : Int) (sum5 : Int) (i6 : Int) : Option R :=
  ix i6 boxes1.length ((bd (boxes1.getD i6.toNat dSBox) fun (e7 : SBox) => (bif (decide ((boxes1.length : Int) > (20 : Int))) then kxr false else (spec_BoxOk n e7).bind fun r11 => (bif (!r11) then kxr false else (bif (decide (i6 > (0 : Int))) then ix (w64 (i6 - (1 : Int))) boxes1.length ((bd (boxes1.getD ((w64 (i6 - (1 : Int))).toNat) dSBox) fun (e15 : SBox) => (bif (decide (e15.Weight < e7.Weight)) then kxr false else (bif e7.Cold then (bif (decide (i6 > (1 : Int))) then kxr false else J (w64 (sum5 + e7.Weight)) (w64 (i6 + (1 : Int)))) else J (w64 (sum5 + e7.Weight)) (w64 (i6 + (1 : Int))))))) else (bif e7.Cold then (bif (decide (i6 > (1 : Int))) then kxr false else J (w64 (sum5 + e7.Weight)) (w64 (i6 + (1 : Int)))) else J (w64 (sum5 + e7.Weight)) (w64 (i6 + (1 : Int)))))))))
def spec_StackOk_L3 {R : Type} (n : Nat) (kx0 : Int → Option R) (kxr : Bool → Option R) (J : Int → Int → Option R) (boxes1 : List SBox) (most2 : Int) (sum3 : Int) (i4 : Int) : Option R :=
  (bif (decide (i4 < (boxes1.length : Int))) then spec_StackOk_k0 n kx0 kxr J boxes1 most2 sum3 i4 else kx0 sum3)
def spec_StackOk (n : Nat) (boxes0 : List SBox) (most1 : Int) : Option Bool :=
  loopN (fun (x : Int × Int) J' => spec_StackOk_L3 n (fun sum68 => (spec_l1In n most1 (0 : Int) (1000000 : Int)).bind fun r69 => (bif r69 then some ((decide (sum68 ≤ most1))) else some (false))) (fun t71 => some (t71)) (fun sum72 i73 => J' (sum72, i73)) boxes0 most1 x.1 x.2) n ((0 : Int), (0 : Int))
def spec_l12Cold_k0 {R : Type} (n : Nat) (kx0 : Int → Option R) (J : Int → Int → Option R) (list1 : List SStow) (bay2 : Int) (n5 : Int) (i6 : Int) : Option R :=
  ix i6 list1.length ((bd (list1.getD i6.toNat dSStow) fun (e7 : SStow) => (bif (decide (e7.Spot.Bay = bay2)) then ix i6 list1.length ((bd (list1.getD i6.toNat dSStow) fun (e8 : SStow) => (bif e8.Box.Cold then J (w64 (n5 + (1 : Int))) (w64 (i6 + (1 : Int))) else J n5 (w64 (i6 + (1 : Int)))))) else J n5 (w64 (i6 + (1 : Int))))))
def spec_l12Cold_L3 {R : Type} (n : Nat) (kx0 : Int → Option R) (J : Int → Int → Option R) (list1 : List SStow) (bay2 : Int) (n3 : Int) (i4 : Int) : Option R :=
  (bif (decide (i4 < (list1.length : Int))) then spec_l12Cold_k0 n kx0 J list1 bay2 n3 i4 else kx0 n3)
def spec_l12Cold (n : Nat) (list0 : List SStow) (bay1 : Int) : Option Int :=
  loopN (fun (x : Int × Int) J' => spec_l12Cold_L3 n (fun n26 => some (n26)) (fun n27 i28 => J' (n27, i28)) list0 bay1 x.1 x.2) n ((0 : Int), (0 : Int))
def spec_l11Spot (n : Nat) (s0 : SSpot) : Option Bool :=
  (spec_l1In n s0.Bay (0 : Int) (19 : Int)).bind fun r1 => (bif r1 then (spec_l1In n s0.Row (0 : Int) (19 : Int)).bind fun r2 => (bif r2 then (spec_l1In n s0.Tier (0 : Int) (19 : Int)).bind fun r3 => some (r3) else some (false)) else some (false))
def spec_l3Size (n : Nat) (x0 : Int) : Option Int :=
  (bif (decide (x0 < (0 : Int))) then some ((w64 (0 - x0))) else some (x0))
def spec_l1Least (n : Nat) (a0 : Int) (b1 : Int) : Option Int :=
  (bif (decide (a0 < b1)) then some (a0) else some (b1))
def spec_Apart_k0 (n : Nat)  (a0 : Int) (b1 : Int) (x6 : Int) (t7 : Bool) : Option Int :=
  (bif t7 then some ((0 : Int)) else (bif (decide (x6 = (1 : Int))) then some ((3 : Int)) else (bd (Int.tmod (w64 (a0 * b1)) (6 : Int)) fun (v8 : Int) => (bif (decide (v8 = (0 : Int))) then some ((2 : Int)) else (bd (Int.tmod (w64 (a0 + b1)) (2 : Int)) fun (v9 : Int) => (bif (decide (v9 = (1 : Int))) then some ((1 : Int)) else some ((0 : Int))))))))
def spec_Apart (n : Nat) (a0 : Int) (b1 : Int) : Option Int :=
  (spec_l1In n a0 (0 : Int) (9 : Int)).bind fun r1 => (bif (!r1) then some ((-1 : Int)) else (spec_l1In n b1 (0 : Int) (9 : Int)).bind fun r2 => (bif (!r2) then some ((-1 : Int)) else (spec_l1Least n a0 b1).bind fun r14 => (bif (decide (r14 = (0 : Int))) then some ((0 : Int)) else spec_Apart_k0 n  a0 b1 r14 (decide (a0 = b1)))))
def spec_KeepsApart_k0 (n : Nat)  (a0 : SBox) (sa1 : SSpot) (b2 : SBox) (sb3 : SSpot) : Option Bool :=
  (bd (w64 (sa1.Bay - sb3.Bay)) fun (v6 : Int) => (spec_l3Size n v6).bind fun r7 => (bd (w64 (sa1.Row - sb3.Row)) fun (v8 : Int) => (spec_l3Size n v8).bind fun r9 => (bd (w64 (sa1.Tier - sb3.Tier)) fun (v10 : Int) => (spec_l3Size n v10).bind fun r11 => (spec_Apart n a0.Class b2.Class).bind fun r12 => (bif (decide (r12 = (1 : Int))) then (bd (w64 ((w64 (r7 + r9)) + r11)) fun (v13 : Int) => some ((!(decide (v13 = (1 : Int)))))) else (bif (decide (r12 = (2 : Int))) then some ((decide (r7 ≥ (2 : Int)))) else (bif (decide (r12 = (3 : Int))) then some (false) else some (true)))))))
def spec_KeepsApart (n : Nat) (a0 : SBox) (sa1 : SSpot) (b2 : SBox) (sb3 : SSpot) : Option Bool :=
  (spec_BoxOk n a0).bind fun r1 => (bif (!r1) then some (false) else (spec_BoxOk n b2).bind fun r2 => (bif (!r2) then some (false) else (spec_l11Spot n sa1).bind fun r3 => (bif (!r3) then some (false) else (spec_l11Spot n sb3).bind fun r4 => (bif (!r4) then some (false) else (bif ((decide (sa1.Bay = sb3.Bay)) && ((decide (sa1.Row = sb3.Row)) && (decide (sa1.Tier = sb3.Tier)))) then some (false) else spec_KeepsApart_k0 n  a0 sa1 b2 sb3)))))
def spec_l12Fails_k0 {R : Type} (n : Nat) (kx1 : Option R) (kxr : Bool → Option R) (J : Int → Option R) (list3 : List SStow) (i4 : Int) (k8 : Int) (x6 : SStow) (s7 : SSpot) : Option R :=
  ix k8 list3.length ((bd (list3.getD k8.toNat dSStow) fun (e9 : SStow) => (bif (decide (e9.Box.Name = x6.Box.Name)) then kxr true else ix k8 list3.length ((bd (list3.getD k8.toNat dSStow) fun (e11 : SStow) => (bif ((decide (e11.Spot.Bay = s7.Bay)) && ((decide (e11.Spot.Row = s7.Row)) && (decide (e11.Spot.Tier = s7.Tier)))) then kxr true else J (w64 (k8 + (1 : Int)))))))))
def spec_l12Fails_L8 {R : Type} (n : Nat) (kx1 : Option R) (kxr : Bool → Option R) (J : Int → Option R) (list3 : List SStow) (i4 : Int) (k5 : Int) (x6 : SStow) (s7 : SSpot) : Option R :=
  (bif (decide (k5 < i4)) then spec_l12Fails_k0 n kx1 kxr J list3 i4 k5 x6 s7 else kx1)
def spec_l12Fails_k1 {R : Type} (n : Nat) (kx3 : Option R) (kxr : Bool → Option R) (J : Int → Option R) (list40 : List SStow) (i41 : Int) (k45 : Int) (x43 : SStow) (s44 : SSpot) : Option R :=
  ix k45 list40.length ((bd (list40.getD k45.toNat dSStow) fun (e46 : SStow) => ix k45 list40.length ((bd (list40.getD k45.toNat dSStow) fun (e47 : SStow) => (spec_KeepsApart n e46.Box e47.Spot x43.Box s44).bind fun r48 => (bif (!r48) then kxr true else J (w64 (k45 + (1 : Int))))))))
def spec_l12Fails_L22 {R : Type} (n : Nat) (kx3 : Option R) (kxr : Bool → Option R) (J : Int → Option R) (list40 : List SStow) (i41 : Int) (k42 : Int) (x43 : SStow) (s44 : SSpot) : Option R :=
  (bif (decide (k42 < i41)) then spec_l12Fails_k1 n kx3 kxr J list40 i41 k42 x43 s44 else kx3)
def spec_l12Fails (n : Nat) (bays0 : List SHatch) (list1 : List SStow) (i2 : Int) (code3 : Int) : Option Bool :=
  ix i2 list1.length ((bd (list1.getD i2.toNat dSStow) fun (e1 : SStow) => (bif (decide (code3 = (1 : Int))) then (spec_BoxOk n e1.Box).bind fun r2 => some ((!r2)) else (bif (decide (code3 = (2 : Int))) then loopN (fun (x : Int) J' => spec_l12Fails_L8 n (some (false)) (fun t16 => some (t16)) J' list1 i2 x e1 e1.Spot) n ((0 : Int)) else (bif (decide (code3 = (3 : Int))) then (bd (w64 ((bays0.length : Int) - (1 : Int))) fun (v18 : Int) => (spec_l1In n e1.Spot.Bay (0 : Int) v18).bind fun r19 => (bif (!r19) then some (true) else ix e1.Spot.Bay bays0.length ((bd (bays0.getD e1.Spot.Bay.toNat dSHatch) fun (e20 : SHatch) => (bd (w64 (e20.Rows - (1 : Int))) fun (v21 : Int) => (spec_l1In n e1.Spot.Row (0 : Int) v21).bind fun r22 => (bif (!r22) then some (true) else ix e1.Spot.Bay bays0.length ((bd (bays0.getD e1.Spot.Bay.toNat dSHatch) fun (e23 : SHatch) => (bd (w64 (e23.Tiers - (1 : Int))) fun (v24 : Int) => (spec_l1In n e1.Spot.Tier (0 : Int) v24).bind fun r25 => some ((!r25))))))))))) else (bif (decide (code3 = (4 : Int))) then (bif (decide (e1.Spot.Tier > (0 : Int))) then (bd (w64 (e1.Spot.Tier - (1 : Int))) fun (v27 : Int) => (spec_l12At n list1 (⟨e1.Spot.Bay, e1.Spot.Row, v27⟩ : SSpot)).bind fun r28 => some ((decide (r28 < (0 : Int))))) else some (false)) else (bif (decide (code3 = (5 : Int))) then (spec_l12Stack n list1 e1.Spot.Bay e1.Spot.Row).bind fun r30 => ix e1.Spot.Bay bays0.length ((bd (bays0.getD e1.Spot.Bay.toNat dSHatch) fun (e31 : SHatch) => (spec_StackOk n r30 e31.Most).bind fun r32 => some ((!r32)))) else (bif (decide (code3 = (6 : Int))) then (bif e1.Box.Cold then (spec_l12Cold n list1 e1.Spot.Bay).bind fun r33 => ix e1.Spot.Bay bays0.length ((bd (bays0.getD e1.Spot.Bay.toNat dSHatch) fun (e34 : SHatch) => some ((decide (r33 > e34.Plugs))))) else some (false)) else loopN (fun (x : Int) J' => spec_l12Fails_L22 n (some (false)) (fun t52 => some (t52)) J' list1 i2 x e1 e1.Spot) n ((0 : Int))))))))))
def spec_StowCode_L7 {R : Type} (n : Nat) (kx2 : Option R) (kxr : Int → Option R) (J : Int → Option R) (bays7 : List SHatch) (list8 : List SStow) (code9 : Int) (i10 : Int) : Option R :=
  (bif (decide (i10 < (list8.length : Int))) then (spec_l12Fails n bays7 list8 i10 code9).bind fun r14 => (bif r14 then kxr i10 else J (w64 (i10 + (1 : Int)))) else kx2)
def spec_StowCode_L4 {R : Type} (n : Nat) (kx0 : Option R) (kxr : Int → Int → Option R) (J : Int → Option R) (bays3 : List SHatch) (list4 : List SStow) (code5 : Int) : Option R :=
  (bif (decide (code5 ≤ (7 : Int))) then loopN (fun (x : Int) J' => spec_StowCode_L7 n ((bd (w64 (code5 + (1 : Int))) fun (v19 : Int) => J v19)) (fun t20 => kxr code5 t20) J' bays3 list4 code5 x) n ((0 : Int)) else kx0)
def spec_StowCode (n : Nat) (bays0 : List SHatch) (list1 : List SStow) : Option (Int × Int) :=
  (spec_HatchesOk n bays0).bind fun r1 => (bif (!r1) then some ((1 : Int), (0 : Int)) else (bif (decide ((list1.length : Int) > (40 : Int))) then some ((1 : Int), (0 : Int)) else loopN (fun (x : Int) J' => spec_StowCode_L4 n (some ((0 : Int), (0 : Int))) (fun t28 t29 => some (t28, t29)) J' bays0 list1 x) n ((1 : Int))))
def spec_l12Over_k0 {R : Type} (n : Nat) (kx2 : Int → Option R) (J : Int → Int → Option R) (list6 : List SStow) (n10 : Int) (i8 : Int) (k11 : Int) : Option R :=
  ix i8 list6.length ((bd (list6.getD i8.toNat dSStow) fun (e12 : SStow) => ix k11 list6.length ((bd (list6.getD k11.toNat dSStow) fun (e13 : SStow) => (bif (decide (e12.Spot.Bay = e13.Spot.Bay)) then (bif (decide (e12.Spot.Row = e13.Spot.Row)) then (bif (decide (e12.Spot.Tier > e13.Spot.Tier)) then (bif (decide (e12.Box.To > e13.Box.To)) then J (w64 (n10 + (1 : Int))) (w64 (k11 + (1 : Int))) else J n10 (w64 (k11 + (1 : Int)))) else J n10 (w64 (k11 + (1 : Int)))) else J n10 (w64 (k11 + (1 : Int)))) else J n10 (w64 (k11 + (1 : Int))))))))
def spec_l12Over_L6 {R : Type} (n : Nat) (kx2 : Int → Option R) (J : Int → Int → Option R) (list6 : List SStow) (n7 : Int) (i8 : Int) (k9 : Int) : Option R :=
  (bif (decide (k9 < (list6.length : Int))) then spec_l12Over_k0 n kx2 J list6 n7 i8 k9 else kx2 n7)
def spec_l12Over_L3 {R : Type} (n : Nat) (kx0 : Int → Option R) (J : Int → Int → Option R) (list1 : List SStow) (n2 : Int) (i3 : Int) : Option R :=
  (bif (decide (i3 < (list1.length : Int))) then loopN (fun (x : Int × Int) J' => spec_l12Over_L6 n (fun n42 => J n42 (w64 (i3 + (1 : Int)))) (fun n43 k44 => J' (n43, k44)) list1 x.1 i3 x.2) n (n2, (0 : Int)) else kx0 n2)
def spec_l12Over (n : Nat) (list0 : List SStow) : Option Int :=
  loopN (fun (x : Int × Int) J' => spec_l12Over_L3 n (fun n45 => some (n45)) (fun n46 i47 => J' (n46, i47)) list0 x.1 x.2) n ((0 : Int), (0 : Int))
def spec_l12Seek_k0 {R : Type} (n : Nat) (rc : List SHatch → List SBox → List SSpot → List SStow → List SStow → Bool → Option (List SStow × Bool)) (kx0 : Bool → List SStow → Option R) (J : Bool → Int → List SStow → Option R) (bays21 : List SHatch) (boxes22 : List SBox) (spots23 : List SSpot) (so24 : List SStow) (has28 : Bool) (i29 : Int) (best30 : List SStow) : Option R :=
  ix i29 spots23.length ((bd (spots23.getD i29.toNat dSSpot) fun (e31 : SSpot) => (spec_l12At n so24 e31).bind fun r32 => (bif (decide (r32 < (0 : Int))) then chk (decide (so24.length * 80 ≤ 140737488355328)) (ix (so24.length : Int) boxes22.length ((bd (boxes22.getD ((so24.length : Int).toNat) dSBox) fun (e33 : SBox) => ix i29 spots23.length ((bd (spots23.getD i29.toNat dSSpot) fun (e34 : SSpot) => (bd (so24 ++ [(⟨e33, e34⟩ : SStow)]) fun (l35 : List SStow) => chk (decide (l35.length * 80 ≤ 140737488355328)) ((rc bays21 boxes22 spots23 l35 best30 has28).bind fun r36 => J r36.2 (w64 (i29 + (1 : Int))) r36.1))))))) else J has28 (w64 (i29 + (1 : Int))) best30)))
def spec_l12Seek_L7 {R : Type} (n : Nat) (rc : List SHatch → List SBox → List SSpot → List SStow → List SStow → Bool → Option (List SStow × Bool)) (kx0 : Bool → List SStow → Option R) (J : Bool → Int → List SStow → Option R) (bays21 : List SHatch) (boxes22 : List SBox) (spots23 : List SSpot) (so24 : List SStow) (has25 : Bool) (i26 : Int) (best27 : List SStow) : Option R :=
  (bif (decide (i26 < (spots23.length : Int))) then spec_l12Seek_k0 n rc kx0 J bays21 boxes22 spots23 so24 has25 i26 best27 else kx0 has25 best27)
def spec_l12Seek_b (n : Nat) (rc : List SHatch → List SBox → List SSpot → List SStow → List SStow → Bool → Option (List SStow × Bool)) (bays0 : List SHatch) (boxes1 : List SBox) (spots2 : List SSpot) (so3 : List SStow) (best4 : List SStow) (has5 : Bool) : Option (List SStow × Bool) :=
  (bif (decide ((so3.length : Int) = (boxes1.length : Int))) then (spec_StowCode n bays0 so3).bind fun r1 => (bif (decide (r1.1 = (0 : Int))) then (bif (!has5) then chk (decide (so3.length * 80 ≤ 140737488355328)) (some (so3, true)) else (spec_l12Over n so3).bind fun r4 => (spec_l12Over n best4).bind fun r5 => (bif (decide (r4 < r5)) then chk (decide (so3.length * 80 ≤ 140737488355328)) (some (so3, true)) else some (best4, has5))) else some (best4, has5)) else loopN (fun (x : Bool × Int × List SStow) J' => spec_l12Seek_L7 n rc (fun has48 best49 => some (best49, has48)) (fun has50 i51 best52 => J' (has50, i51, best52)) bays0 boxes1 spots2 so3 x.1 x.2.1 x.2.2) n (has5, (0 : Int), best4))
def spec_l12Seek_r (n : Nat) : Nat → List SHatch → List SBox → List SSpot → List SStow → List SStow → Bool → Option (List SStow × Bool)
  | 0 => fun _ _ _ _ _ _ => none
  | m + 1 => fun bays0 boxes1 spots2 so3 best4 has5 => spec_l12Seek_b n (spec_l12Seek_r n m) bays0 boxes1 spots2 so3 best4 has5
def spec_l12Seek (n : Nat) (bays0 : List SHatch) (boxes1 : List SBox) (spots2 : List SSpot) (so3 : List SStow) (best4 : List SStow) (has5 : Bool) : Option (List SStow × Bool) := spec_l12Seek_r n n bays0 boxes1 spots2 so3 best4 has5
def spec_Fewest_L7 {R : Type} (n : Nat) (kx2 : Option R) (kxr : Bool → List SStow → Option R) (J : Int → Option R) (bays7 : List SHatch) (boxes8 : List SBox) (i9 : Int) (k10 : Int) : Option R :=
  (bif (decide (k10 < i9)) then ix k10 boxes8.length ((bd (boxes8.getD k10.toNat dSBox) fun (e15 : SBox) => ix i9 boxes8.length ((bd (boxes8.getD i9.toNat dSBox) fun (e16 : SBox) => (bif (decide (e15.Name = e16.Name)) then kxr false [] else J (w64 (k10 + (1 : Int)))))))) else kx2)
def spec_Fewest_k0 {R : Type} (n : Nat) (kx0 : Option R) (kxr : Bool → List SStow → Option R) (J : Int → Option R) (bays3 : List SHatch) (boxes4 : List SBox) (i6 : Int) : Option R :=
  loopN (fun (x : Int) J' => spec_Fewest_L7 n (ix i6 boxes4.length ((bd (boxes4.getD i6.toNat dSBox) fun (e18 : SBox) => (spec_BoxOk n e18).bind fun r19 => (bif (!r19) then kxr false [] else J (w64 (i6 + (1 : Int))))))) (fun t21 t22 => kxr t21 t22) J' bays3 boxes4 i6 x) n ((0 : Int))
def spec_Fewest_L4 {R : Type} (n : Nat) (kx0 : Option R) (kxr : Bool → List SStow → Option R) (J : Int → Option R) (bays3 : List SHatch) (boxes4 : List SBox) (i5 : Int) : Option R :=
  (bif (decide (i5 < (boxes4.length : Int))) then spec_Fewest_k0 n kx0 kxr J bays3 boxes4 i5 else kx0)
def spec_Fewest_L21 {R : Type} (n : Nat) (kx8 : List SSpot → Option R) (J : Int → List SSpot → Option R) (bays38 : List SHatch) (boxes39 : List SBox) (b40 : Int) (r41 : Int) (t42 : Int) (spots43 : List SSpot) : Option R :=
  ix b40 bays38.length ((bd (bays38.getD b40.toNat dSHatch) fun (e44 : SHatch) => (bif (decide (t42 < e44.Tiers)) then (bd (spots43 ++ [(⟨b40, r41, t42⟩ : SSpot)]) fun (l48 : List SSpot) => chk (decide (l48.length * 24 ≤ 140737488355328)) (J (w64 (t42 + (1 : Int))) l48)) else kx8 spots43)))
def spec_Fewest_L18 {R : Type} (n : Nat) (kx6 : List SSpot → Option R) (J : Int → List SSpot → Option R) (bays30 : List SHatch) (boxes31 : List SBox) (b32 : Int) (r33 : Int) (spots34 : List SSpot) : Option R :=
  ix b32 bays30.length ((bd (bays30.getD b32.toNat dSHatch) fun (e35 : SHatch) => (bif (decide (r33 < e35.Rows)) then loopN (fun (x : Int × List SSpot) J' => spec_Fewest_L21 n (fun spots52 => J (w64 (r33 + (1 : Int))) spots52) (fun t53 spots54 => J' (t53, spots54)) bays30 boxes31 b32 r33 x.1 x.2) n ((0 : Int), spots34) else kx6 spots34)))
def spec_Fewest_L15 {R : Type} (n : Nat) (kx4 : List SSpot → Option R) (J : Int → List SSpot → Option R) (bays24 : List SHatch) (boxes25 : List SBox) (b26 : Int) (spots27 : List SSpot) : Option R :=
  (bif (decide (b26 < (bays24.length : Int))) then loopN (fun (x : Int × List SSpot) J' => spec_Fewest_L18 n (fun spots58 => J (w64 (b26 + (1 : Int))) spots58) (fun r59 spots60 => J' (r59, spots60)) bays24 boxes25 b26 x.1 x.2) n ((0 : Int), spots27) else kx4 spots27)
def spec_Fewest_k1 (n : Nat)  (bays0 : List SHatch) (boxes1 : List SBox) : Option (List SStow × Bool) :=
  loopN (fun (x : Int) J' => spec_Fewest_L4 n (loopN (fun (x : Int × List SSpot) J' => spec_Fewest_L15 n (fun spots61 => (bif (decide ((spots61.length : Int) > (8 : Int))) then some ([], false) else (spec_l12Seek n bays0 boxes1 spots61 [] [] false).bind fun r64 => some (r64.1, r64.2))) (fun b65 spots66 => J' (b65, spots66)) bays0 boxes1 x.1 x.2) n ((0 : Int), [])) (fun t67 t68 => some (t68, t67)) J' bays0 boxes1 x) n ((0 : Int))
def spec_Fewest (n : Nat) (bays0 : List SHatch) (boxes1 : List SBox) : Option (List SStow × Bool) :=
  (spec_HatchesOk n bays0).bind fun r1 => (bif (!r1) then some ([], false) else (bif (decide ((boxes1.length : Int) > (5 : Int))) then some ([], false) else spec_Fewest_k1 n  bays0 boxes1))
def impl_in (n : Nat) (n0 : Int) (least1 : Int) (most2 : Int) : Option Bool :=
  (bif (decide (n0 ≥ least1)) then some ((decide (n0 ≤ most2))) else some (false))
def impl_HatchesOk_1 (n : Nat) (h0 : SHatch) : Option Bool :=
  (impl_in n h0.Rows (1 : Int) (6 : Int)).bind fun r1 => (bif (!r1) then some (true) else (impl_in n h0.Tiers (1 : Int) (6 : Int)).bind fun r2 => (bif (!r2) then some (true) else (impl_in n h0.Most (0 : Int) (1000000 : Int)).bind fun r3 => (bif (!r3) then some (true) else (impl_in n h0.Plugs (0 : Int) (36 : Int)).bind fun r4 => some ((!r4)))))
def sIndex_HatchesOk_1_L2 {R : Type} (n : Nat) (kx0 : Option R) (kxr : Int → Option R) (J : Int → Option R) (s1 : List SHatch) (t2 : Int) (t3 : Int) : Option R :=
  (bif (decide (t3 < t2)) then ix t3 s1.length ((bd (s1.getD t3.toNat dSHatch) fun (e8 : SHatch) => (impl_HatchesOk_1 n e8).bind fun r9 => (bif r9 then kxr t3 else J (w64 (t3 + (1 : Int)))))) else kx0)
def sIndex_HatchesOk_1 (n : Nat) (s0 : List SHatch) : Option Int :=
  loopN (fun (x : Int) J' => sIndex_HatchesOk_1_L2 n (some ((-1 : Int))) (fun t11 => some (t11)) J' s0 (s0.length : Int) x) n ((0 : Int))
def sContains_HatchesOk_1 (n : Nat) (s0 : List SHatch) : Option Bool :=
  (sIndex_HatchesOk_1 n s0).bind fun r1 => some ((decide (r1 ≥ (0 : Int))))
def impl_HatchesOk (n : Nat) (bays0 : List SHatch) : Option Bool :=
  (impl_in n (bays0.length : Int) (1 : Int) (6 : Int)).bind fun r1 => (bif r1 then (sContains_HatchesOk_1 n bays0).bind fun r2 => some ((!r2)) else some (false))
def impl_valueOf_L3 {R : Type} (n : Nat) (kx0 : Int → Option R) (J : Int → Int → Option R) (c1 : Int) (n2 : Int) (k3 : Int) : Option R :=
  (bif (decide (k3 < c1)) then (bd (Int.tmod (w64 (n2 + (1 : Int))) (11 : Int)) fun (v12 : Int) => (bif (decide (v12 = (0 : Int))) then (bd (w64 ((w64 (n2 + (1 : Int))) + (1 : Int))) fun (v13 : Int) => J v13 (wu8 (k3 + (1 : Int)))) else J (w64 (n2 + (1 : Int))) (wu8 (k3 + (1 : Int))))) else kx0 n2)
def impl_valueOf (n : Nat) (c0 : Int) : Option Int :=
  loopN (fun (x : Int × Int) J' => impl_valueOf_L3 n (fun n18 => some (n18)) (fun n19 k20 => J' (n19, k20)) c0 x.1 x.2) n ((10 : Int), (65 : Int))
def impl_CheckDigit_k0 {R : Type} (n : Nat) (kx0 : Int → Option R) (kxr : Int → Option R) (J : Int → Int → Option R) (name1 : ByteArray) (sum6 : Int) (i7 : Int) (c8 : Int) (t9 : Int) (t10 : Bool) : Option R :=
  (bif t10 then (impl_valueOf n c8).bind fun r11 => chk (decide (0 ≤ i7)) ((bd (w64 (r11 * 2 ^ (min i7.toNat 64))) fun (v19 : Int) => J (w64 (sum6 + v19)) (w64 (t9 + (1 : Int))))) else (bif (decide (i7 ≥ (4 : Int))) then (bif (decide (c8 ≥ (48 : Int))) then (bif (decide (c8 ≤ (57 : Int))) then chk (decide (0 ≤ i7)) ((bd (w64 ((w64 (wu8 (c8 - (48 : Int)))) * 2 ^ (min i7.toNat 64))) fun (v38 : Int) => J (w64 (sum6 + v38)) (w64 (t9 + (1 : Int))))) else kxr (-1 : Int)) else kxr (-1 : Int)) else kxr (-1 : Int)))
def impl_CheckDigit_k1 {R : Type} (n : Nat) (kx0 : Int → Option R) (kxr : Int → Option R) (J : Int → Int → Option R) (name1 : ByteArray) (sum49 : Int) (i50 : Int) (c51 : Int) (t52 : Int) : Option R :=
  (bif (decide (i50 ≥ (4 : Int))) then (bif (decide (c51 ≥ (48 : Int))) then (bif (decide (c51 ≤ (57 : Int))) then chk (decide (0 ≤ i50)) ((bd (w64 ((w64 (wu8 (c51 - (48 : Int)))) * 2 ^ (min i50.toNat 64))) fun (v62 : Int) => J (w64 (sum49 + v62)) (w64 (t52 + (1 : Int))))) else kxr (-1 : Int)) else kxr (-1 : Int)) else kxr (-1 : Int))
def impl_CheckDigit_k2 {R : Type} (n : Nat) (kx0 : Int → Option R) (kxr : Int → Option R) (J : Int → Int → Option R) (name1 : ByteArray) (sum4 : Int) (t5 : Int) : Option R :=
  ix t5 name1.size ((bif (decide (t5 < (4 : Int))) then (bif (decide ((byteAt name1 t5.toNat) ≥ (65 : Int))) then impl_CheckDigit_k0 n kx0 kxr J name1 sum4 t5 (byteAt name1 t5.toNat) t5 (decide ((byteAt name1 t5.toNat) ≤ (90 : Int))) else impl_CheckDigit_k1 n kx0 kxr J name1 sum4 t5 (byteAt name1 t5.toNat) t5) else impl_CheckDigit_k1 n kx0 kxr J name1 sum4 t5 (byteAt name1 t5.toNat) t5))
def impl_CheckDigit_L5 {R : Type} (n : Nat) (kx0 : Int → Option R) (kxr : Int → Option R) (J : Int → Int → Option R) (name1 : ByteArray) (sum2 : Int) (t3 : Int) : Option R :=
  (bif (decide (t3 < (10 : Int))) then impl_CheckDigit_k2 n kx0 kxr J name1 sum2 t3 else kx0 sum2)
def impl_CheckDigit_k3 (n : Nat)  (name0 : ByteArray) : Option Int :=
  loopN (fun (x : Int × Int) J' => impl_CheckDigit_L5 n (fun sum77 => (bd (Int.tmod sum77 (11 : Int)) fun (v78 : Int) => (bd (Int.tmod v78 (10 : Int)) fun (v79 : Int) => some (v79)))) (fun t80 => some (t80)) (fun sum81 t82 => J' (sum81, t82)) name0 x.1 x.2) n ((0 : Int), (0 : Int))
def impl_CheckDigit (n : Nat) (name0 : ByteArray) : Option Int :=
  (bif (!(decide ((name0.size : Int) = (10 : Int)))) then some ((-1 : Int)) else impl_CheckDigit_k3 n  name0)
def impl_BoxName (n : Nat) (text0 : ByteArray) : Option Bool :=
  (bif (!(decide ((text0.size : Int) = (11 : Int)))) then some (false) else chk (decide ((10 : Int) ≤ (text0.size : Int))) ((impl_CheckDigit n (text0.extract 0 10)).bind fun r3 => (bif (decide (r3 ≥ (0 : Int))) then ix (10 : Int) text0.size (some ((decide ((byteAt text0 10) = (wu8 (w64 ((48 : Int) + r3))))))) else some (false))))
def impl_portOk (n : Nat) (n0 : Int) : Option Bool :=
  (impl_in n n0 (0 : Int) (19 : Int)).bind fun r1 => some (r1)
def impl_BoxOk (n : Nat) (b0 : SBox) : Option Bool :=
  (impl_BoxName n b0.Name).bind fun r1 => (bif r1 then (impl_in n b0.Weight (1 : Int) (40000 : Int)).bind fun r2 => (bif r2 then (impl_in n b0.Class (0 : Int) (9 : Int)).bind fun r3 => (bif r3 then (impl_portOk n b0.From).bind fun r4 => (bif r4 then (impl_portOk n b0.To).bind fun r5 => (bif r5 then some ((decide (b0.From < b0.To))) else some (false)) else some (false)) else some (false)) else some (false)) else some (false))
def impl_Fewest_1 (n : Nat) (x0 : SBox) (a1 : SBox) : Option Bool :=
  some ((decide (x0.Name = a1.Name)))
def sIndex_Fewest_1_L2 {R : Type} (n : Nat) (kx0 : Option R) (kxr : Int → Option R) (J : Int → Option R) (s1 : List SBox) (f2 : SBox) (t3 : Int) (t4 : Int) : Option R :=
  (bif (decide (t4 < t3)) then ix t4 s1.length ((bd (s1.getD t4.toNat dSBox) fun (e9 : SBox) => (impl_Fewest_1 n e9 f2).bind fun r10 => (bif r10 then kxr t4 else J (w64 (t4 + (1 : Int)))))) else kx0)
def sIndex_Fewest_1 (n : Nat) (s0 : List SBox) (f1c0 : SBox) : Option Int :=
  loopN (fun (x : Int) J' => sIndex_Fewest_1_L2 n (some ((-1 : Int))) (fun t12 => some (t12)) J' s0 f1c0 (s0.length : Int) x) n ((0 : Int))
def sContains_Fewest_1 (n : Nat) (s0 : List SBox) (f1c0 : SBox) : Option Bool :=
  (sIndex_Fewest_1 n s0 f1c0).bind fun r1 => some ((decide (r1 ≥ (0 : Int))))
def impl_StowCode_1 (n : Nat) (_0 : Int) (s1 : SStow) : Option Bool :=
  (impl_BoxOk n s1.Box).bind fun r1 => some ((!r1))
def impl_StowCode_2_1 (n : Nat) (x0 : SStow) (a1 : SStow) : Option Bool :=
  (bif (decide (x0.Box.Name = a1.Box.Name)) then some (true) else some (((decide (x0.Spot.Bay = a1.Spot.Bay)) && ((decide (x0.Spot.Row = a1.Spot.Row)) && (decide (x0.Spot.Tier = a1.Spot.Tier))))))
def sIndex_StowCode_2_1_L2 {R : Type} (n : Nat) (kx0 : Option R) (kxr : Int → Option R) (J : Int → Option R) (s1 : List SStow) (f2 : SStow) (t3 : Int) (t4 : Int) : Option R :=
  (bif (decide (t4 < t3)) then ix t4 s1.length ((bd (s1.getD t4.toNat dSStow) fun (e9 : SStow) => (impl_StowCode_2_1 n e9 f2).bind fun r10 => (bif r10 then kxr t4 else J (w64 (t4 + (1 : Int)))))) else kx0)
def sIndex_StowCode_2_1 (n : Nat) (s0 : List SStow) (f1c0 : SStow) : Option Int :=
  loopN (fun (x : Int) J' => sIndex_StowCode_2_1_L2 n (some ((-1 : Int))) (fun t12 => some (t12)) J' s0 f1c0 (s0.length : Int) x) n ((0 : Int))
def sContains_StowCode_2_1 (n : Nat) (s0 : List SStow) (f1c0 : SStow) : Option Bool :=
  (sIndex_StowCode_2_1 n s0 f1c0).bind fun r1 => some ((decide (r1 ≥ (0 : Int))))
def impl_StowCode_2 (n : Nat) (i0 : Int) (s1 : SStow) (a2 : List SStow) : Option Bool :=
  chk (decide ((0 : Int) ≤ i0)) (chk (decide (i0 ≤ (a2.length : Int))) ((sContains_StowCode_2_1 n (a2.take i0.toNat) s1).bind fun r1 => some (r1)))
def impl_StowCode_3 (n : Nat) (_0 : Int) (s1 : SStow) (a2 : List SHatch) : Option Bool :=
  (bd (w64 ((a2.length : Int) - (1 : Int))) fun (v1 : Int) => (impl_in n s1.Spot.Bay (0 : Int) v1).bind fun r2 => (bif (!r2) then some (true) else ix s1.Spot.Bay a2.length ((bd (a2.getD s1.Spot.Bay.toNat dSHatch) fun (e3 : SHatch) => (bd (w64 (e3.Rows - (1 : Int))) fun (v4 : Int) => (impl_in n s1.Spot.Row (0 : Int) v4).bind fun r5 => (bif (!r5) then some (true) else ix s1.Spot.Bay a2.length ((bd (a2.getD s1.Spot.Bay.toNat dSHatch) fun (e6 : SHatch) => (bd (w64 (e6.Tiers - (1 : Int))) fun (v7 : Int) => (impl_in n s1.Spot.Tier (0 : Int) v7).bind fun r8 => some ((!r8)))))))))))
def impl_StowCode_4_1 (n : Nat) (x0 : SStow) (a1 : SSpot) : Option Bool :=
  some (((decide (x0.Spot.Bay = a1.Bay)) && ((decide (x0.Spot.Row = a1.Row)) && (decide (x0.Spot.Tier = a1.Tier)))))
def sIndex_StowCode_4_1_L2 {R : Type} (n : Nat) (kx0 : Option R) (kxr : Int → Option R) (J : Int → Option R) (s1 : List SStow) (f2 : SSpot) (t3 : Int) (t4 : Int) : Option R :=
  (bif (decide (t4 < t3)) then ix t4 s1.length ((bd (s1.getD t4.toNat dSStow) fun (e9 : SStow) => (impl_StowCode_4_1 n e9 f2).bind fun r10 => (bif r10 then kxr t4 else J (w64 (t4 + (1 : Int)))))) else kx0)
def sIndex_StowCode_4_1 (n : Nat) (s0 : List SStow) (f1c0 : SSpot) : Option Int :=
  loopN (fun (x : Int) J' => sIndex_StowCode_4_1_L2 n (some ((-1 : Int))) (fun t12 => some (t12)) J' s0 f1c0 (s0.length : Int) x) n ((0 : Int))
def sContains_StowCode_4_1 (n : Nat) (s0 : List SStow) (f1c0 : SSpot) : Option Bool :=
  (sIndex_StowCode_4_1 n s0 f1c0).bind fun r1 => some ((decide (r1 ≥ (0 : Int))))
def impl_StowCode_4 (n : Nat) (_0 : Int) (s1 : SStow) (a2 : List SStow) : Option Bool :=
  (bd (w64 (s1.Spot.Tier - (1 : Int))) fun (v1 : Int) => (bif (decide (v1 ≥ (0 : Int))) then (sContains_StowCode_4_1 n a2 (⟨s1.Spot.Bay, s1.Spot.Row, v1⟩ : SSpot)).bind fun r2 => some ((!r2)) else some (false)))
def cmp_isNaN_int (n : Nat) (x0 : Int) : Option Bool :=
  some ((!(decide (x0 = x0))))
def cmp_Compare_int (n : Nat) (x0 : Int) (y1 : Int) : Option Int :=
  (cmp_isNaN_int n x0).bind fun r1 => (cmp_isNaN_int n y1).bind fun r2 => (bif r1 then (bif r2 then some ((0 : Int)) else some ((-1 : Int))) else (bif r2 then some ((1 : Int)) else (bif (decide (x0 < y1)) then some ((-1 : Int)) else (bif (decide (x0 > y1)) then some ((1 : Int)) else some ((0 : Int))))))
def impl_stackOf_1 (n : Nat) (a0 : SStow) (b1 : SStow) : Option Int :=
  (cmp_Compare_int n a0.Spot.Tier b1.Spot.Tier).bind fun r1 => some (r1)
def sSort_stackOf_1 (n : Nat) (l0 : List SStow) : Option (List SStow) :=
  sortL dSStow (fun a b => impl_stackOf_1 n a b) l0
def impl_stackOf_k0 {R : Type} (n : Nat) (kx0 : List SStow → Option R) (J : Int → List SStow → Option R) (bay1 : Int) (row2 : Int) (t3 : List SStow) (t4 : Int) (t7 : Int) (l8 : List SStow) : Option R :=
  ix t7 t3.length ((bd (t3.getD t7.toNat dSStow) fun (e9 : SStow) => (bif (decide (e9.Spot.Bay = bay1)) then (bif (decide (e9.Spot.Row = row2)) then chk (decide ((l8 ++ [e9]).length * 80 ≤ 140737488355328)) (J (w64 (t7 + (1 : Int))) (l8 ++ [e9])) else J (w64 (t7 + (1 : Int))) l8) else J (w64 (t7 + (1 : Int))) l8)))
def impl_stackOf_L3 {R : Type} (n : Nat) (kx0 : List SStow → Option R) (J : Int → List SStow → Option R) (bay1 : Int) (row2 : Int) (t3 : List SStow) (t4 : Int) (t5 : Int) (l6 : List SStow) : Option R :=
  (bif (decide (t5 < t4)) then impl_stackOf_k0 n kx0 J bay1 row2 t3 t4 t5 l6 else kx0 l6)
def impl_stackOf_L11 {R : Type} (n : Nat) (kx2 : List SBox → Option R) (J : Int → List SBox → Option R) (t31 : Int) (t32 : Int) (out33 : List SBox) (t34 : List SStow) : Option R :=
  (bif (decide (t32 < t31)) then ix t32 t34.length (chk (decide (t32.toNat < t34.length)) ((bd (t34.getD t32.toNat dSStow) fun (e38 : SStow) => chk (decide ((out33 ++ [e38.Box]).length * 56 ≤ 140737488355328)) (J (w64 (t32 + (1 : Int))) (out33 ++ [e38.Box]))))) else kx2 out33)
def impl_stackOf (n : Nat) (list0 : List SStow) (bay1 : Int) (row2 : Int) : Option (List SBox) :=
  loopN (fun (x : Int × List SStow) J' => impl_stackOf_L3 n (fun l29 => (sSort_stackOf_1 n l29).bind fun r30 => loopN (fun (x : Int × List SBox) J' => impl_stackOf_L11 n (fun out39 => some (out39)) (fun t40 out41 => J' (t40, out41)) (r30.length : Int) x.1 x.2 r30) n ((0 : Int), [])) (fun t42 l43 => J' (t42, l43)) bay1 row2 list0 (list0.length : Int) x.1 x.2) n ((0 : Int), [])
def impl_StackOk_k0 {R : Type} (n : Nat) (kx0 : Int → Option R) (kxr : Bool → Option R) (J : Int → Int → Option R) (boxes3 : List SBox) (most4 : Int) (sum9 : Int) (t6 : List SBox) (t7 : Int) (t10 : Int) : Option R :=
  ix t10 t6.length ((bd (t6.getD t10.toNat dSBox) fun (e11 : SBox) => (impl_BoxOk n e11).bind fun r12 => (bif (!r12) then kxr false else (bif (decide (t10 > (0 : Int))) then ix (w64 (t10 - (1 : Int))) boxes3.length ((bd (boxes3.getD ((w64 (t10 - (1 : Int))).toNat) dSBox) fun (e16 : SBox) => (bif (decide (e11.Weight > e16.Weight)) then kxr false else (bif e11.Cold then (bif (decide (t10 > (1 : Int))) then kxr false else (bd (w64 (sum9 + e11.Weight)) fun (v36 : Int) => J v36 (w64 (t10 + (1 : Int))))) else (bd (w64 (sum9 + e11.Weight)) fun (v51 : Int) => J v51 (w64 (t10 + (1 : Int)))))))) else (bif e11.Cold then (bif (decide (t10 > (1 : Int))) then kxr false else (bd (w64 (sum9 + e11.Weight)) fun (v61 : Int) => J v61 (w64 (t10 + (1 : Int))))) else (bd (w64 (sum9 + e11.Weight)) fun (v70 : Int) => J v70 (w64 (t10 + (1 : Int)))))))))
def impl_StackOk_L5 {R : Type} (n : Nat) (kx0 : Int → Option R) (kxr : Bool → Option R) (J : Int → Int → Option R) (boxes3 : List SBox) (most4 : Int) (sum5 : Int) (t6 : List SBox) (t7 : Int) (t8 : Int) : Option R :=
  (bif (decide (t8 < t7)) then impl_StackOk_k0 n kx0 kxr J boxes3 most4 sum5 t6 t7 t8 else kx0 sum5)
def impl_StackOk (n : Nat) (boxes0 : List SBox) (most1 : Int) : Option Bool :=
  (bif (decide ((boxes0.length : Int) > (20 : Int))) then some (false) else (impl_in n most1 (0 : Int) (1000000 : Int)).bind fun r1 => (bif (!r1) then some (false) else loopN (fun (x : Int × Int) J' => impl_StackOk_L5 n (fun sum81 => some ((decide (sum81 ≤ most1)))) (fun t82 => some (t82)) (fun sum83 t84 => J' (sum83, t84)) boxes0 most1 x.1 boxes0 (boxes0.length : Int) x.2) n ((0 : Int), (0 : Int))))
def impl_StowCode_5 (n : Nat) (_0 : Int) (s1 : SStow) (a2 : List SStow) (a3 : List SHatch) : Option Bool :=
  (impl_stackOf n a2 s1.Spot.Bay s1.Spot.Row).bind fun r1 => ix s1.Spot.Bay a3.length ((bd (a3.getD s1.Spot.Bay.toNat dSHatch) fun (e2 : SHatch) => (impl_StackOk n r1 e2.Most).bind fun r3 => some ((!r3))))
def impl_StowCode_6_L3 {R : Type} (n : Nat) (kx0 : Int → Option R) (J : Int → Int → Option R) (t1 : List SHatch) (n2 : Int) (t3 : List SStow) (t4 : Int) (t5 : Int) (s6 : SStow) : Option R :=
  (bif (decide (t5 < t4)) then ix t5 t3.length ((bd (t3.getD t5.toNat dSStow) fun (e27 : SStow) => (bif e27.Box.Cold then (bif (decide (e27.Spot.Bay = s6.Spot.Bay)) then J (w64 (n2 + (1 : Int))) (w64 (t5 + (1 : Int))) else J n2 (w64 (t5 + (1 : Int)))) else J n2 (w64 (t5 + (1 : Int)))))) else kx0 n2)
def impl_StowCode_6 (n : Nat) (_0 : Int) (s1 : SStow) (a2 : List SStow) (a3 : List SHatch) : Option Bool :=
  loopN (fun (x : Int × Int) J' => impl_StowCode_6_L3 n (fun n39 => (bif s1.Box.Cold then ix s1.Spot.Bay a3.length ((bd (a3.getD s1.Spot.Bay.toNat dSHatch) fun (e40 : SHatch) => some ((decide (n39 > e40.Plugs))))) else some (false))) (fun n42 t43 => J' (n42, t43)) a3 x.1 a2 (a2.length : Int) x.2 s1) n ((0 : Int), (0 : Int))
def impl_spotOk (n : Nat) (s0 : SSpot) : Option Bool :=
  (impl_in n s0.Bay (0 : Int) (19 : Int)).bind fun r1 => (bif r1 then (impl_in n s0.Row (0 : Int) (19 : Int)).bind fun r2 => (bif r2 then (impl_in n s0.Tier (0 : Int) (19 : Int)).bind fun r3 => some (r3) else some (false)) else some (false))
def impl_size (n : Nat) (n0 : Int) : Option Int :=
  (bif (decide (n0 < (0 : Int))) then some ((w64 (0 - n0))) else some (n0))
def impl_Apart_k0 (n : Nat)  (x6 : Int) (y7 : Int) (t8 : Bool) : Option Int :=
  (bif t8 then some ((0 : Int)) else (bif (decide (x6 = (1 : Int))) then some ((3 : Int)) else (bd (Int.tmod (w64 (x6 * y7)) (6 : Int)) fun (v9 : Int) => (bif (decide (v9 = (0 : Int))) then some ((2 : Int)) else (bd (Int.tmod (w64 (x6 + y7)) (2 : Int)) fun (v10 : Int) => (bif (decide (v10 = (1 : Int))) then some ((1 : Int)) else some ((0 : Int))))))))
def impl_Apart_k1 (n : Nat)  (a0 : Int) (b1 : Int) (t3 : Bool) : Option Int :=
  (bif t3 then some ((-1 : Int)) else (bif (decide ((if b1 < a0 then b1 else a0) = (0 : Int))) then some ((0 : Int)) else impl_Apart_k0 n  (if b1 < a0 then b1 else a0) (if b1 > a0 then b1 else a0) (decide ((if b1 < a0 then b1 else a0) = (if b1 > a0 then b1 else a0)))))
def impl_Apart (n : Nat) (a0 : Int) (b1 : Int) : Option Int :=
  (impl_in n a0 (0 : Int) (9 : Int)).bind fun r1 => (bif (!r1) then some ((-1 : Int)) else (impl_in n b1 (0 : Int) (9 : Int)).bind fun r2 => impl_Apart_k1 n  a0 b1 (!r2))
def impl_KeepsApart_k0 (n : Nat)  (a0 : SBox) (sa1 : SSpot) (b2 : SBox) (sb3 : SSpot) : Option Bool :=
  (bd (w64 (sa1.Bay - sb3.Bay)) fun (v6 : Int) => (impl_size n v6).bind fun r7 => (bd (w64 (sa1.Row - sb3.Row)) fun (v8 : Int) => (impl_size n v8).bind fun r9 => (bd (w64 (sa1.Tier - sb3.Tier)) fun (v10 : Int) => (impl_size n v10).bind fun r11 => (impl_Apart n a0.Class b2.Class).bind fun r12 => (bif (decide (r12 = (0 : Int))) then some (true) else (bif (decide (r12 = (1 : Int))) then (bd (w64 ((w64 (r7 + r9)) + r11)) fun (v13 : Int) => some ((!(decide (v13 = (1 : Int)))))) else (bif (decide (r12 = (2 : Int))) then some ((decide (r7 ≥ (2 : Int)))) else some (false)))))))
def impl_KeepsApart (n : Nat) (a0 : SBox) (sa1 : SSpot) (b2 : SBox) (sb3 : SSpot) : Option Bool :=
  (impl_BoxOk n a0).bind fun r1 => (bif (!r1) then some (false) else (impl_BoxOk n b2).bind fun r2 => (bif (!r2) then some (false) else (impl_spotOk n sa1).bind fun r3 => (bif (!r3) then some (false) else (impl_spotOk n sb3).bind fun r4 => (bif (!r4) then some (false) else (bif ((decide (sa1.Bay = sb3.Bay)) && ((decide (sa1.Row = sb3.Row)) && (decide (sa1.Tier = sb3.Tier)))) then some (false) else impl_KeepsApart_k0 n  a0 sa1 b2 sb3)))))
def impl_StowCode_7_1 (n : Nat) (x0 : SStow) (a1 : SStow) : Option Bool :=
  (impl_KeepsApart n x0.Box x0.Spot a1.Box a1.Spot).bind fun r1 => some ((!r1))
def sIndex_StowCode_7_1_L2 {R : Type} (n : Nat) (kx0 : Option R) (kxr : Int → Option R) (J : Int → Option R) (s1 : List SStow) (f2 : SStow) (t3 : Int) (t4 : Int) : Option R :=
  (bif (decide (t4 < t3)) then ix t4 s1.length ((bd (s1.getD t4.toNat dSStow) fun (e9 : SStow) => (impl_StowCode_7_1 n e9 f2).bind fun r10 => (bif r10 then kxr t4 else J (w64 (t4 + (1 : Int)))))) else kx0)
def sIndex_StowCode_7_1 (n : Nat) (s0 : List SStow) (f1c0 : SStow) : Option Int :=
  loopN (fun (x : Int) J' => sIndex_StowCode_7_1_L2 n (some ((-1 : Int))) (fun t12 => some (t12)) J' s0 f1c0 (s0.length : Int) x) n ((0 : Int))
def sContains_StowCode_7_1 (n : Nat) (s0 : List SStow) (f1c0 : SStow) : Option Bool :=
  (sIndex_StowCode_7_1 n s0 f1c0).bind fun r1 => some ((decide (r1 ≥ (0 : Int))))
def impl_StowCode_7 (n : Nat) (i0 : Int) (s1 : SStow) (a2 : List SStow) : Option Bool :=
  chk (decide ((0 : Int) ≤ i0)) (chk (decide (i0 ≤ (a2.length : Int))) ((sContains_StowCode_7_1 n (a2.take i0.toNat) s1).bind fun r1 => some (r1)))
def impl_StowCode_k0 {R : Type} (n : Nat) (kx2 : Option R) (kxr : Int → Int → Option R) (J : Int → Option R) (list9 : List SStow) (t10 : Int) (t11 : Int) (t12 : List SStow) (t13 : Int) (t17 : Int) (reason15 : SAnon113) (t16 : List SAnon113) : Option R :=
  ix t17 t12.length ((bd (t12.getD t17.toNat dSStow) fun (e18 : SStow) => (bif (Nat.beq reason15.is.ix 0) then (impl_StowCode_1 n t17 e18).bind fun r19 => (bif r19 then kxr reason15.code t17 else J (w64 (t17 + (1 : Int)))) else (bif (Nat.beq reason15.is.ix 1) then (impl_StowCode_2 n t17 e18 reason15.is.a0).bind fun r21 => (bif r21 then kxr reason15.code t17 else J (w64 (t17 + (1 : Int)))) else (bif (Nat.beq reason15.is.ix 2) then (impl_StowCode_3 n t17 e18 reason15.is.a1).bind fun r23 => (bif r23 then kxr reason15.code t17 else J (w64 (t17 + (1 : Int)))) else (bif (Nat.beq reason15.is.ix 3) then (impl_StowCode_4 n t17 e18 reason15.is.a0).bind fun r25 => (bif r25 then kxr reason15.code t17 else J (w64 (t17 + (1 : Int)))) else (bif (Nat.beq reason15.is.ix 4) then (impl_StowCode_5 n t17 e18 reason15.is.a0 reason15.is.a1).bind fun r27 => (bif r27 then kxr reason15.code t17 else J (w64 (t17 + (1 : Int)))) else (bif (Nat.beq reason15.is.ix 5) then (impl_StowCode_6 n t17 e18 reason15.is.a0 reason15.is.a1).bind fun r29 => (bif r29 then kxr reason15.code t17 else J (w64 (t17 + (1 : Int)))) else (bif (Nat.beq reason15.is.ix 6) then (impl_StowCode_7 n t17 e18 reason15.is.a0).bind fun r31 => (bif r31 then kxr reason15.code t17 else J (w64 (t17 + (1 : Int)))) else none)))))))))
def impl_StowCode_L7 {R : Type} (n : Nat) (kx2 : Option R) (kxr : Int → Int → Option R) (J : Int → Option R) (list9 : List SStow) (t10 : Int) (t11 : Int) (t12 : List SStow) (t13 : Int) (t14 : Int) (reason15 : SAnon113) (t16 : List SAnon113) : Option R :=
  (bif (decide (t14 < t13)) then impl_StowCode_k0 n kx2 kxr J list9 t10 t11 t12 t13 t14 reason15 t16 else kx2)
def impl_StowCode_k1 {R : Type} (n : Nat) (kx0 : Option R) (kxr : Int → Int → Option R) (J : Int → Option R) (list3 : List SStow) (t4 : Int) (t7 : Int) (t6 : List SAnon113) : Option R :=
  ix t7 t6.length (chk (decide (t7.toNat < t6.length)) ((bd (t6.getD t7.toNat dSAnon113) fun (e8 : SAnon113) => (bif (decide (t7.toNat < 0)) then loopN (fun (x : Int) J' => impl_StowCode_L7 n (J (w64 (t7 + (1 : Int)))) (fun t33 t34 => kxr t33 t34) J' list3 t4 t7 list3 (list3.length : Int) x e8 t6) n ((0 : Int)) else loopN (fun (x : Int) J' => impl_StowCode_L7 n (J (w64 (t7 + (1 : Int)))) (fun t36 t37 => kxr t36 t37) J' list3 t4 t7 list3 (list3.length : Int) x e8 t6) n ((0 : Int))))))
def impl_StowCode_L4 {R : Type} (n : Nat) (kx0 : Option R) (kxr : Int → Int → Option R) (J : Int → Option R) (list3 : List SStow) (t4 : Int) (t5 : Int) (t6 : List SAnon113) : Option R :=
  (bif (decide (t5 < t4)) then impl_StowCode_k1 n kx0 kxr J list3 t4 t5 t6 else kx0)
def impl_StowCode_k2 (n : Nat)  (bays0 : List SHatch) (list1 : List SStow) : Option (Int × Int) :=
  loopN (fun (x : Int) J' => impl_StowCode_L4 n (some ((0 : Int), (0 : Int))) (fun t39 t40 => some (t39, t40)) J' list1 (7 : Int) x [(⟨(1 : Int), (⟨0, [], []⟩ : SFn112)⟩ : SAnon113), (⟨(2 : Int), (⟨1, list1, []⟩ : SFn112)⟩ : SAnon113), (⟨(3 : Int), (⟨2, [], bays0⟩ : SFn112)⟩ : SAnon113), (⟨(4 : Int), (⟨3, list1, []⟩ : SFn112)⟩ : SAnon113), (⟨(5 : Int), (⟨4, list1, bays0⟩ : SFn112)⟩ : SAnon113), (⟨(6 : Int), (⟨5, list1, bays0⟩ : SFn112)⟩ : SAnon113), (⟨(7 : Int), (⟨6, list1, []⟩ : SFn112)⟩ : SAnon113)]) n ((0 : Int))
def impl_StowCode (n : Nat) (bays0 : List SHatch) (list1 : List SStow) : Option (Int × Int) :=
  (impl_HatchesOk n bays0).bind fun r1 => (bif (!r1) then some ((1 : Int), (0 : Int)) else (bif (decide ((list1.length : Int) > (40 : Int))) then some ((1 : Int), (0 : Int)) else impl_StowCode_k2 n  bays0 list1))
def impl_over (n : Nat) (a0 : SSpot) (b1 : SSpot) : Option Bool :=
  (bif (decide (a0.Bay = b1.Bay)) then (bif (decide (a0.Row = b1.Row)) then some ((decide (a0.Tier > b1.Tier))) else some (false)) else some (false))
def impl_overstows_k0 {R : Type} (n : Nat) (kx2 : Int → Option R) (J : Int → Int → Option R) (list9 : List SStow) (n18 : Int) (t11 : List SStow) (t12 : Int) (t13 : Int) (t14 : List SStow) (t15 : Int) (t19 : Int) (a17 : SStow) : Option R :=
  ix t19 t14.length ((bd (t14.getD t19.toNat dSStow) fun (e20 : SStow) => (impl_over n a17.Spot e20.Spot).bind fun r21 => (bif r21 then (bif (decide (a17.Box.To > e20.Box.To)) then J (w64 (n18 + (1 : Int))) (w64 (t19 + (1 : Int))) else J n18 (w64 (t19 + (1 : Int)))) else J n18 (w64 (t19 + (1 : Int))))))
def impl_overstows_L6 {R : Type} (n : Nat) (kx2 : Int → Option R) (J : Int → Int → Option R) (list9 : List SStow) (n10 : Int) (t11 : List SStow) (t12 : Int) (t13 : Int) (t14 : List SStow) (t15 : Int) (t16 : Int) (a17 : SStow) : Option R :=
  (bif (decide (t16 < t15)) then impl_overstows_k0 n kx2 J list9 n10 t11 t12 t13 t14 t15 t16 a17 else kx2 n10)
def impl_overstows_L3 {R : Type} (n : Nat) (kx0 : Int → Option R) (J : Int → Int → Option R) (list1 : List SStow) (n2 : Int) (t3 : List SStow) (t4 : Int) (t5 : Int) : Option R :=
  (bif (decide (t5 < t4)) then ix t5 t3.length ((bd (t3.getD t5.toNat dSStow) fun (e42 : SStow) => loopN (fun (x : Int × Int) J' => impl_overstows_L6 n (fun n43 => J n43 (w64 (t5 + (1 : Int)))) (fun n44 t45 => J' (n44, t45)) list1 x.1 t3 t4 t5 list1 (list1.length : Int) x.2 e42) n (n2, (0 : Int)))) else kx0 n2)
def impl_overstows (n : Nat) (list0 : List SStow) : Option Int :=
  loopN (fun (x : Int × Int) J' => impl_overstows_L3 n (fun n46 => some (n46)) (fun n47 t48 => J' (n47, t48)) list0 x.1 list0 (list0.length : Int) x.2) n ((0 : Int), (0 : Int))
def impl_own_impl_Stow (n : Nat) (l0 : List SStow) : Option (List SStow) :=
  chk (decide ((0 : Int) ≤ (l0.length : Int))) (chk (decide ((l0.length : Int) ≤ 9223372036854775807 ∧ (l0.length : Int) * (80 : Int) ≤ 281474976710656)) (chk (decide (l0.length * 80 ≤ 140737488355328)) (some (l0))))
def impl_Fewest_2_1 (n : Nat) (x0 : SStow) (a1 : SSpot) : Option Bool :=
  some (((decide (x0.Spot.Bay = a1.Bay)) && ((decide (x0.Spot.Row = a1.Row)) && (decide (x0.Spot.Tier = a1.Tier)))))
def sIndex_Fewest_2_1_L2 {R : Type} (n : Nat) (kx0 : Option R) (kxr : Int → Option R) (J : Int → Option R) (s1 : List SStow) (f2 : SSpot) (t3 : Int) (t4 : Int) : Option R :=
  (bif (decide (t4 < t3)) then ix t4 s1.length ((bd (s1.getD t4.toNat dSStow) fun (e9 : SStow) => (impl_Fewest_2_1 n e9 f2).bind fun r10 => (bif r10 then kxr t4 else J (w64 (t4 + (1 : Int)))))) else kx0)
def sIndex_Fewest_2_1 (n : Nat) (s0 : List SStow) (f1c0 : SSpot) : Option Int :=
  loopN (fun (x : Int) J' => sIndex_Fewest_2_1_L2 n (some ((-1 : Int))) (fun t12 => some (t12)) J' s0 f1c0 (s0.length : Int) x) n ((0 : Int))
def sContains_Fewest_2_1 (n : Nat) (s0 : List SStow) (f1c0 : SSpot) : Option Bool :=
  (sIndex_Fewest_2_1 n s0 f1c0).bind fun r1 => some ((decide (r1 ≥ (0 : Int))))
def impl_Fewest_2__self_k0 {R : Type} (n : Nat) (rc : List SStow → List SBox → List SHatch → Int → List SStow → List SSpot → Option (Int × List SStow)) (kx0 : Int → List SStow → Option R) (J : Int → Int → List SStow → Option R) (l18 : List SStow) (t19 : List SBox) (t20 : List SBox) (t21 : List SHatch) (t22 : List SSpot) (t23 : List SSpot) (t24 : Int) (t28 : Int) (p29 : Int) (c30 : List SStow) : Option R :=
  ix t28 t23.length ((bd (t23.getD t28.toNat dSSpot) fun (e31 : SSpot) => (sContains_Fewest_2_1 n l18 e31).bind fun r32 => (bif (!r32) then chk (decide ((0 : Int) ≤ (l18.length : Int))) (chk (decide ((l18.length : Int) ≤ (l18.length : Int))) (chk (decide ((l18.length : Int) = ((l18.length : Int).toNat : Int))) (ix (l18.length : Int) t19.length ((bd (t19.getD ((l18.length : Int).toNat) dSBox) fun (e33 : SBox) => chk (decide (((l18.take ((l18.length : Int).toNat)) ++ [(⟨e33, e31⟩ : SStow)]).length * 80 ≤ 140737488355328)) ((rc ((l18.take ((l18.length : Int).toNat)) ++ [(⟨e33, e31⟩ : SStow)]) t20 t21 p29 c30 t22).bind fun r34 => J (w64 (t28 + (1 : Int))) r34.1 r34.2)))))) else J (w64 (t28 + (1 : Int))) p29 c30)))
def impl_Fewest_2__self_L7 {R : Type} (n : Nat) (rc : List SStow → List SBox → List SHatch → Int → List SStow → List SSpot → Option (Int × List SStow)) (kx0 : Int → List SStow → Option R) (J : Int → Int → List SStow → Option R) (l18 : List SStow) (t19 : List SBox) (t20 : List SBox) (t21 : List SHatch) (t22 : List SSpot) (t23 : List SSpot) (t24 : Int) (t25 : Int) (p26 : Int) (c27 : List SStow) : Option R :=
  (bif (decide (t25 < t24)) then impl_Fewest_2__self_k0 n rc kx0 J l18 t19 t20 t21 t22 t23 t24 t25 p26 c27 else kx0 p26 c27)
def impl_Fewest_2__self_b (n : Nat) (rc : List SStow → List SBox → List SHatch → Int → List SStow → List SSpot → Option (Int × List SStow)) (l0 : List SStow) (a1 : List SBox) (a2 : List SHatch) (a3 : Int) (a4 : List SStow) (a5 : List SSpot) : Option (Int × List SStow) :=
  (bif (decide ((l0.length : Int) = (a1.length : Int))) then (impl_StowCode n a2 l0).bind fun r1 => (bif (decide (r1.1 = (0 : Int))) then (impl_overstows n l0).bind fun r2 => (bif (decide (a3 < (0 : Int))) then (impl_own_impl_Stow n l0).bind fun r7 => some (r2, r7) else (bif (decide (r2 < a3)) then (impl_own_impl_Stow n l0).bind fun r15 => some (r2, r15) else some (a3, a4))) else some (a3, a4)) else loopN (fun (x : Int × Int × List SStow) J' => impl_Fewest_2__self_L7 n rc (fun p46 c47 => some (p46, c47)) (fun t48 p49 c50 => J' (t48, p49, c50)) l0 a1 a1 a2 a5 a5 (a5.length : Int) x.1 x.2.1 x.2.2) n ((0 : Int), a3, a4))
def impl_Fewest_2__self_r (n : Nat) : Nat → List SStow → List SBox → List SHatch → Int → List SStow → List SSpot → Option (Int × List SStow)
  | 0 => fun _ _ _ _ _ _ => none
  | m + 1 => fun l0 a1 a2 a3 a4 a5 => impl_Fewest_2__self_b n (impl_Fewest_2__self_r n m) l0 a1 a2 a3 a4 a5
def impl_Fewest_2__self (n : Nat) (l0 : List SStow) (a1 : List SBox) (a2 : List SHatch) (a3 : Int) (a4 : List SStow) (a5 : List SSpot) : Option (Int × List SStow) := impl_Fewest_2__self_r n n l0 a1 a2 a3 a4 a5
def impl_Fewest_k0 {R : Type} (n : Nat) (kx0 : Option R) (kxr : Bool → List SStow → Option R) (J : Int → Option R) (t3 : List SBox) (t4 : Int) (t8 : Int) (bays6 : List SHatch) (boxes7 : List SBox) : Option R :=
  ix t8 t3.length ((bd (t3.getD t8.toNat dSBox) fun (e9 : SBox) => (impl_BoxOk n e9).bind fun r10 => (bif (!r10) then kxr false [] else chk (decide ((0 : Int) ≤ t8)) (chk (decide (t8 ≤ (boxes7.length : Int))) ((sContains_Fewest_1 n (boxes7.take t8.toNat) e9).bind fun r12 => (bif r12 then kxr false [] else J (w64 (t8 + (1 : Int)))))))))
def impl_Fewest_L4 {R : Type} (n : Nat) (kx0 : Option R) (kxr : Bool → List SStow → Option R) (J : Int → Option R) (t3 : List SBox) (t4 : Int) (t5 : Int) (bays6 : List SHatch) (boxes7 : List SBox) : Option R :=
  (bif (decide (t5 < t4)) then impl_Fewest_k0 n kx0 kxr J t3 t4 t5 bays6 boxes7 else kx0)
def impl_Fewest_L17 {R : Type} (n : Nat) (kx6 : List SSpot → Option R) (J : Int → List SSpot → Option R) (b38 : Int) (r39 : Int) (t40 : List SHatch) (t41 : Int) (t42 : Int) (t43 : Int) (t44 : Int) (t45 : Int) (t46 : Int) (bays47 : List SHatch) (boxes48 : List SBox) (c49 : List SSpot) (h50 : SHatch) : Option R :=
  (bif (decide (t46 < t45)) then (bd (c49 ++ [(⟨b38, r39, t46⟩ : SSpot)]) fun (l54 : List SSpot) => chk (decide (l54.length * 24 ≤ 140737488355328)) (J (w64 (t46 + (1 : Int))) l54)) else kx6 c49)
def impl_Fewest_L14 {R : Type} (n : Nat) (kx4 : List SSpot → Option R) (J : Int → List SSpot → Option R) (b26 : Int) (t27 : List SHatch) (t28 : Int) (t29 : Int) (t30 : Int) (t31 : Int) (bays32 : List SHatch) (boxes33 : List SBox) (c34 : List SSpot) (h35 : SHatch) : Option R :=
  (bif (decide (t31 < t30)) then loopN (fun (x : Int × List SSpot) J' => impl_Fewest_L17 n (fun c58 => J (w64 (t31 + (1 : Int))) c58) (fun t59 c60 => J' (t59, c60)) b26 t31 t27 t28 t29 t30 t31 h35.Tiers x.1 bays32 boxes33 x.2 h35) n ((0 : Int), c34) else kx4 c34)
def impl_Fewest_k1 {R : Type} (n : Nat) (kx2 : List SSpot → Option R) (J : Int → List SSpot → Option R) (t17 : List SHatch) (t18 : Int) (t23 : Int) (bays20 : List SHatch) (boxes21 : List SBox) (c24 : List SSpot) : Option R :=
  ix t23 t17.length ((bd (t17.getD t23.toNat dSHatch) fun (e25 : SHatch) => loopN (fun (x : Int × List SSpot) J' => impl_Fewest_L14 n (fun c61 => J (w64 (t23 + (1 : Int))) c61) (fun t62 c63 => J' (t62, c63)) t23 t17 t18 t23 e25.Rows x.1 bays20 boxes21 x.2 e25) n ((0 : Int), c24)))
def impl_Fewest_L11 {R : Type} (n : Nat) (kx2 : List SSpot → Option R) (J : Int → List SSpot → Option R) (t17 : List SHatch) (t18 : Int) (t19 : Int) (bays20 : List SHatch) (boxes21 : List SBox) (c22 : List SSpot) : Option R :=
  (bif (decide (t19 < t18)) then impl_Fewest_k1 n kx2 J t17 t18 t19 bays20 boxes21 c22 else kx2 c22)
def impl_Fewest_k2 (n : Nat)  (bays0 : List SHatch) (boxes1 : List SBox) : Option (List SStow × Bool) :=
  loopN (fun (x : Int) J' => impl_Fewest_L4 n (loopN (fun (x : Int × List SSpot) J' => impl_Fewest_L11 n (fun c64 => (bif (decide ((c64.length : Int) > (8 : Int))) then some ([], false) else (impl_Fewest_2__self n [] boxes1 bays0 (-1 : Int) [] c64).bind fun r67 => some (r67.2, (decide (r67.1 ≥ (0 : Int)))))) (fun t68 c69 => J' (t68, c69)) bays0 (bays0.length : Int) x.1 bays0 boxes1 x.2) n ((0 : Int), [])) (fun t70 t71 => some (t71, t70)) J' boxes1 (boxes1.length : Int) x bays0 boxes1) n ((0 : Int))
def impl_Fewest (n : Nat) (bays0 : List SHatch) (boxes1 : List SBox) : Option (List SStow × Bool) :=
  (bif (decide ((boxes1.length : Int) > (5 : Int))) then some ([], false) else (impl_HatchesOk n bays0).bind fun r1 => (bif (!r1) then some ([], false) else impl_Fewest_k2 n  bays0 boxes1))
def laws_eqBox_k0 (n : Nat)  (a0 : SBox) (b1 : SBox) : Option Bool :=
  (bif (!(decide (a0.Weight = b1.Weight))) then some (false) else (bif (!(decide (a0.Class = b1.Class))) then some (false) else (bif (!(a0.Cold == b1.Cold)) then some (false) else (bif (!(decide (a0.From = b1.From))) then some (false) else (bif (!(decide (a0.To = b1.To))) then some (false) else some (true))))))
def laws_eqBox (n : Nat) (a0 : SBox) (b1 : SBox) : Option Bool :=
  (bif (!(decide (a0.Name = b1.Name))) then some (false) else laws_eqBox_k0 n  a0 b1)
def laws_eqSpot (n : Nat) (a0 : SSpot) (b1 : SSpot) : Option Bool :=
  (bif (!(decide (a0.Bay = b1.Bay))) then some (false) else (bif (!(decide (a0.Row = b1.Row))) then some (false) else (bif (!(decide (a0.Tier = b1.Tier))) then some (false) else some (true))))
def laws_eqStow (n : Nat) (a0 : SStow) (b1 : SStow) : Option Bool :=
  (laws_eqBox n a0.Box b1.Box).bind fun r1 => (bif (!r1) then some (false) else (laws_eqSpot n a0.Spot b1.Spot).bind fun r3 => (bif (!r3) then some (false) else some (true)))
def laws_eqStowS_L4 {R : Type} (n : Nat) (kx0 : Option R) (kxr : Bool → Option R) (J : Int → Option R) (a1 : List SStow) (b2 : List SStow) (i3 : Int) : Option R :=
  (bif (decide (i3 < (a1.length : Int))) then ix i3 a1.length ((bd (a1.getD i3.toNat dSStow) fun (e9 : SStow) => ix i3 b2.length ((bd (b2.getD i3.toNat dSStow) fun (e10 : SStow) => (laws_eqStow n e9 e10).bind fun r11 => (bif (!r11) then kxr false else J (w64 (i3 + (1 : Int)))))))) else kx0)
def laws_eqStowS (n : Nat) (a0 : List SStow) (b1 : List SStow) : Option Bool :=
  (bif (!(decide ((a0.length : Int) = (b1.length : Int)))) then some (false) else loopN (fun (x : Int) J' => laws_eqStowS_L4 n (some (true)) (fun t15 => some (t15)) J' a0 b1 x) n ((0 : Int)))
def laws_eqHatch (n : Nat) (a0 : SHatch) (b1 : SHatch) : Option Bool :=
  (bif (!(decide (a0.Rows = b1.Rows))) then some (false) else (bif (!(decide (a0.Tiers = b1.Tiers))) then some (false) else (bif (!(decide (a0.Most = b1.Most))) then some (false) else (bif (!(decide (a0.Plugs = b1.Plugs))) then some (false) else some (true)))))
def laws_eqHatchS_L4 {R : Type} (n : Nat) (kx0 : Option R) (kxr : Bool → Option R) (J : Int → Option R) (a1 : List SHatch) (b2 : List SHatch) (i3 : Int) : Option R :=
  (bif (decide (i3 < (a1.length : Int))) then ix i3 a1.length ((bd (a1.getD i3.toNat dSHatch) fun (e9 : SHatch) => ix i3 b2.length ((bd (b2.getD i3.toNat dSHatch) fun (e10 : SHatch) => (laws_eqHatch n e9 e10).bind fun r11 => (bif (!r11) then kxr false else J (w64 (i3 + (1 : Int)))))))) else kx0)
def laws_eqHatchS (n : Nat) (a0 : List SHatch) (b1 : List SHatch) : Option Bool :=
  (bif (!(decide ((a0.length : Int) = (b1.length : Int)))) then some (false) else loopN (fun (x : Int) J' => laws_eqHatchS_L4 n (some (true)) (fun t15 => some (t15)) J' a0 b1 x) n ((0 : Int)))
def laws_eqBoxS_L4 {R : Type} (n : Nat) (kx0 : Option R) (kxr : Bool → Option R) (J : Int → Option R) (a1 : List SBox) (b2 : List SBox) (i3 : Int) : Option R :=
  (bif (decide (i3 < (a1.length : Int))) then ix i3 a1.length ((bd (a1.getD i3.toNat dSBox) fun (e9 : SBox) => ix i3 b2.length ((bd (b2.getD i3.toNat dSBox) fun (e10 : SBox) => (laws_eqBox n e9 e10).bind fun r11 => (bif (!r11) then kxr false else J (w64 (i3 + (1 : Int)))))))) else kx0)
def laws_eqBoxS (n : Nat) (a0 : List SBox) (b1 : List SBox) : Option Bool :=
  (bif (!(decide ((a0.length : Int) = (b1.length : Int)))) then some (false) else loopN (fun (x : Int) J' => laws_eqBoxS_L4 n (some (true)) (fun t15 => some (t15)) J' a0 b1 x) n ((0 : Int)))
def laws_markHatchS_k0 {R : Type} (n : Nat) (kx0 : Int → List SHatch → Option R) (J : Int → Int → List SHatch → Option R) (k4 : Int) (i5 : Int) (p6 : List SHatch) : Option R :=
  ix i5 p6.length (chk (decide (i5.toNat < p6.length)) ((bd (p6.getD i5.toNat dSHatch) fun (e7 : SHatch) => (bd (p6.set i5.toNat (⟨k4, e7.Tiers, e7.Most, e7.Plugs⟩ : SHatch)) fun (l8 : List SHatch) => ix i5 l8.length (chk (decide (i5.toNat < l8.length)) ((bd (l8.getD i5.toNat dSHatch) fun (e9 : SHatch) => (bd (l8.set i5.toNat (⟨e9.Rows, (w64 (k4 + (1 : Int))), e9.Most, e9.Plugs⟩ : SHatch)) fun (l10 : List SHatch) => (bd (w64 ((w64 (k4 + (1 : Int))) + (1 : Int))) fun (v11 : Int) => ix i5 l10.length (chk (decide (i5.toNat < l10.length)) ((bd (l10.getD i5.toNat dSHatch) fun (e12 : SHatch) => (bd (l10.set i5.toNat (⟨e12.Rows, e12.Tiers, v11, e12.Plugs⟩ : SHatch)) fun (l13 : List SHatch) => ix i5 l13.length (chk (decide (i5.toNat < l13.length)) ((bd (l13.getD i5.toNat dSHatch) fun (e14 : SHatch) => (bd (l13.set i5.toNat (⟨e14.Rows, e14.Tiers, e14.Most, (w64 (v11 + (1 : Int)))⟩ : SHatch)) fun (l15 : List SHatch) => (bd (w64 ((w64 (v11 + (1 : Int))) + (1 : Int))) fun (v16 : Int) => J v16 (w64 (i5 + (1 : Int))) l15))))))))))))))))))
def laws_markHatchS_L2 {R : Type} (n : Nat) (kx0 : Int → List SHatch → Option R) (J : Int → Int → List SHatch → Option R) (k1 : Int) (i2 : Int) (p3 : List SHatch) : Option R :=
  (bif (decide (i2 < (p3.length : Int))) then laws_markHatchS_k0 n kx0 J k1 i2 p3 else kx0 k1 p3)
def laws_markHatchS (n : Nat) (a0 : List SHatch) (k1 : Int) : Option (Int × List SHatch) :=
  loopN (fun (x : Int × Int × List SHatch) J' => laws_markHatchS_L2 n (fun k17 p18 => some (k17, p18)) (fun k19 i20 p21 => J' (k19, i20, p21)) x.1 x.2.1 x.2.2) n (k1, (0 : Int), a0)
def laws_markText_L4 {R : Type} (n : Nat) (kx0 : ByteArray → Option R) (J : Int → ByteArray → Option R) (k2 : Int) (out3 : ByteArray) : Option R :=
  (bif (decide (k2 > (0 : Int))) then (bd (w64 ((48 : Int) + (Int.tmod k2 (10 : Int)))) fun (v8 : Int) => chk (decide ((((bstr [(wu8 v8)]).size + out3.size : Nat) : Int) ≤ 9223372036854775807)) ((bd (w64 (Int.tdiv k2 (10 : Int))) fun (v9 : Int) => J v9 ((bstr [(wu8 v8)]) ++ out3)))) else kx0 out3)
def laws_markText (n : Nat) (k0 : Int) : Option ByteArray :=
  (bif (decide (k0 ≤ (0 : Int))) then some (str [109, 48]) else loopN (fun (x : Int × ByteArray) J' => laws_markText_L4 n (fun out13 => chk (decide ((((str [109]).size + out13.size : Nat) : Int) ≤ 9223372036854775807)) (some ((str [109] ++ out13)))) (fun k14 out15 => J' (k14, out15)) x.1 x.2) n (k0, str []))
def laws_markBoxS_k0 {R : Type} (n : Nat) (kx0 : Int → List SBox → Option R) (J : Int → Int → List SBox → Option R) (k4 : Int) (i5 : Int) (p6 : List SBox) : Option R :=
  (laws_markText n k4).bind fun r7 => ix i5 p6.length (chk (decide (i5.toNat < p6.length)) ((bd (p6.getD i5.toNat dSBox) fun (e8 : SBox) => (bd (p6.set i5.toNat (⟨r7, e8.Weight, e8.Class, e8.Cold, e8.From, e8.To⟩ : SBox)) fun (l9 : List SBox) => ix i5 l9.length (chk (decide (i5.toNat < l9.length)) ((bd (l9.getD i5.toNat dSBox) fun (e10 : SBox) => (bd (l9.set i5.toNat (⟨e10.Name, (w64 (k4 + (1 : Int))), e10.Class, e10.Cold, e10.From, e10.To⟩ : SBox)) fun (l11 : List SBox) => (bd (w64 ((w64 (k4 + (1 : Int))) + (1 : Int))) fun (v12 : Int) => ix i5 l11.length (chk (decide (i5.toNat < l11.length)) ((bd (l11.getD i5.toNat dSBox) fun (e13 : SBox) => (bd (l11.set i5.toNat (⟨e13.Name, e13.Weight, v12, e13.Cold, e13.From, e13.To⟩ : SBox)) fun (l14 : List SBox) => (bd (Int.tmod (w64 (v12 + (1 : Int))) (3 : Int)) fun (v15 : Int) => ix i5 l14.length (chk (decide (i5.toNat < l14.length)) ((bd (l14.getD i5.toNat dSBox) fun (e16 : SBox) => (bd (l14.set i5.toNat (⟨e16.Name, e16.Weight, e16.Class, (decide (v15 = (0 : Int))), e16.From, e16.To⟩ : SBox)) fun (l17 : List SBox) => (bd (w64 ((w64 (v12 + (1 : Int))) + (1 : Int))) fun (v18 : Int) => ix i5 l17.length (chk (decide (i5.toNat < l17.length)) ((bd (l17.getD i5.toNat dSBox) fun (e19 : SBox) => (bd (l17.set i5.toNat (⟨e19.Name, e19.Weight, e19.Class, e19.Cold, v18, e19.To⟩ : SBox)) fun (l20 : List SBox) => ix i5 l20.length (chk (decide (i5.toNat < l20.length)) ((bd (l20.getD i5.toNat dSBox) fun (e21 : SBox) => (bd (l20.set i5.toNat (⟨e21.Name, e21.Weight, e21.Class, e21.Cold, e21.From, (w64 (v18 + (1 : Int)))⟩ : SBox)) fun (l22 : List SBox) => (bd (w64 ((w64 (v18 + (1 : Int))) + (1 : Int))) fun (v23 : Int) => J v23 (w64 (i5 + (1 : Int))) l22))))))))))))))))))))))))))))
def laws_markBoxS_L2 {R : Type} (n : Nat) (kx0 : Int → List SBox → Option R) (J : Int → Int → List SBox → Option R) (k1 : Int) (i2 : Int) (p3 : List SBox) : Option R :=
  (bif (decide (i2 < (p3.length : Int))) then laws_markBoxS_k0 n kx0 J k1 i2 p3 else kx0 k1 p3)
def laws_markBoxS (n : Nat) (a0 : List SBox) (k1 : Int) : Option (Int × List SBox) :=
  loopN (fun (x : Int × Int × List SBox) J' => laws_markBoxS_L2 n (fun k24 p25 => some (k24, p25)) (fun k26 i27 p28 => J' (k26, i27, p28)) x.1 x.2.1 x.2.2) n (k1, (0 : Int), a0)
def laws_markStowS_k0 {R : Type} (n : Nat) (kx0 : Int → List SStow → Option R) (J : Int → Int → List SStow → Option R) (k4 : Int) (i5 : Int) (p6 : List SStow) : Option R :=
  (laws_markText n k4).bind fun r7 => ix i5 p6.length (chk (decide (i5.toNat < p6.length)) ((bd (p6.getD i5.toNat dSStow) fun (e8 : SStow) => (bd (p6.set i5.toNat (⟨(⟨r7, e8.Box.Weight, e8.Box.Class, e8.Box.Cold, e8.Box.From, e8.Box.To⟩ : SBox), e8.Spot⟩ : SStow)) fun (l9 : List SStow) => ix i5 l9.length (chk (decide (i5.toNat < l9.length)) ((bd (l9.getD i5.toNat dSStow) fun (e10 : SStow) => (bd (l9.set i5.toNat (⟨(⟨e10.Box.Name, (w64 (k4 + (1 : Int))), e10.Box.Class, e10.Box.Cold, e10.Box.From, e10.Box.To⟩ : SBox), e10.Spot⟩ : SStow)) fun (l11 : List SStow) => (bd (w64 ((w64 (k4 + (1 : Int))) + (1 : Int))) fun (v12 : Int) => ix i5 l11.length (chk (decide (i5.toNat < l11.length)) ((bd (l11.getD i5.toNat dSStow) fun (e13 : SStow) => (bd (l11.set i5.toNat (⟨(⟨e13.Box.Name, e13.Box.Weight, v12, e13.Box.Cold, e13.Box.From, e13.Box.To⟩ : SBox), e13.Spot⟩ : SStow)) fun (l14 : List SStow) => (bd (Int.tmod (w64 (v12 + (1 : Int))) (3 : Int)) fun (v15 : Int) => ix i5 l14.length (chk (decide (i5.toNat < l14.length)) ((bd (l14.getD i5.toNat dSStow) fun (e16 : SStow) => (bd (l14.set i5.toNat (⟨(⟨e16.Box.Name, e16.Box.Weight, e16.Box.Class, (decide (v15 = (0 : Int))), e16.Box.From, e16.Box.To⟩ : SBox), e16.Spot⟩ : SStow)) fun (l17 : List SStow) => (bd (w64 ((w64 (v12 + (1 : Int))) + (1 : Int))) fun (v18 : Int) => ix i5 l17.length (chk (decide (i5.toNat < l17.length)) ((bd (l17.getD i5.toNat dSStow) fun (e19 : SStow) => (bd (l17.set i5.toNat (⟨(⟨e19.Box.Name, e19.Box.Weight, e19.Box.Class, e19.Box.Cold, v18, e19.Box.To⟩ : SBox), e19.Spot⟩ : SStow)) fun (l20 : List SStow) => ix i5 l20.length (chk (decide (i5.toNat < l20.length)) ((bd (l20.getD i5.toNat dSStow) fun (e21 : SStow) => (bd (l20.set i5.toNat (⟨(⟨e21.Box.Name, e21.Box.Weight, e21.Box.Class, e21.Box.Cold, e21.Box.From, (w64 (v18 + (1 : Int)))⟩ : SBox), e21.Spot⟩ : SStow)) fun (l22 : List SStow) => (bd (w64 ((w64 (v18 + (1 : Int))) + (1 : Int))) fun (v23 : Int) => ix i5 l22.length (chk (decide (i5.toNat < l22.length)) ((bd (l22.getD i5.toNat dSStow) fun (e24 : SStow) => (bd (l22.set i5.toNat (⟨e24.Box, (⟨v23, e24.Spot.Row, e24.Spot.Tier⟩ : SSpot)⟩ : SStow)) fun (l25 : List SStow) => ix i5 l25.length (chk (decide (i5.toNat < l25.length)) ((bd (l25.getD i5.toNat dSStow) fun (e26 : SStow) => (bd (l25.set i5.toNat (⟨e26.Box, (⟨e26.Spot.Bay, (w64 (v23 + (1 : Int))), e26.Spot.Tier⟩ : SSpot)⟩ : SStow)) fun (l27 : List SStow) => (bd (w64 ((w64 (v23 + (1 : Int))) + (1 : Int))) fun (v28 : Int) => ix i5 l27.length (chk (decide (i5.toNat < l27.length)) ((bd (l27.getD i5.toNat dSStow) fun (e29 : SStow) => (bd (l27.set i5.toNat (⟨e29.Box, (⟨e29.Spot.Bay, e29.Spot.Row, v28⟩ : SSpot)⟩ : SStow)) fun (l30 : List SStow) => J (w64 (v28 + (1 : Int))) (w64 (i5 + (1 : Int))) l30)))))))))))))))))))))))))))))))))))))))))
def laws_markStowS_L2 {R : Type} (n : Nat) (kx0 : Int → List SStow → Option R) (J : Int → Int → List SStow → Option R) (k1 : Int) (i2 : Int) (p3 : List SStow) : Option R :=
  (bif (decide (i2 < (p3.length : Int))) then laws_markStowS_k0 n kx0 J k1 i2 p3 else kx0 k1 p3)
def laws_markStowS (n : Nat) (a0 : List SStow) (k1 : Int) : Option (Int × List SStow) :=
  loopN (fun (x : Int × Int × List SStow) J' => laws_markStowS_L2 n (fun k31 p32 => some (k31, p32)) (fun k33 i34 p35 => J' (k33, i34, p35)) x.1 x.2.1 x.2.2) n (k1, (0 : Int), a0)
def laws_heldStowS_k0 {R : Type} (n : Nat) (kx0 : Int → Option R) (kxr : Int → Option R) (J : Int → Int → Option R) (a1 : List SStow) (k27 : Int) (i28 : Int) : Option R :=
  ix i28 a1.length ((bd (a1.getD i28.toNat dSStow) fun (e29 : SStow) => (bif (!(decide (e29.Spot.Row = (w64 (k27 + (1 : Int)))))) then kxr (-1 : Int) else (bd (w64 ((w64 (k27 + (1 : Int))) + (1 : Int))) fun (v40 : Int) => ix i28 a1.length ((bd (a1.getD i28.toNat dSStow) fun (e41 : SStow) => (bif (!(decide (e41.Spot.Tier = v40))) then kxr (-1 : Int) else J (w64 (v40 + (1 : Int))) (w64 (i28 + (1 : Int))))))))))
def laws_heldStowS_k1 {R : Type} (n : Nat) (kx0 : Int → Option R) (kxr : Int → Option R) (J : Int → Int → Option R) (a1 : List SStow) (k21 : Int) (i22 : Int) : Option R :=
  ix i22 a1.length ((bd (a1.getD i22.toNat dSStow) fun (e23 : SStow) => (bif (!(decide (e23.Box.To = (w64 (k21 + (1 : Int)))))) then kxr (-1 : Int) else (bd (w64 ((w64 (k21 + (1 : Int))) + (1 : Int))) fun (v46 : Int) => ix i22 a1.length ((bd (a1.getD i22.toNat dSStow) fun (e47 : SStow) => (bif (!(decide (e47.Spot.Bay = v46))) then kxr (-1 : Int) else laws_heldStowS_k0 n kx0 kxr J a1 v46 i22)))))))
def laws_heldStowS_k2 {R : Type} (n : Nat) (kx0 : Int → Option R) (kxr : Int → Option R) (J : Int → Int → Option R) (a1 : List SStow) (k14 : Int) (i15 : Int) : Option R :=
  ix i15 a1.length ((bd (a1.getD i15.toNat dSStow) fun (e16 : SStow) => (bd (Int.tmod (w64 (k14 + (1 : Int))) (3 : Int)) fun (v17 : Int) => (bif (!(e16.Box.Cold == (decide (v17 = (0 : Int))))) then kxr (-1 : Int) else (bd (w64 ((w64 (k14 + (1 : Int))) + (1 : Int))) fun (v50 : Int) => ix i15 a1.length ((bd (a1.getD i15.toNat dSStow) fun (e51 : SStow) => (bif (!(decide (e51.Box.From = v50))) then kxr (-1 : Int) else laws_heldStowS_k1 n kx0 kxr J a1 v50 i15))))))))
def laws_heldStowS_k3 {R : Type} (n : Nat) (kx0 : Int → Option R) (kxr : Int → Option R) (J : Int → Int → Option R) (a1 : List SStow) (k8 : Int) (i9 : Int) : Option R :=
  ix i9 a1.length ((bd (a1.getD i9.toNat dSStow) fun (e10 : SStow) => (bif (!(decide (e10.Box.Weight = (w64 (k8 + (1 : Int)))))) then kxr (-1 : Int) else (bd (w64 ((w64 (k8 + (1 : Int))) + (1 : Int))) fun (v54 : Int) => ix i9 a1.length ((bd (a1.getD i9.toNat dSStow) fun (e55 : SStow) => (bif (!(decide (e55.Box.Class = v54))) then kxr (-1 : Int) else laws_heldStowS_k2 n kx0 kxr J a1 v54 i9)))))))
def laws_heldStowS_L2 {R : Type} (n : Nat) (kx0 : Int → Option R) (kxr : Int → Option R) (J : Int → Int → Option R) (a1 : List SStow) (k2 : Int) (i3 : Int) : Option R :=
  (bif (decide (i3 < (a1.length : Int))) then ix i3 a1.length ((bd (a1.getD i3.toNat dSStow) fun (e58 : SStow) => (laws_markText n k2).bind fun r59 => (bif (!(decide (e58.Box.Name = r59))) then kxr (-1 : Int) else laws_heldStowS_k3 n kx0 kxr J a1 k2 i3))) else kx0 k2)
def laws_heldStowS (n : Nat) (a0 : List SStow) (k1 : Int) : Option Int :=
  loopN (fun (x : Int × Int) J' => laws_heldStowS_L2 n (fun k62 => some (k62)) (fun t63 => some (t63)) (fun k64 i65 => J' (k64, i65)) a0 x.1 x.2) n (k1, (0 : Int))
def laws_FnExactFewest_k0 (n : Nat)  (aBays0 : List SHatch) (aBoxes1 : List SBox) (w169 : Bool) (m70 : Int) (t71 : List SStow) (t72 : List SStow) : Option Bool :=
  (laws_toHatchS n aBays0).bind fun r73 => (laws_toBoxS n aBoxes1).bind fun r74 => (impl_Fewest n r73 r74).bind fun r75 => (laws_eqStowS n r75.1 t71).bind fun r76 => (bif (!r76) then some (false) else (bif (!(r75.2 == w169)) then some (false) else (laws_heldStowS n t72 (1 : Int)).bind fun r92 => (bif (decide (r92 < (0 : Int))) then some (false) else (bif (!(decide (r92 = m70))) then some (false) else some (true)))))
def laws_FnExactFewest_k1 (n : Nat)  (aBays0 : List SHatch) (aBoxes1 : List SBox) (w155 : Bool) (t56 : Bool) (t57 : List SStow) (t58 : List SStow) : Option Bool :=
  (bif t56 then some (false) else (laws_markStowS n t58 (1 : Int)).bind fun r99 => (laws_heldStowS n r99.2 (1 : Int)).bind fun r100 => (bif (decide (r100 < (0 : Int))) then some (false) else (bif (!(decide (r100 = r99.1))) then some (false) else laws_FnExactFewest_k0 n  aBays0 aBoxes1 w155 r99.1 t57 r99.2)))
def laws_FnExactFewest_k2 (n : Nat)  (aBays0 : List SHatch) (aBoxes1 : List SBox) (w132 : Bool) (g133 : Bool) (t34 : List SStow) (t35 : List SHatch) (t36 : List SBox) (t37 : List SStow) : Option Bool :=
  (laws_toBoxS n aBoxes1).bind fun r38 => (laws_eqBoxS n t36 r38).bind fun r39 => (bif (!r39) then some (false) else (laws_markHatchS n t35 (1 : Int)).bind fun r110 => (laws_markBoxS n t36 r110.1).bind fun r111 => (bif (decide (r111.1 < (0 : Int))) then some (false) else (laws_eqStowS n t37 t34).bind fun r115 => (bif (!r115) then some (false) else laws_FnExactFewest_k1 n  aBays0 aBoxes1 w132 (!(g133 == w132)) t34 t37)))
def laws_FnExactFewest_k3 (n : Nat)  (aBays0 : List SHatch) (aBoxes1 : List SBox) : Option Bool :=
  (laws_toHatchS n aBays0).bind fun r4 => (laws_toBoxS n aBoxes1).bind fun r5 => (spec_Fewest n r4 r5).bind fun r6 => (laws_toHatchS n aBays0).bind fun r7 => (laws_toBoxS n aBoxes1).bind fun r8 => (impl_Fewest n r7 r8).bind fun r9 => (laws_eqStowS n r9.1 r6.1).bind fun r10 => (bif (!r10) then some (false) else (bif (!(r9.2 == r6.2)) then some (false) else (laws_toHatchS n aBays0).bind fun r137 => (laws_eqHatchS n r7 r137).bind fun r138 => (bif (!r138) then some (false) else laws_FnExactFewest_k2 n  aBays0 aBoxes1 r6.2 r9.2 r6.1 r7 r8 r9.1)))
def laws_FnExactFewest (n : Nat) (aBays0 : List SHatch) (aBoxes1 : List SBox) : Option Bool :=
  (laws_szHatchS n aBays0 (1048576 : Int)).bind fun r1 => (bif (decide (r1 < (0 : Int))) then some (true) else (laws_szBoxS n aBoxes1 r1).bind fun r145 => (bif (decide (r145 < (0 : Int))) then some (true) else laws_FnExactFewest_k3 n  aBays0 aBoxes1))
def rng (a b x : Int) : Prop := a ≤ x ∧ x ≤ b
def wfSHatch (x : SHatch) : Prop := rng (-9223372036854775808) 9223372036854775807 x.Rows ∧ rng (-9223372036854775808) 9223372036854775807 x.Tiers ∧ rng (-9223372036854775808) 9223372036854775807 x.Most ∧ rng (-9223372036854775808) 9223372036854775807 x.Plugs
def wfSBox (x : SBox) : Prop := x.Name.size ≤ 9223372036854775807 ∧ rng (-9223372036854775808) 9223372036854775807 x.Weight ∧ rng (-9223372036854775808) 9223372036854775807 x.Class ∧ True ∧ rng (-9223372036854775808) 9223372036854775807 x.From ∧ rng (-9223372036854775808) 9223372036854775807 x.To
def wfSSpot (x : SSpot) : Prop := rng (-9223372036854775808) 9223372036854775807 x.Bay ∧ rng (-9223372036854775808) 9223372036854775807 x.Row ∧ rng (-9223372036854775808) 9223372036854775807 x.Tier
def wfSStow (x : SStow) : Prop := wfSBox x.Box ∧ wfSSpot x.Spot
end Go.Sm

section
set_option linter.unusedVariables false
namespace Go.Sm
/-! ### Of the words that printed functions are made of -/
theorem w64_id {x : Int} (h1 : -9223372036854775808 ≤ x) (h2 : x ≤ 9223372036854775807) : w64 x = x := by
  show (let m := x % (2 ^ 64 : Int); if (true && decide ((2 : Int) ^ 63 ≤ m)) = true then m - 2 ^ 64 else m) = x
  simp only [Bool.true_and, decide_eq_true_eq]
  split <;> omega
theorem chk_of {R : Type} {b : Bool} {x : Option R} (h : b = true) : chk b x = x := by rw [h]; rfl
theorem chk_true {R : Type} {x : Option R} : chk true x = x := rfl
theorem chk_dec {R : Type} {p : Prop} [Decidable p] {x : Option R} (h : p) : chk (decide p) x = x := chk_of (decide_eq_true h)
theorem ix_of {R : Type} {i : Int} {len : Nat} {x : Option R} (h0 : 0 ≤ i) (h1 : i < (len : Int)) : ix i len x = x := by
  unfold ix
  rw [decide_eq_true h0, decide_eq_true h1]
  rfl
theorem ix_nat {R : Type} {i len : Nat} {x : Option R} (h1 : i < len) : ix (i : Int) len x = x := ix_of (by omega) (by omega)
theorem bif_dec {α : Type} {p : Prop} [Decidable p] {x y : α} : (bif decide p then x else y) = if p then x else y := by
  by_cases h : p <;> simp [h]
theorem loopN_succ {X R : Type} (b : X → (X → Option R) → Option R) (m : Nat) (x : X) : loopN b (m + 1) x = b x (loopN b m) := rfl
/-- What holds of a loop: by what is left to go. -/
theorem loopN_ind {X R : Type} {b : X → (X → Option R) → Option R} (μ : X → Nat) (I : X → Prop) (Q : X → Option R → Prop)
    (h : ∀ x J, I x → (∀ y, I y → μ y < μ x → Q y (J y)) → Q x (b x J)) : ∀ n x, I x → μ x < n → Q x (loopN b n x)
  | 0, x, hi, hm => absurd hm (Nat.not_lt_zero _)
  | n + 1, x, hi, hm => h x (loopN b n) hi fun y hy hl => loopN_ind μ I Q h n y hy (by omega)
theorem getD_eq {α : Type} {l : List α} {i : Nat} {d : α} (h : i < l.length) : l.getD i d = l[i] := by
  simp [List.getD, h]
theorem w64_succ {k : Nat} (h : k < 9223372036854775807) : w64 ((k : Int) + 1) = ((k + 1 : Nat) : Int) := by
  rw [w64_id (by omega) (by omega)]
  rfl
theorem take_succ_getD {α : Type} {l : List α} {i : Nat} {d : α} (h : i < l.length) : l.take (i + 1) = l.take i ++ [l.getD i d] := by
  rw [List.take_succ, getD_eq h, List.getElem?_eq_getElem h]
  rfl
theorem bd_eq {α β : Type} (e : α) (f : α → β) : bd e f = f e := rfl
/-- A list written from the front. -/
theorem set_take {α : Type} {a : List α} {d : α} {m k : Nat} (h : k < a.length) (hm : m = a.length := by rfl) : (a.take k ++ (List.replicate m d).drop k).set k (a.getD k d) = a.take (k + 1) ++ (List.replicate m d).drop (k + 1) := by
  subst hm
  have h1 : (a.take k).length = k := by simp; omega
  rw [List.set_append_right _ _ (by omega), h1, Nat.sub_self, take_succ_getD h, List.append_assoc]
  congr 1
  rw [List.drop_eq_getElem_cons (by simp; exact h)]
  rfl
/-! ### Loops over 0 .. len, by what is left -/
theorem bif_and' {α : Type} {a b : Bool} {x y : α} : (bif a then (bif b then x else y) else y) = bif a && b then x else y := by cases a <;> rfl
theorem bif_sf {a b : Bool} : (bif a then some b else some false) = some (a && b) := by cases a <;> rfl
theorem all_range_succ {p : Nat → Bool} {k : Nat} : (List.range (k + 1)).all p = ((List.range k).all p && p k) := by
  rw [List.range_succ, List.all_append]
  simp
theorem any_range_succ {p : Nat → Bool} {k : Nat} : (List.range (k + 1)).any p = ((List.range k).any p || p k) := by
  rw [List.range_succ, List.any_append]
  simp
theorem all_range_not {p : Nat → Bool} {k m : Nat} (hk : k < m) (h : p k = false) : (List.range m).all p = false := by
  rw [Bool.eq_false_iff]
  intro e
  rw [List.all_eq_true] at e
  rw [e k (List.mem_range.2 hk)] at h
  cases h
/-- A loop that looks at k = 0, 1, .. and leaves at the first that is not so. -/
theorem loop_all {R : Type} {b : Int → (Int → Option R) → Option R} {len : Nat} {p : Nat → Bool} {no yes : Option R} (hlen : len ≤ 9223372036854775807)
    (hstep : ∀ (k : Nat) (J : Int → Option R), k < len → (∀ j, j < k → p j = true) → b (k : Int) J = bif p k then J ((k + 1 : Nat) : Int) else no) (hfin : ∀ J, (∀ j, j < len → p j = true) → b (len : Int) J = yes) {n : Nat} (hn : len < n) :
    loopN b n (0 : Int) = bif (List.range len).all p then yes else no := by
  refine loopN_ind (fun x => len - x.toNat) (fun x => ∃ k : Nat, k ≤ len ∧ x = (k : Int) ∧ (List.range k).all p = true) (fun x r => r = bif (List.range len).all p then yes else no) ?_ n _ ⟨0, by omega, rfl, rfl⟩ (by simp; omega)
  rintro _ J ⟨k, hk, rfl, hb⟩ ih
  have hb' : ∀ j, j < k → p j = true := fun j hj => List.all_eq_true.1 hb j (List.mem_range.2 hj)
  by_cases h : k < len
  · rw [hstep k J h hb']
    cases hp : p k with
    | true => exact ih _ ⟨k + 1, h, rfl, by rw [all_range_succ, hb, hp]; rfl⟩ (by simp; omega)
    | false => rw [all_range_not h hp]; rfl
  · have : k = len := by omega
    subst this
    rw [hfin _ hb', hb]
    rfl
/-- A loop over 0 .. len that never leaves early; its state: I. -/
theorem loop_runS {S R : Type} {X : Type} {enc : Int → S → X} {b : X → (X → Option R) → Option R} {len : Nat} {I : Nat → S → Prop} {Q : Option R → Prop}
    (hstep : ∀ (k : Nat) (s : S) (J : X → Option R), k < len → I k s → ∃ s', I (k + 1) s' ∧ b (enc (k : Int) s) J = J (enc ((k + 1 : Nat) : Int) s')) (hfin : ∀ s J, I len s → Q (b (enc (len : Int) s) J)) {n : Nat} (hn : len < n) {s0 : S} (h0 : I 0 s0) :
    Q (loopN b n (enc (0 : Int) s0)) := by
  have key : ∀ m (k : Nat) (s : S) n, k + m = len → m < n → I k s → Q (loopN b n (enc (k : Int) s)) := by
    intro m
    induction m with
    | zero =>
      intro k s n hk hn hi
      have hk : k = len := by omega
      subst hk
      cases n with
      | zero => omega
      | succ n => rw [loopN_succ]; exact hfin s _ hi
    | succ m ih =>
      intro k s n hk hn hi
      cases n with
      | zero => omega
      | succ n =>
        rw [loopN_succ]
        obtain ⟨s', h1, h2⟩ := hstep k s (loopN b n) (by omega) hi
        rw [h2]
        exact ih (k + 1) s' n (by omega) (by omega) h1
  exact key len 0 s0 n (by omega) hn h0
/-! ### Sums over lists -/
def sumOf {α : Type} (f : α → Nat) : List α → Nat
  | [] => 0
  | a :: l => f a + sumOf f l
theorem sumOf_append {α : Type} (f : α → Nat) : ∀ a b : List α, sumOf f (a ++ b) = sumOf f a + sumOf f b
  | [], b => by simp [sumOf]
  | x :: a, b => by simp only [List.cons_append, sumOf, sumOf_append f a b]; omega
theorem sumOf_take_succ {α : Type} {f : α → Nat} {l : List α} {k : Nat} {d : α} (h : k < l.length) : sumOf f (l.take (k + 1)) = sumOf f (l.take k) + f (l.getD k d) := by
  rw [take_succ_getD (d := d) h, sumOf_append]
  simp [sumOf]
theorem sumOf_take_le {α : Type} (f : α → Nat) (l : List α) (k : Nat) : sumOf f (l.take k) ≤ sumOf f l := by
  have := sumOf_append f (l.take k) (l.drop k)
  rw [List.take_append_drop] at this
  omega
theorem sumOf_mem {α : Type} {f : α → Nat} {l : List α} {k : Nat} {d : α} (h : k < l.length) : f (l.getD k d) ≤ sumOf f l := by
  have h1 := sumOf_take_succ (f := f) (d := d) h
  have h2 := sumOf_take_le f l (k + 1)
  omega
theorem sumOf_const {α : Type} (c : Nat) : ∀ l : List α, sumOf (fun _ => c) l = c * l.length
  | [] => by simp [sumOf]
  | a :: l => by simp only [sumOf, sumOf_const c l, List.length_cons, Nat.mul_succ]; omega
theorem getD_set {α : Type} {l : List α} {k : Nat} {x d : α} (h : k < l.length) : (l.set k x).getD k d = x := by simp [List.getD, h]
theorem getD_set_ne {α : Type} {l : List α} {k j : Nat} {x d : α} (h : j ≠ k) : (l.set k x).getD j d = l.getD j d := by simp [List.getD, List.getElem?_set, Ne.symm h]
theorem getD_mem {α : Type} {l : List α} {k : Nat} {d : α} (h : k < l.length) : l.getD k d ∈ l := by rw [getD_eq h]; exact List.getElem_mem h
theorem take_drop_set {α : Type} {a : List α} {d : α} {m k : Nat} {x : α} (h : k < a.length) (hm : m = a.length) (hx : x = a.getD k d) : (a.take k ++ (List.replicate m d).drop k).set k x = a.take (k + 1) ++ (List.replicate m d).drop (k + 1) := by
  subst hx
  exact set_take h hm
/-! ### The first that is so -/
def idxOf (p : Nat → Bool) (m : Nat) : Int := match (List.range m).find? p with
  | some k => (k : Int)
  | none => -1
theorem find_range_none {p : Nat → Bool} {m : Nat} (h : ∀ j, j < m → p j = false) : (List.range m).find? p = none := by
  rw [List.find?_eq_none]
  intro x hx
  rw [h x (List.mem_range.1 hx)]
  simp
theorem find_range_some {p : Nat → Bool} {m k : Nat} (hk : k < m) (hp : p k = true) (h : ∀ j, j < k → p j = false) : (List.range m).find? p = some k := by
  have e : m = k + (m - k) := by omega
  rw [e, List.range_add, List.find?_append, find_range_none h, Option.none_or]
  obtain ⟨r, hr⟩ : ∃ r, m - k = r + 1 := ⟨m - k - 1, by omega⟩
  rw [hr, List.range_succ_eq_map]
  simp [hp]
theorem idxOf_ge (p : Nat → Bool) (m : Nat) : decide (idxOf p m ≥ 0) = (List.range m).any p := by
  unfold idxOf
  cases h : (List.range m).find? p with
  | none =>
    rw [List.find?_eq_none] at h
    rw [show (List.range m).any p = false from by rw [List.any_eq_false]; exact h]
    rfl
  | some k =>
    have h1 := List.find?_some h
    rw [show (List.range m).any p = true from List.any_eq_true.2 ⟨k, List.mem_of_find?_eq_some h, h1⟩]
    exact decide_eq_true (by show (0 : Int) ≤ (k : Int); omega)
theorem idxOf_lt (p : Nat → Bool) (m : Nat) : decide (idxOf p m < 0) = !(List.range m).any p := by
  rw [← idxOf_ge]
  by_cases h : idxOf p m < 0
  · rw [decide_eq_true h, decide_eq_false (by omega)]; rfl
  · rw [decide_eq_false h, decide_eq_true (by omega)]; rfl
theorem find_range (p : Nat → Bool) : ∀ m, ((List.range m).find? p = none ∧ ∀ j, j < m → p j = false) ∨ ∃ k, (List.range m).find? p = some k ∧ k < m ∧ p k = true ∧ ∀ j, j < k → p j = false
  | 0 => .inl ⟨rfl, fun j hj => absurd hj (Nat.not_lt_zero _)⟩
  | m + 1 => by
    rcases find_range p m with ⟨h1, h2⟩ | ⟨k, h1, h2, h3, h4⟩
    · cases hp : p m with
      | true => exact .inr ⟨m, find_range_some (by omega) hp h2, by omega, hp, h2⟩
      | false =>
        have : ∀ j, j < m + 1 → p j = false := fun j hj => by
          by_cases e : j = m
          · rw [e]; exact hp
          · exact h2 j (by omega)
        exact .inl ⟨find_range_none this, this⟩
    · exact .inr ⟨k, find_range_some (by omega) h3 h4, by omega, h3, h4⟩
theorem idxOf_spec (p : Nat → Bool) (m : Nat) : (idxOf p m = -1 ∧ ∀ j, j < m → p j = false) ∨ ∃ k : Nat, idxOf p m = (k : Int) ∧ k < m ∧ p k = true ∧ ∀ j, j < k → p j = false := by
  unfold idxOf
  rcases find_range p m with ⟨h1, h2⟩ | ⟨k, h1, h2, h3, h4⟩
  · rw [h1]; exact .inl ⟨rfl, h2⟩
  · rw [h1]; exact .inr ⟨k, rfl, h2, h3, h4⟩
/-- A loop that looks at k = 0, 1, .. and leaves at the first that is so. -/
theorem loop_find {R : Type} {b : Int → (Int → Option R) → Option R} {len : Nat} {p : Nat → Bool} {yes : Nat → Option R} {no : Option R} (hlen : len ≤ 9223372036854775807)
    (hstep : ∀ (k : Nat) (J : Int → Option R), k < len → (∀ j, j < k → p j = false) → b (k : Int) J = bif p k then yes k else J ((k + 1 : Nat) : Int)) (hfin : ∀ J, (∀ j, j < len → p j = false) → b (len : Int) J = no) {n : Nat} (hn : len < n) :
    loopN b n (0 : Int) = match (List.range len).find? p with | some k => yes k | none => no := by
  refine loopN_ind (fun x => len - x.toNat) (fun x => ∃ k : Nat, k ≤ len ∧ x = (k : Int) ∧ ∀ j, j < k → p j = false) (fun x r => r = match (List.range len).find? p with | some k => yes k | none => no) ?_ n _ ⟨0, by omega, rfl, fun j hj => absurd hj (Nat.not_lt_zero _)⟩ (by simp; omega)
  rintro _ J ⟨k, hk, rfl, hb⟩ ih
  by_cases h : k < len
  · rw [hstep k J h hb]
    cases hp : p k with
    | false => exact ih _ ⟨k + 1, h, rfl, fun j hj => by
        by_cases e : j = k
        · rw [e]; exact hp
        · exact hb j (by omega)⟩ (by simp; omega)
    | true => rw [find_range_some h hp hb]; rfl
  · have : k = len := by omega
    subst this
    rw [hfin _ hb, find_range_none hb]
theorem loop_idx {b : Int → (Int → Option Int) → Option Int} {len : Nat} {p : Nat → Bool} (hlen : len ≤ 9223372036854775807)
    (hstep : ∀ (k : Nat) (J : Int → Option Int), k < len → (∀ j, j < k → p j = false) → b (k : Int) J = bif p k then some (k : Int) else J ((k + 1 : Nat) : Int)) (hfin : ∀ J, (∀ j, j < len → p j = false) → b (len : Int) J = some (-1)) {n : Nat} (hn : len < n) :
    loopN b n (0 : Int) = some (idxOf p len) := by
  rw [loop_find (yes := fun k => some (k : Int)) (no := some (-1)) hlen hstep hfin hn]
  unfold idxOf
  cases (List.range len).find? p <;> rfl
theorem byteAt_rng (s : ByteArray) (k : Nat) : 0 ≤ byteAt s k ∧ byteAt s k ≤ 255 := by
  unfold byteAt
  have := (s.data.getD k 0).toNat_lt
  omega
theorem any_congr_lt {p q : Nat → Bool} {m : Nat} (h : ∀ k, k < m → p k = q k) : (List.range m).any p = (List.range m).any q := by
  rw [Bool.eq_iff_iff, List.any_eq_true, List.any_eq_true]
  constructor
  · rintro ⟨x, hx, g⟩; exact ⟨x, hx, by rw [← h x (List.mem_range.1 hx)]; exact g⟩
  · rintro ⟨x, hx, g⟩; exact ⟨x, hx, by rw [h x (List.mem_range.1 hx)]; exact g⟩
theorem guard_sz {w : Nat} {x : Option Bool} (h : w ≤ 1048576 → x = some true) : (bif decide ((if (w : Int) ≤ 1048576 then 1048576 - (w : Int) else -1) < 0) then some true else x) = some true := by
  by_cases c : (w : Int) ≤ 1048576
  · rw [if_pos c, decide_eq_false (by omega), cond_false]
    exact h (by omega)
  · rw [if_neg c]
    rfl
end Go.Sm
end

section
set_option linter.unusedVariables false
set_option linter.unusedSimpArgs false
namespace Go.Sm
attribute [local irreducible] bd chk ix loopN
theorem laws_markText_ok {n : Nat} (k : Int) (hk : k ≤ 1000000000) (hn : 1000000000 < n) : ∃ t, laws_markText n k = some t := by
  unfold laws_markText
  rw [bif_dec]
  split
  · exact ⟨_, rfl⟩
  · refine loopN_ind (fun x => x.1.toNat) (fun x => 0 ≤ x.1 ∧ x.1 + (x.2.size : Int) ≤ 1000000000) (fun x r => ∃ t, r = some t) ?_ n _ ⟨by omega, by show k + ((str []).size : Int) ≤ _; simp [str, ByteArray.size]; omega⟩ (by simp; omega)
    rintro ⟨k, out⟩ J ⟨h0, h1⟩ ih
    unfold laws_markText_L4
    dsimp only at h0 h1 ⊢
    have e1 : ∀ l : List Int, (bstr l).size = l.length := fun l => by simp [bstr, ByteArray.size]
    have e2 : (str [109]).size = 1 := rfl
    have e3 : k.tdiv 10 = k / 10 := Int.tdiv_eq_ediv_of_nonneg h0
    simp only [bd_eq]
    rw [bif_dec, e3]
    split
    · rw [e1, chk_dec (by simp; omega), w64_id (x := k / 10) (by omega) (by omega)]
      refine ih _ ⟨by dsimp only; omega, ?_⟩ (by dsimp only; omega)
      rw [ByteArray.size_append, e1]
      simp
      omega
    · rw [e2, chk_dec (by omega)]
      exact ⟨_, rfl⟩
def w_LSHatch (a : List SHatch) : Nat := a.length
theorem laws_szHatchS_ok {n : Nat} (a : List SHatch) {left : Int} (h : (a.length ≤ 9223372036854775807 ∧ ∀ y ∈ a, wfSHatch y)) (h0 : 0 ≤ left) (h1 : left ≤ 1048576) (hn : 1000000000 < n) : laws_szHatchS n a left = some (if (w_LSHatch a : Int) ≤ left then left - (w_LSHatch a : Int) else -1) := by
  have hw : w_LSHatch a = a.length := rfl
  unfold laws_szHatchS
  rw [w64_id (by have := h.1; omega) (by omega), bd_eq, bif_dec]
  by_cases c : (a.length : Int) ≤ left
  · rw [if_neg (by omega), if_pos (by omega)]
    congr 1
  · rw [if_pos (by omega), if_neg (by omega)]
def w_SBox (a : SBox) : Nat := a.Name.size
theorem laws_szBox_ok {n : Nat} (a : SBox) {left : Int} (h : wfSBox a) (h0 : 0 ≤ left) (h1 : left ≤ 1048576) (hn : 1000000000 < n) : laws_szBox n a left = some (if (w_SBox a : Int) ≤ left then left - (w_SBox a : Int) else -1) := by
  have hw : w_SBox a = a.Name.size := rfl
  unfold laws_szBox
  rw [w64_id (by have := h.1; omega) (by omega), bd_eq, bif_dec]
  by_cases c0 : (a.Name.size : Int) ≤ left
  case neg => rw [if_pos (by omega), if_neg (by omega)]
  rw [if_neg (by omega)]
  rw [if_pos (by omega)]
  try (refine congrArg some ?_; omega)
def w_LSBox (a : List SBox) : Nat := a.length + sumOf (fun y => w_SBox y) a
theorem laws_szBoxS_ok {n : Nat} (a : List SBox) {left : Int} (h : (a.length ≤ 9223372036854775807 ∧ ∀ y ∈ a, wfSBox y)) (h0 : 0 ≤ left) (h1 : left ≤ 1048576) (hn : 1000000000 < n) : laws_szBoxS n a left = some (if (w_LSBox a : Int) ≤ left then left - (w_LSBox a : Int) else -1) := by
  have hw : w_LSBox a = a.length + sumOf (fun y => w_SBox y) a := rfl
  unfold laws_szBoxS
  rw [w64_id (by have := h.1; omega) (by omega), bd_eq, bif_dec]
  by_cases c : (a.length : Int) ≤ left
  case neg => rw [if_pos (by omega), if_neg (by omega)]
  rw [if_neg (by omega)]
  refine loopN_ind (fun x => a.length - x.2.toNat) (fun x => ∃ k : Nat, k ≤ a.length ∧ x = (left - (a.length : Int) - (sumOf (fun y => w_SBox y) (a.take k) : Int), (k : Int)) ∧ (sumOf (fun y => w_SBox y) (a.take k) : Int) ≤ left - (a.length : Int))
    (fun x r => r = some (if (w_LSBox a : Int) ≤ left then left - (w_LSBox a : Int) else -1)) ?_ n _ ⟨0, by omega, by simp [sumOf], by simp [sumOf]; omega⟩ (by simp; omega)
  rintro _ J ⟨k, hk, rfl, hb⟩ ih
  unfold laws_szBoxS_L5
  by_cases h2 : k < a.length
  · have s1 := sumOf_take_succ (f := fun y => w_SBox y) (d := dSBox) h2
    have s2 := sumOf_take_le (fun y => w_SBox y) a (k + 1)
    try simp only at s1
    simp only [Int.ofNat_lt, h2, decide_true, cond_true, ix_nat h2, Int.toNat_natCast, bd_eq]
    rw [laws_szBox_ok (n := n) (a.getD k dSBox) (h.2 _ (getD_mem h2)) (by omega) (by omega) hn, Option.bind_some, bif_dec]
    by_cases c2 : (w_SBox (a.getD k dSBox) : Int) ≤ left - (a.length : Int) - (sumOf (fun y => w_SBox y) (a.take k) : Int)
    · rw [if_pos c2, if_neg (by omega), w64_succ (by omega)]
      exact ih (_, ((k + 1 : Nat) : Int)) ⟨k + 1, h2, Prod.ext (by dsimp only; omega) rfl, by omega⟩ (by simp; omega)
    · rw [if_neg c2, if_pos (by omega), if_neg (by omega)]
  · have : k = a.length := by omega
    subst this
    rw [List.take_length] at hb ⊢
    simp only [Int.lt_irrefl, decide_false, cond_false]
    rw [if_pos (by omega)]
    congr 1
    omega
theorem laws_toHatch_ok (n : Nat) (a : SHatch) : laws_toHatch n a = some a := by simp [laws_toHatch]
theorem laws_toHatchS_ok {n : Nat} (a : List SHatch) (hb : w_LSHatch a ≤ 100000000) (hn : 1000000000 < n) : laws_toHatchS n a = some a := by
  have hw0 : a.length ≤ 100000000 := by have hw : w_LSHatch a = a.length := rfl; omega
  unfold laws_toHatchS
  rw [chk_dec (by omega), chk_dec (by omega), chk_dec (by omega)]
  refine loopN_ind (fun x => a.length - x.1.toNat) (fun x => ∃ k : Nat, k ≤ a.length ∧ x = ((k : Int), a.take k ++ (List.replicate a.length dSHatch).drop k)) (fun x r => r = some a) ?_ n _ ⟨0, by omega, by simp⟩ (by simp; omega)
  rintro _ J ⟨k, hk, rfl⟩ ih
  unfold laws_toHatchS_L3
  dsimp only
  have hl : (a.take k ++ (List.replicate a.length dSHatch).drop k).length = a.length := by simp; omega
  by_cases h : k < a.length
  · have g := ih (((k + 1 : Nat) : Int), a.take (k + 1) ++ (List.replicate a.length dSHatch).drop (k + 1)) ⟨k + 1, h, rfl⟩ (by simp; omega)
    have hk2 : k < (a.take k ++ (List.replicate a.length dSHatch).drop k).length := by omega
    simp only [Int.ofNat_lt, h, hk2, decide_true, cond_true, ix_nat h, ix_nat hk2, chk_of, bd_eq, Option.bind_some, Int.toNat_natCast, w64_succ (show k < 9223372036854775807 by omega), laws_toHatch_ok]
    rw [take_drop_set (d := dSHatch) h rfl rfl]
    exact g
  · have : k = a.length := by omega
    subst this
    simp
theorem laws_toBox_ok {n : Nat} (a : SBox) (h : w_SBox a ≤ 100000000) (hn : 1000000000 < n) : laws_toBox n a = some a := by
  have hw : w_SBox a = a.Name.size := rfl
  simp [laws_toBox]
theorem laws_toBoxS_ok {n : Nat} (a : List SBox) (hb : w_LSBox a ≤ 100000000) (hn : 1000000000 < n) : laws_toBoxS n a = some a := by
  have hw0 : a.length ≤ 100000000 := by have hw : w_LSBox a = a.length + sumOf (fun y => w_SBox y) a := rfl; omega
  unfold laws_toBoxS
  rw [chk_dec (by omega), chk_dec (by omega), chk_dec (by omega)]
  refine loopN_ind (fun x => a.length - x.1.toNat) (fun x => ∃ k : Nat, k ≤ a.length ∧ x = ((k : Int), a.take k ++ (List.replicate a.length dSBox).drop k)) (fun x r => r = some a) ?_ n _ ⟨0, by omega, by simp⟩ (by simp; omega)
  rintro _ J ⟨k, hk, rfl⟩ ih
  unfold laws_toBoxS_L3
  dsimp only
  have hl : (a.take k ++ (List.replicate a.length dSBox).drop k).length = a.length := by simp; omega
  by_cases h : k < a.length
  · have g := ih (((k + 1 : Nat) : Int), a.take (k + 1) ++ (List.replicate a.length dSBox).drop (k + 1)) ⟨k + 1, h, rfl⟩ (by simp; omega)
    have s1 := sumOf_mem (f := fun y => w_SBox y) (d := dSBox) h
    have hw : w_LSBox a = a.length + sumOf (fun y => w_SBox y) a := rfl
    try simp only at s1
    have hk2 : k < (a.take k ++ (List.replicate a.length dSBox).drop k).length := by omega
    simp only [Int.ofNat_lt, h, hk2, decide_true, cond_true, ix_nat h, ix_nat hk2, chk_of, bd_eq, Option.bind_some, Int.toNat_natCast, w64_succ (show k < 9223372036854775807 by omega), laws_toBox_ok (n := n) (a.getD k dSBox) (by omega) hn]
    rw [take_drop_set (d := dSBox) h rfl rfl]
    exact g
  · have : k = a.length := by omega
    subst this
    simp
theorem laws_eqBox_ok {n : Nat} (a : SBox) (h : w_SBox a ≤ 100000000) (hn : 1000000000 < n) : laws_eqBox n a a = some true := by
  have hw : w_SBox a = a.Name.size := rfl
  simp [laws_eqBox, laws_eqBox_k0]
theorem laws_eqSpot_ok (n : Nat) (a : SSpot) : laws_eqSpot n a a = some true := by simp [laws_eqSpot]
def w_SStow (a : SStow) : Nat := w_SBox a.Box
theorem laws_eqStow_ok {n : Nat} (a : SStow) (h : w_SStow a ≤ 100000000) (hn : 1000000000 < n) : laws_eqStow n a a = some true := by
  have hw : w_SStow a = w_SBox a.Box := rfl
  simp [laws_eqStow, laws_eqBox_ok (n := n) a.Box (by omega) hn, laws_eqSpot_ok]
def w_LSStow (a : List SStow) : Nat := a.length + sumOf (fun y => w_SStow y) a
theorem laws_eqStowS_ok {n : Nat} (a : List SStow) (hb : w_LSStow a ≤ 100000000) (hn : 1000000000 < n) : laws_eqStowS n a a = some true := by
  have hw0 : a.length ≤ 100000000 := by have hw : w_LSStow a = a.length + sumOf (fun y => w_SStow y) a := rfl; omega
  unfold laws_eqStowS
  simp only [decide_true, Bool.not_true, cond_false]
  refine loopN_ind (fun x => a.length - x.toNat) (fun x => ∃ k : Nat, k ≤ a.length ∧ x = (k : Int)) (fun x r => r = some true) ?_ n _ ⟨0, by omega, rfl⟩ (by simp; omega)
  rintro _ J ⟨k, hk, rfl⟩ ih
  unfold laws_eqStowS_L4
  by_cases h : k < a.length
  · have g := ih ((k + 1 : Nat) : Int) ⟨k + 1, h, rfl⟩ (by simp; omega)
    have s1 := sumOf_mem (f := fun y => w_SStow y) (d := dSStow) h
    have hw : w_LSStow a = a.length + sumOf (fun y => w_SStow y) a := rfl
    try simp only at s1
    simp only [Int.ofNat_lt, h, decide_true, cond_true, ix_nat h, Bool.not_true, cond_false, bd_eq, Option.bind_some, beq_self_eq_true, Int.toNat_natCast, w64_succ (show k < 9223372036854775807 by omega), laws_eqStow_ok (n := n) (a.getD k dSStow) (by omega) hn]
    exact g
  · simp [h]
theorem laws_eqHatch_ok (n : Nat) (a : SHatch) : laws_eqHatch n a a = some true := by simp [laws_eqHatch]
theorem laws_eqHatchS_ok {n : Nat} (a : List SHatch) (hb : w_LSHatch a ≤ 100000000) (hn : 1000000000 < n) : laws_eqHatchS n a a = some true := by
  have hw0 : a.length ≤ 100000000 := by have hw : w_LSHatch a = a.length := rfl; omega
  unfold laws_eqHatchS
  simp only [decide_true, Bool.not_true, cond_false]
  refine loopN_ind (fun x => a.length - x.toNat) (fun x => ∃ k : Nat, k ≤ a.length ∧ x = (k : Int)) (fun x r => r = some true) ?_ n _ ⟨0, by omega, rfl⟩ (by simp; omega)
  rintro _ J ⟨k, hk, rfl⟩ ih
  unfold laws_eqHatchS_L4
  by_cases h : k < a.length
  · have g := ih ((k + 1 : Nat) : Int) ⟨k + 1, h, rfl⟩ (by simp; omega)
    simp only [Int.ofNat_lt, h, decide_true, cond_true, ix_nat h, Bool.not_true, cond_false, bd_eq, Option.bind_some, beq_self_eq_true, Int.toNat_natCast, w64_succ (show k < 9223372036854775807 by omega), laws_eqHatch_ok]
    exact g
  · simp [h]
theorem laws_eqBoxS_ok {n : Nat} (a : List SBox) (hb : w_LSBox a ≤ 100000000) (hn : 1000000000 < n) : laws_eqBoxS n a a = some true := by
  have hw0 : a.length ≤ 100000000 := by have hw : w_LSBox a = a.length + sumOf (fun y => w_SBox y) a := rfl; omega
  unfold laws_eqBoxS
  simp only [decide_true, Bool.not_true, cond_false]
  refine loopN_ind (fun x => a.length - x.toNat) (fun x => ∃ k : Nat, k ≤ a.length ∧ x = (k : Int)) (fun x r => r = some true) ?_ n _ ⟨0, by omega, rfl⟩ (by simp; omega)
  rintro _ J ⟨k, hk, rfl⟩ ih
  unfold laws_eqBoxS_L4
  by_cases h : k < a.length
  · have g := ih ((k + 1 : Nat) : Int) ⟨k + 1, h, rfl⟩ (by simp; omega)
    have s1 := sumOf_mem (f := fun y => w_SBox y) (d := dSBox) h
    have hw : w_LSBox a = a.length + sumOf (fun y => w_SBox y) a := rfl
    try simp only at s1
    simp only [Int.ofNat_lt, h, decide_true, cond_true, ix_nat h, Bool.not_true, cond_false, bd_eq, Option.bind_some, beq_self_eq_true, Int.toNat_natCast, w64_succ (show k < 9223372036854775807 by omega), laws_eqBox_ok (n := n) (a.getD k dSBox) (by omega) hn]
    exact g
  · simp [h]
def Mk_LSHatch (n : Nat) (k : Int) (a x : SHatch) : Prop := x.Rows = k ∧ x.Tiers = k + 1 ∧ x.Most = k + 2 ∧ x.Plugs = k + 3
def n_LSHatch (a : List SHatch) : Nat := sumOf (fun y => 4) a
theorem n_LSHatch_eq (a : List SHatch) : n_LSHatch a = 4 * a.length := sumOf_const 4 a
theorem n_LSHatch_le (a : List SHatch) : n_LSHatch a ≤ 4 * w_LSHatch a := by
  have h := n_LSHatch_eq a
  have h2 : w_LSHatch a = a.length := rfl
  omega
theorem laws_markHatchS_i {n : Nat} (a : List SHatch) (k0 : Int) (hk0 : 0 ≤ k0) (hb : k0 + ((n_LSHatch a : Nat) : Int) ≤ 900000000) (hw : w_LSHatch a ≤ 100000000) (hn : 1000000000 < n) :
    ∃ p : List SHatch, laws_markHatchS n a k0 = some (k0 + ((n_LSHatch a : Nat) : Int), p) ∧ p.length = a.length ∧ ∀ i, i < a.length → Mk_LSHatch n (k0 + ((sumOf (fun y => 4) (a.take i) : Nat) : Int)) (a.getD i dSHatch) (p.getD i dSHatch) := by
  have hw0 : a.length ≤ 100000000 := by have hw : w_LSHatch a = a.length := rfl; omega
  have hnA : n_LSHatch a = sumOf (fun y => 4) a := rfl
  unfold laws_markHatchS
  refine loopN_ind (fun x => a.length - x.2.1.toNat) (fun x => ∃ (k : Nat) (p : List SHatch), k ≤ a.length ∧ x = (k0 + ((sumOf (fun y => 4) (a.take k) : Nat) : Int), (k : Int), p) ∧ p.length = a.length ∧
      (∀ i, i < k → Mk_LSHatch n (k0 + ((sumOf (fun y => 4) (a.take i) : Nat) : Int)) (a.getD i dSHatch) (p.getD i dSHatch)) ∧ ∀ i, k ≤ i → p.getD i dSHatch = a.getD i dSHatch)
    (fun x r => ∃ p : List SHatch, r = some (k0 + ((n_LSHatch a : Nat) : Int), p) ∧ p.length = a.length ∧ ∀ i, i < a.length → Mk_LSHatch n (k0 + ((sumOf (fun y => 4) (a.take i) : Nat) : Int)) (a.getD i dSHatch) (p.getD i dSHatch)) ?_ n _ ⟨0, a, by omega, by simp [sumOf], rfl, by omega, fun _ _ => rfl⟩ (by simp; omega)
  rintro _ J ⟨k, p, hk, rfl, hp, hm, hrest⟩ ih
  by_cases h : k < a.length
  · have h' : k < p.length := by omega
    have s1 := sumOf_take_succ (f := fun y => 4) (d := dSHatch) h
    have s2 := sumOf_take_le (fun y => 4) a (k + 1)
    try simp only at s1
    obtain ⟨kk, hkk⟩ : ∃ kk : Int, kk = k0 + ((sumOf (fun y => 4) (a.take k) : Nat) : Int) := ⟨_, rfl⟩
    have hpk := hrest k (Nat.le_refl _)
    have step : ∀ (K : Int → List SHatch → Option (Int × List SHatch)) (J : Int → Int → List SHatch → Option (Int × List SHatch)), laws_markHatchS_L2 n K J kk (k : Int) p = J (kk + 4) ((k : Int) + 1) (p.set k (⟨(kk), (kk + 1), (kk + 2), (kk + 3)⟩ : SHatch)) := fun K J => by
      unfold laws_markHatchS_L2
      simp (disch := omega) only [laws_markHatchS_k0, Int.ofNat_lt, h', decide_true, cond_true, ix_nat h', List.length_set, chk_of, chk_true, bd_eq, getD_set h', List.set_set, hpk, Int.toNat_natCast, w64_id, Int.add_assoc, Int.reduceAdd, Option.bind_some]
    dsimp only
    rw [← hkk]
    refine (congrArg (fun z => ∃ q : List SHatch, z = some (k0 + ((n_LSHatch a : Nat) : Int), q) ∧ q.length = a.length ∧ ∀ i, i < a.length → Mk_LSHatch n (k0 + ((sumOf (fun y => 4) (a.take i) : Nat) : Int)) (a.getD i dSHatch) (q.getD i dSHatch)) (step _ _)).mpr ?_
    refine ih _ ⟨k + 1, _, h, Prod.ext (by dsimp only; omega) (Prod.ext (by dsimp only; omega) rfl), by simpa using hp, fun i hi => ?_, fun i hi => ?_⟩ (by dsimp only; omega)
    · by_cases e : i = k
      · subst e
        rw [getD_set h', ← hkk]
        unfold Mk_LSHatch
        exact ⟨rfl, rfl, rfl, rfl⟩
      · rw [getD_set_ne e]
        exact hm i (by omega)
    · rw [getD_set_ne (by omega)]
      exact hrest i (by omega)
  · have : k = a.length := by omega
    subst this
    unfold laws_markHatchS_L2
    simp only [hp, Int.lt_irrefl, decide_false, cond_false]
    rw [List.take_length]
    exact ⟨p, rfl, hp, hm⟩
theorem laws_markHatchS_ok {n : Nat} (a : List SHatch) (k0 : Int) (hk0 : 0 ≤ k0) (hb : k0 + ((n_LSHatch a : Nat) : Int) ≤ 900000000) (hw : w_LSHatch a ≤ 100000000) (hn : 1000000000 < n) : ∃ p : List SHatch, laws_markHatchS n a k0 = some (k0 + ((n_LSHatch a : Nat) : Int), p) := by
  obtain ⟨p, h1, h2, h3⟩ := laws_markHatchS_i (n := n) a k0 hk0 hb hw hn
  exact ⟨p, h1⟩
def Mk_LSBox (n : Nat) (k : Int) (a x : SBox) : Prop := laws_markText n (k) = some x.Name ∧ x.Weight = k + 1 ∧ x.Class = k + 2 ∧ x.Cold = decide (Int.tmod (k + 3) 3 = 0) ∧ x.From = k + 4 ∧ x.To = k + 5
def n_LSBox (a : List SBox) : Nat := sumOf (fun y => 6) a
theorem n_LSBox_eq (a : List SBox) : n_LSBox a = 6 * a.length := sumOf_const 6 a
theorem n_LSBox_le (a : List SBox) : n_LSBox a ≤ 6 * w_LSBox a := by
  have h := n_LSBox_eq a
  have h2 : w_LSBox a = a.length + sumOf (fun y : SBox => w_SBox y) a := rfl
  omega
theorem laws_markBoxS_i {n : Nat} (a : List SBox) (k0 : Int) (hk0 : 0 ≤ k0) (hb : k0 + ((n_LSBox a : Nat) : Int) ≤ 900000000) (hw : w_LSBox a ≤ 100000000) (hn : 1000000000 < n) :
    ∃ p : List SBox, laws_markBoxS n a k0 = some (k0 + ((n_LSBox a : Nat) : Int), p) ∧ p.length = a.length ∧ ∀ i, i < a.length → Mk_LSBox n (k0 + ((sumOf (fun y => 6) (a.take i) : Nat) : Int)) (a.getD i dSBox) (p.getD i dSBox) := by
  have hw0 : a.length ≤ 100000000 := by have hw : w_LSBox a = a.length + sumOf (fun y => w_SBox y) a := rfl; omega
  have hnA : n_LSBox a = sumOf (fun y => 6) a := rfl
  unfold laws_markBoxS
  refine loopN_ind (fun x => a.length - x.2.1.toNat) (fun x => ∃ (k : Nat) (p : List SBox), k ≤ a.length ∧ x = (k0 + ((sumOf (fun y => 6) (a.take k) : Nat) : Int), (k : Int), p) ∧ p.length = a.length ∧
      (∀ i, i < k → Mk_LSBox n (k0 + ((sumOf (fun y => 6) (a.take i) : Nat) : Int)) (a.getD i dSBox) (p.getD i dSBox)) ∧ ∀ i, k ≤ i → p.getD i dSBox = a.getD i dSBox)
    (fun x r => ∃ p : List SBox, r = some (k0 + ((n_LSBox a : Nat) : Int), p) ∧ p.length = a.length ∧ ∀ i, i < a.length → Mk_LSBox n (k0 + ((sumOf (fun y => 6) (a.take i) : Nat) : Int)) (a.getD i dSBox) (p.getD i dSBox)) ?_ n _ ⟨0, a, by omega, by simp [sumOf], rfl, by omega, fun _ _ => rfl⟩ (by simp; omega)
  rintro _ J ⟨k, p, hk, rfl, hp, hm, hrest⟩ ih
  by_cases h : k < a.length
  · have h' : k < p.length := by omega
    have s1 := sumOf_take_succ (f := fun y => 6) (d := dSBox) h
    have s2 := sumOf_take_le (fun y => 6) a (k + 1)
    try simp only at s1
    obtain ⟨kk, hkk⟩ : ∃ kk : Int, kk = k0 + ((sumOf (fun y => 6) (a.take k) : Nat) : Int) := ⟨_, rfl⟩
    have hpk := hrest k (Nat.le_refl _)
    have s3 := sumOf_mem (f := fun y => w_SBox y) (d := dSBox) h
    have hwx : w_LSBox a = a.length + sumOf (fun y => w_SBox y) a := rfl
    try simp only at s3
    have hwy : w_SBox (a.getD k dSBox) = ((a.getD k dSBox).Name).size := rfl
    obtain ⟨t0, ht0⟩ := laws_markText_ok (n := n) (kk) (by omega) hn
    have step : ∀ (K : Int → List SBox → Option (Int × List SBox)) (J : Int → Int → List SBox → Option (Int × List SBox)), laws_markBoxS_L2 n K J kk (k : Int) p = J (kk + 6) ((k : Int) + 1) (p.set k (⟨(t0), (kk + 1), (kk + 2), (decide (Int.tmod (kk + 3) 3 = 0)), (kk + 4), (kk + 5)⟩ : SBox)) := fun K J => by
      unfold laws_markBoxS_L2
      simp (disch := omega) only [laws_markBoxS_k0, Int.ofNat_lt, h', decide_true, cond_true, ix_nat h', List.length_set, chk_of, chk_true, bd_eq, getD_set h', List.set_set, hpk, Int.toNat_natCast, w64_id, Int.add_assoc, Int.reduceAdd, Option.bind_some, ht0]
    dsimp only
    rw [← hkk]
    refine (congrArg (fun z => ∃ q : List SBox, z = some (k0 + ((n_LSBox a : Nat) : Int), q) ∧ q.length = a.length ∧ ∀ i, i < a.length → Mk_LSBox n (k0 + ((sumOf (fun y => 6) (a.take i) : Nat) : Int)) (a.getD i dSBox) (q.getD i dSBox)) (step _ _)).mpr ?_
    refine ih _ ⟨k + 1, _, h, Prod.ext (by dsimp only; omega) (Prod.ext (by dsimp only; omega) rfl), by simpa using hp, fun i hi => ?_, fun i hi => ?_⟩ (by dsimp only; omega)
    · by_cases e : i = k
      · subst e
        rw [getD_set h', ← hkk]
        unfold Mk_LSBox
        exact ⟨ht0, rfl, rfl, rfl, rfl, rfl⟩
      · rw [getD_set_ne e]
        exact hm i (by omega)
    · rw [getD_set_ne (by omega)]
      exact hrest i (by omega)
  · have : k = a.length := by omega
    subst this
    unfold laws_markBoxS_L2
    simp only [hp, Int.lt_irrefl, decide_false, cond_false]
    rw [List.take_length]
    exact ⟨p, rfl, hp, hm⟩
theorem laws_markBoxS_ok {n : Nat} (a : List SBox) (k0 : Int) (hk0 : 0 ≤ k0) (hb : k0 + ((n_LSBox a : Nat) : Int) ≤ 900000000) (hw : w_LSBox a ≤ 100000000) (hn : 1000000000 < n) : ∃ p : List SBox, laws_markBoxS n a k0 = some (k0 + ((n_LSBox a : Nat) : Int), p) := by
  obtain ⟨p, h1, h2, h3⟩ := laws_markBoxS_i (n := n) a k0 hk0 hb hw hn
  exact ⟨p, h1⟩
def Mk_LSStow (n : Nat) (k : Int) (a x : SStow) : Prop := laws_markText n (k) = some x.Box.Name ∧ x.Box.Weight = k + 1 ∧ x.Box.Class = k + 2 ∧ x.Box.Cold = decide (Int.tmod (k + 3) 3 = 0) ∧ x.Box.From = k + 4 ∧ x.Box.To = k + 5 ∧ x.Spot.Bay = k + 6 ∧ x.Spot.Row = k + 7 ∧ x.Spot.Tier = k + 8
def n_LSStow (a : List SStow) : Nat := sumOf (fun y => 9) a
theorem n_LSStow_eq (a : List SStow) : n_LSStow a = 9 * a.length := sumOf_const 9 a
theorem n_LSStow_le (a : List SStow) : n_LSStow a ≤ 9 * w_LSStow a := by
  have h := n_LSStow_eq a
  have h2 : w_LSStow a = a.length + sumOf (fun y : SStow => w_SStow y) a := rfl
  omega
theorem laws_markStowS_i {n : Nat} (a : List SStow) (k0 : Int) (hk0 : 0 ≤ k0) (hb : k0 + ((n_LSStow a : Nat) : Int) ≤ 900000000) (hw : w_LSStow a ≤ 100000000) (hn : 1000000000 < n) :
    ∃ p : List SStow, laws_markStowS n a k0 = some (k0 + ((n_LSStow a : Nat) : Int), p) ∧ p.length = a.length ∧ ∀ i, i < a.length → Mk_LSStow n (k0 + ((sumOf (fun y => 9) (a.take i) : Nat) : Int)) (a.getD i dSStow) (p.getD i dSStow) := by
  have hw0 : a.length ≤ 100000000 := by have hw : w_LSStow a = a.length + sumOf (fun y => w_SStow y) a := rfl; omega
  have hnA : n_LSStow a = sumOf (fun y => 9) a := rfl
  unfold laws_markStowS
  refine loopN_ind (fun x => a.length - x.2.1.toNat) (fun x => ∃ (k : Nat) (p : List SStow), k ≤ a.length ∧ x = (k0 + ((sumOf (fun y => 9) (a.take k) : Nat) : Int), (k : Int), p) ∧ p.length = a.length ∧
      (∀ i, i < k → Mk_LSStow n (k0 + ((sumOf (fun y => 9) (a.take i) : Nat) : Int)) (a.getD i dSStow) (p.getD i dSStow)) ∧ ∀ i, k ≤ i → p.getD i dSStow = a.getD i dSStow)
    (fun x r => ∃ p : List SStow, r = some (k0 + ((n_LSStow a : Nat) : Int), p) ∧ p.length = a.length ∧ ∀ i, i < a.length → Mk_LSStow n (k0 + ((sumOf (fun y => 9) (a.take i) : Nat) : Int)) (a.getD i dSStow) (p.getD i dSStow)) ?_ n _ ⟨0, a, by omega, by simp [sumOf], rfl, by omega, fun _ _ => rfl⟩ (by simp; omega)
  rintro _ J ⟨k, p, hk, rfl, hp, hm, hrest⟩ ih
  by_cases h : k < a.length
  · have h' : k < p.length := by omega
    have s1 := sumOf_take_succ (f := fun y => 9) (d := dSStow) h
    have s2 := sumOf_take_le (fun y => 9) a (k + 1)
    try simp only at s1
    obtain ⟨kk, hkk⟩ : ∃ kk : Int, kk = k0 + ((sumOf (fun y => 9) (a.take k) : Nat) : Int) := ⟨_, rfl⟩
    have hpk := hrest k (Nat.le_refl _)
    have s3 := sumOf_mem (f := fun y => w_SStow y) (d := dSStow) h
    have hwx : w_LSStow a = a.length + sumOf (fun y => w_SStow y) a := rfl
    try simp only at s3
    have hwy : w_SStow (a.getD k dSStow) = w_SBox ((a.getD k dSStow).Box) := rfl
    have huagetDkdSStowBox : w_SBox ((a.getD k dSStow).Box) = ((a.getD k dSStow).Box.Name).size := rfl
    obtain ⟨t0, ht0⟩ := laws_markText_ok (n := n) (kk) (by omega) hn
    have step : ∀ (K : Int → List SStow → Option (Int × List SStow)) (J : Int → Int → List SStow → Option (Int × List SStow)), laws_markStowS_L2 n K J kk (k : Int) p = J (kk + 9) ((k : Int) + 1) (p.set k (⟨(⟨(t0), (kk + 1), (kk + 2), (decide (Int.tmod (kk + 3) 3 = 0)), (kk + 4), (kk + 5)⟩ : SBox), (⟨(kk + 6), (kk + 7), (kk + 8)⟩ : SSpot)⟩ : SStow)) := fun K J => by
      unfold laws_markStowS_L2
      simp (disch := omega) only [laws_markStowS_k0, Int.ofNat_lt, h', decide_true, cond_true, ix_nat h', List.length_set, chk_of, chk_true, bd_eq, getD_set h', List.set_set, hpk, Int.toNat_natCast, w64_id, Int.add_assoc, Int.reduceAdd, Option.bind_some, ht0]
    dsimp only
    rw [← hkk]
    refine (congrArg (fun z => ∃ q : List SStow, z = some (k0 + ((n_LSStow a : Nat) : Int), q) ∧ q.length = a.length ∧ ∀ i, i < a.length → Mk_LSStow n (k0 + ((sumOf (fun y => 9) (a.take i) : Nat) : Int)) (a.getD i dSStow) (q.getD i dSStow)) (step _ _)).mpr ?_
    refine ih _ ⟨k + 1, _, h, Prod.ext (by dsimp only; omega) (Prod.ext (by dsimp only; omega) rfl), by simpa using hp, fun i hi => ?_, fun i hi => ?_⟩ (by dsimp only; omega)
    · by_cases e : i = k
      · subst e
        rw [getD_set h', ← hkk]
        unfold Mk_LSStow
        exact ⟨ht0, rfl, rfl, rfl, rfl, rfl, rfl, rfl, rfl⟩
      · rw [getD_set_ne e]
        exact hm i (by omega)
    · rw [getD_set_ne (by omega)]
      exact hrest i (by omega)
  · have : k = a.length := by omega
    subst this
    unfold laws_markStowS_L2
    simp only [hp, Int.lt_irrefl, decide_false, cond_false]
    rw [List.take_length]
    exact ⟨p, rfl, hp, hm⟩
theorem laws_heldStowS_i {n : Nat} (a p : List SStow) (hp : p.length = a.length) (k0 : Int) (hk0 : 0 ≤ k0) (hb : k0 + ((n_LSStow a : Nat) : Int) ≤ 900000000) (hw : w_LSStow a ≤ 100000000) (hn : 1000000000 < n)
    (hm : ∀ i, i < a.length → Mk_LSStow n (k0 + ((sumOf (fun y => 9) (a.take i) : Nat) : Int)) (a.getD i dSStow) (p.getD i dSStow)) : laws_heldStowS n p k0 = some (k0 + ((n_LSStow a : Nat) : Int)) := by
  have hw0 : a.length ≤ 100000000 := by have hw : w_LSStow a = a.length + sumOf (fun y => w_SStow y) a := rfl; omega
  have hnA : n_LSStow a = sumOf (fun y => 9) a := rfl
  unfold laws_heldStowS
  refine loopN_ind (fun x => a.length - x.2.toNat) (fun x => ∃ (k : Nat), k ≤ a.length ∧ x = (k0 + ((sumOf (fun y => 9) (a.take k) : Nat) : Int), (k : Int)))
    (fun x r => r = some (k0 + ((n_LSStow a : Nat) : Int))) ?_ n _ ⟨0, by omega, by simp [sumOf]⟩ (by simp; omega)
  rintro _ J ⟨k, hk, rfl⟩ ih
  by_cases h : k < a.length
  · have h' : k < p.length := by omega
    have s1 := sumOf_take_succ (f := fun y => 9) (d := dSStow) h
    have s2 := sumOf_take_le (fun y => 9) a (k + 1)
    try simp only at s1
    have hmk := hm k h
    unfold Mk_LSStow at hmk
    obtain ⟨kk, hkk⟩ : ∃ kk : Int, kk = k0 + ((sumOf (fun y => 9) (a.take k) : Nat) : Int) := ⟨_, rfl⟩
    rw [← hkk] at hmk
    try simp (disch := omega) only [Int.add_assoc, Int.reduceAdd] at hmk
    obtain ⟨e0, e1, e2, e3, e4, e5, e6, e7, e8⟩ := hmk
    have step : ∀ (K K2 : Int → Option Int) (J : Int → Int → Option Int), laws_heldStowS_L2 n K K2 J p kk (k : Int) = J (kk + 9) ((k : Int) + 1) := fun K K2 J => by
      unfold laws_heldStowS_L2
      simp (disch := omega) only [laws_heldStowS_k3, laws_heldStowS_k2, laws_heldStowS_k1, laws_heldStowS_k0, Int.ofNat_lt, h', decide_true, cond_true, ix_nat h', bd_eq, Int.toNat_natCast, w64_id, Int.add_assoc, Int.reduceAdd, Option.bind_some, Bool.not_true, cond_false, beq_self_eq_true, decide_eq_false_iff_not, Int.not_lt, bif_dec, if_neg, e0, e1, e2, e3, e4, e5, e6, e7, e8]
    dsimp only
    rw [← hkk]
    refine (step _ _ _).trans ?_
    exact ih (_, _) ⟨k + 1, h, Prod.ext (by dsimp only; omega) (by dsimp only; omega)⟩ (by dsimp only; omega)
  · have : k = a.length := by omega
    subst this
    unfold laws_heldStowS_L2
    simp only [hp, Int.lt_irrefl, decide_false, cond_false]
    rw [List.take_length]
    rfl
theorem laws_markStowS_ok {n : Nat} (a : List SStow) (k0 : Int) (hk0 : 0 ≤ k0) (hb : k0 + ((n_LSStow a : Nat) : Int) ≤ 900000000) (hw : w_LSStow a ≤ 100000000) (hn : 1000000000 < n) : ∃ p : List SStow, laws_markStowS n a k0 = some (k0 + ((n_LSStow a : Nat) : Int), p) ∧ laws_heldStowS n p k0 = some (k0 + ((n_LSStow a : Nat) : Int)) := by
  obtain ⟨p, h1, h2, h3⟩ := laws_markStowS_i (n := n) a k0 hk0 hb hw hn
  exact ⟨p, h1, laws_heldStowS_i a p h2 k0 hk0 hb hw hn h3⟩
end Go.Sm
end

section
set_option linter.unusedVariables false
set_option linter.unusedSimpArgs false
namespace Go.Sm
attribute [local irreducible] bd chk ix loopN
theorem wu8_id {x : Int} (h1 : 0 ≤ x) (h2 : x ≤ 255) : wu8 x = x := by
  show (let m := x % (2 ^ 8 : Int); if (false && decide ((2 : Int) ^ 7 ≤ m)) = true then m - 2 ^ 8 else m) = x
  simp only [Bool.false_and, Bool.false_eq_true, if_false]
  omega
theorem in_specB (n : Nat) (x a b : Int) : spec_l1In n x a b = some (decide (a ≤ x ∧ x ≤ b)) := by
  unfold spec_l1In
  by_cases h0 : a ≤ x <;> by_cases h1 : x ≤ b <;> simp [h0, h1]
theorem in_implB (n : Nat) (x a b : Int) : impl_in n x a b = some (decide (a ≤ x ∧ x ≤ b)) := by
  unfold impl_in
  by_cases h0 : a ≤ x <;> by_cases h1 : x ≤ b <;> simp [h0, h1]
/-! ### What a letter counts -/
def letU : Nat → Int
  | 0 => 10
  | k + 1 => if Int.tmod (letU k + 1) 11 = 0 then letU k + 2 else letU k + 1
theorem letU_rng : ∀ k, 0 ≤ letU k ∧ letU k ≤ 10 + 2 * (k : Int)
  | 0 => ⟨by decide, by decide⟩
  | k + 1 => by
    have := letU_rng k
    unfold letU
    split <;> omega
theorem letter_spec {n : Nat} (K : Nat) (hK : K ≤ 1000) (hn : 1000000000 < n) : spec_l11Letter n (K : Int) = some (letU K) := by
  unfold spec_l11Letter
  refine loopN_ind (fun x => x.1.toNat) (fun x => ∃ j : Nat, x.1 = (j : Int) ∧ j ≤ K ∧ x.2 = letU (K - j)) (fun x r => r = some (letU K)) ?_ n _ ⟨K, rfl, Nat.le_refl _, by simp; rfl⟩ (by simp; omega)
  rintro ⟨_, _⟩ J ⟨j, rfl, hj, rfl⟩ ih
  show spec_l11Letter_L2 n _ _ (j : Int) (letU (K - j)) = _
  unfold spec_l11Letter_L2
  cases j with
  | zero => rw [decide_eq_false (by omega), cond_false]; rfl
  | succ j =>
    have hb := letU_rng (K - (j + 1))
    have e : letU (K - j) = if Int.tmod (letU (K - (j + 1)) + 1) 11 = 0 then letU (K - (j + 1)) + 2 else letU (K - (j + 1)) + 1 := by
      rw [show K - j = (K - (j + 1)) + 1 from by omega]; rfl
    rw [decide_eq_true (by omega), cond_true]
    simp only [bd_eq]
    rw [w64_id (x := letU (K - (j + 1)) + 1) (by omega) (by omega), show w64 (((j + 1 : Nat) : Int) - 1) = (j : Int) from by rw [w64_id (by omega) (by omega)]; omega, w64_id (x := letU (K - (j + 1)) + 1 + 1) (by omega) (by omega), bif_dec]
    split
    · rename_i h0
      rw [if_pos h0] at e
      exact ih _ ⟨j, rfl, by omega, by rw [e]; dsimp only; omega⟩ (by simp)
    · rename_i h0
      rw [if_neg h0] at e
      exact ih _ ⟨j, rfl, by omega, by rw [e]⟩ (by simp)
theorem value_impl {n : Nat} {c : Int} (hc : 65 ≤ c ∧ c ≤ 255) (hn : 1000000000 < n) : impl_valueOf n c = some (letU (c - 65).toNat) := by
  unfold impl_valueOf
  refine loopN_ind (fun x => (c - x.2).toNat) (fun x => ∃ j : Nat, x.2 = 65 + (j : Int) ∧ 65 + (j : Int) ≤ c ∧ x.1 = letU j) (fun x r => r = some (letU (c - 65).toNat)) ?_ n _ ⟨0, rfl, by omega, rfl⟩ (by dsimp only; omega)
  rintro ⟨_, _⟩ J ⟨j, rfl, hj, rfl⟩ ih
  show impl_valueOf_L3 n _ _ c (letU j) (65 + (j : Int)) = _
  unfold impl_valueOf_L3
  have hb := letU_rng j
  by_cases h : 65 + (j : Int) < c
  · have e : letU (j + 1) = if Int.tmod (letU j + 1) 11 = 0 then letU j + 2 else letU j + 1 := rfl
    have hu : wu8 (65 + (j : Int) + 1) = 65 + ((j + 1 : Nat) : Int) := by
      rw [wu8_id (by omega) (by omega)]; omega
    rw [decide_eq_true h, cond_true]
    simp only [bd_eq]
    rw [w64_id (x := letU j + 1) (by omega) (by omega), w64_id (x := letU j + 1 + 1) (by omega) (by omega), bif_dec, hu]
    split
    · rename_i h0
      rw [if_pos h0] at e
      exact ih _ ⟨j + 1, rfl, by omega, by rw [e]; dsimp only; omega⟩ (by dsimp only; omega)
    · rename_i h0
      rw [if_neg h0] at e
      exact ih _ ⟨j + 1, rfl, by omega, by rw [e]⟩ (by dsimp only; omega)
  · rw [decide_eq_false h, cond_false]
    rw [show (c - 65).toNat = j from by omega]
/-! ### The check digit -/
def chV (s : ByteArray) (i : Nat) : Option Int :=
  if i < 4 then (if 65 ≤ byteAt s i ∧ byteAt s i ≤ 90 then some (letU (byteAt s i - 65).toNat) else none)
  else if 48 ≤ byteAt s i ∧ byteAt s i ≤ 57 then some (byteAt s i - 48) else none
def cdStep (a v : Int) (i : Nat) : Int := w64 (a + w64 (v * 2 ^ (min i 64)))
def cdU (s : ByteArray) : Nat → Option Int
  | 0 => some 0
  | i + 1 => match cdU s i, chV s i with
    | some a, some v => some (cdStep a v i)
    | _, _ => none
def cdR (s : ByteArray) : Int := if (s.size : Int) = 10 then (match cdU s 10 with
  | some a => Int.tmod (Int.tmod a 11) 10
  | none => -1) else -1
theorem cdR_rng (s : ByteArray) : -9 ≤ cdR s ∧ cdR s ≤ 9 := by
  have key : ∀ a : Int, -9 ≤ Int.tmod a 10 ∧ Int.tmod a 10 ≤ 9 := fun a => by
    have h1 := Int.tmod_lt_of_pos a (show (0 : Int) < 10 by omega)
    have h2 := Int.tmod_lt_of_pos (-a) (show (0 : Int) < 10 by omega)
    rw [Int.neg_tmod] at h2
    omega
  unfold cdR
  split
  · split
    · exact key _
    · omega
  · omega
theorem cdU_none {s : ByteArray} {i : Nat} (h : cdU s i = none) : ∀ j, cdU s (i + j) = none
  | 0 => h
  | j + 1 => by
    show (match cdU s (i + j), chV s (i + j) with | some a, some v => some (cdStep a v (i + j)) | _, _ => none) = none
    rw [cdU_none h j]
theorem cdR_stop {s : ByteArray} (hs : (s.size : Int) = 10) {i : Nat} (hi : i < 10) (h : chV s i = none) : cdR s = -1 := by
  have h1 : cdU s (i + 1) = none := by
    show (match cdU s i, chV s i with | some a, some v => some (cdStep a v i) | _, _ => none) = none
    rw [h]
    split
    · rename_i h2; cases h2
    · rfl
  have h2 := cdU_none h1 (10 - (i + 1))
  rw [show i + 1 + (10 - (i + 1)) = 10 from by omega] at h2
  unfold cdR
  rw [if_pos hs, h2]
theorem cdU_succ {s : ByteArray} {i : Nat} {a v : Int} (h : cdU s i = some a) (hv : chV s i = some v) : cdU s (i + 1) = some (cdStep a v i) := by
  show (match cdU s i, chV s i with | some a, some v => some (cdStep a v i) | _, _ => none) = _
  rw [h, hv]
theorem check_spec {n : Nat} (s : ByteArray) (hn : 1000000000 < n) : spec_CheckDigit n s = some (cdR s) := by
  unfold spec_CheckDigit
  by_cases hs : (s.size : Int) = 10
  · rw [decide_eq_true hs, Bool.not_true, cond_false]
    unfold spec_CheckDigit_k3
    refine loopN_ind (fun x => 10 - x.2.toNat) (fun x => ∃ i : Nat, x.2 = (i : Int) ∧ i ≤ 10 ∧ cdU s i = some x.1) (fun x r => r = some (cdR s)) ?_ n _ ⟨0, rfl, by omega, rfl⟩ (by simp; omega)
    rintro ⟨a, _⟩ J ⟨i, rfl, hi, ha⟩ ih
    dsimp only at ha
    show spec_CheckDigit_L5 n _ _ _ s a (i : Int) = _
    unfold spec_CheckDigit_L5
    by_cases h : i < 10
    · rw [decide_eq_true (by omega), cond_true]
      unfold spec_CheckDigit_k2
      have hb := byteAt_rng s i
      have hw : w64 (byteAt s i) = byteAt s i := w64_id (by omega) (by omega)
      have go : ∀ v, chV s i = some v → J (w64 (a + w64 (v * 2 ^ (min i 64))), ((i + 1 : Nat) : Int)) = some (cdR s) := fun v hv => ih _ ⟨i + 1, rfl, by omega, cdU_succ ha hv⟩ (by simp; omega)
      have stop : chV s i = none → some (-1) = some (cdR s) := fun hv => by rw [cdR_stop hs h hv]
      have digit : ¬ i < 4 → spec_CheckDigit_k1 n (fun sum58 => (bd (Int.tmod sum58 (11 : Int)) fun (v59 : Int) => (bd (Int.tmod v59 (10 : Int)) fun (v60 : Int) => some (v60)))) (fun t61 => some (t61)) (fun sum62 i63 => J (sum62, i63)) s a (i : Int) (byteAt s i) = some (cdR s) := fun h4 => by
        unfold spec_CheckDigit_k1
        rw [decide_eq_true (by omega), cond_true, in_specB, Option.bind_some]
        have e : chV s i = if 48 ≤ byteAt s i ∧ byteAt s i ≤ 57 then some (byteAt s i - 48) else none := by unfold chV; rw [if_neg h4]
        by_cases hd : 48 ≤ byteAt s i ∧ byteAt s i ≤ 57
        · rw [if_pos hd] at e
          rw [decide_eq_true hd, cond_true, chk_dec (by omega), bd_eq, w64_succ (show i < 9223372036854775807 by omega), Int.toNat_natCast, w64_id (x := byteAt s i - 48) (by omega) (by omega)]
          exact go _ e
        · rw [if_neg hd] at e
          rw [decide_eq_false hd, cond_false]
          exact stop e
      rw [ix_of (by omega) (by omega), Int.toNat_natCast, hw]
      by_cases h4 : i < 4
      · have e : chV s i = if 65 ≤ byteAt s i ∧ byteAt s i ≤ 90 then some (letU (byteAt s i - 65).toNat) else none := by unfold chV; rw [if_pos h4]
        rw [decide_eq_true (by omega), cond_true, in_specB, Option.bind_some]
        unfold spec_CheckDigit_k0
        by_cases hd : 65 ≤ byteAt s i ∧ byteAt s i ≤ 90
        · rw [if_pos hd] at e
          obtain ⟨m, hm⟩ : ∃ m : Nat, byteAt s i - 65 = (m : Int) := ⟨(byteAt s i - 65).toNat, by omega⟩
          rw [decide_eq_true hd, cond_true, w64_id (x := byteAt s i - 65) (by omega) (by omega), hm, letter_spec m (by omega) hn, Option.bind_some, chk_dec (by omega), bd_eq, w64_succ (show i < 9223372036854775807 by omega), Int.toNat_natCast]
          rw [hm, Int.toNat_natCast] at e
          exact go _ e
        · rw [if_neg hd] at e
          rw [decide_eq_false hd, cond_false, decide_eq_false (show ¬ (i : Int) ≥ 4 by omega), cond_false]
          exact stop e
      · rw [decide_eq_false (by omega), cond_false]
        exact digit h4
    · have : i = 10 := by omega
      subst this
      rw [decide_eq_false (by omega), cond_false]
      simp only [bd_eq]
      unfold cdR
      rw [if_pos hs, ha]
  · rw [decide_eq_false hs, Bool.not_false, cond_true]
    unfold cdR
    rw [if_neg hs]
theorem check_impl {n : Nat} (s : ByteArray) (hn : 1000000000 < n) : impl_CheckDigit n s = some (cdR s) := by
  unfold impl_CheckDigit
  by_cases hs : (s.size : Int) = 10
  · rw [decide_eq_true hs, Bool.not_true, cond_false]
    unfold impl_CheckDigit_k3
    refine loopN_ind (fun x => 10 - x.2.toNat) (fun x => ∃ i : Nat, x.2 = (i : Int) ∧ i ≤ 10 ∧ cdU s i = some x.1) (fun x r => r = some (cdR s)) ?_ n _ ⟨0, rfl, by omega, rfl⟩ (by simp; omega)
    rintro ⟨a, _⟩ J ⟨i, rfl, hi, ha⟩ ih
    dsimp only at ha
    show impl_CheckDigit_L5 n _ _ _ s a (i : Int) = _
    unfold impl_CheckDigit_L5
    by_cases h : i < 10
    · rw [decide_eq_true (by omega), cond_true]
      unfold impl_CheckDigit_k2
      have hb := byteAt_rng s i
      have go : ∀ v, chV s i = some v → J (w64 (a + w64 (v * 2 ^ (min i 64))), ((i + 1 : Nat) : Int)) = some (cdR s) := fun v hv => ih _ ⟨i + 1, rfl, by omega, cdU_succ ha hv⟩ (by simp; omega)
      have stop : chV s i = none → some (-1) = some (cdR s) := fun hv => by rw [cdR_stop hs h hv]
      have digit : (¬ i < 4 ∨ chV s i = none) → impl_CheckDigit_k1 n (fun sum77 => (bd (Int.tmod sum77 (11 : Int)) fun (v78 : Int) => (bd (Int.tmod v78 (10 : Int)) fun (v79 : Int) => some (v79)))) (fun t80 => some (t80)) (fun sum81 t82 => J (sum81, t82)) s a (i : Int) (byteAt s i) (i : Int) = some (cdR s) := fun h4 => by
        unfold impl_CheckDigit_k1
        by_cases h5 : i < 4
        · rw [decide_eq_false (by omega), cond_false]
          exact stop (h4.resolve_left (fun x => x h5))
        · rw [decide_eq_true (by omega), cond_true]
          have e : chV s i = if 48 ≤ byteAt s i ∧ byteAt s i ≤ 57 then some (byteAt s i - 48) else none := by unfold chV; rw [if_neg h5]
          by_cases hd : 48 ≤ byteAt s i ∧ byteAt s i ≤ 57
          · rw [if_pos hd] at e
            rw [decide_eq_true (show byteAt s i ≥ 48 from hd.1), cond_true, decide_eq_true hd.2, cond_true, chk_dec (by omega), bd_eq, w64_succ (show i < 9223372036854775807 by omega), Int.toNat_natCast, wu8_id (x := byteAt s i - 48) (by omega) (by omega), w64_id (x := byteAt s i - 48) (by omega) (by omega)]
            exact go _ e
          · rw [if_neg hd] at e
            by_cases h6 : byteAt s i ≥ 48
            · rw [decide_eq_true h6, cond_true, decide_eq_false (show ¬ byteAt s i ≤ 57 by omega), cond_false]
              exact stop e
            · rw [decide_eq_false h6, cond_false]
              exact stop e
      rw [ix_of (by omega) (by omega), Int.toNat_natCast]
      by_cases h4 : i < 4
      · have e : chV s i = if 65 ≤ byteAt s i ∧ byteAt s i ≤ 90 then some (letU (byteAt s i - 65).toNat) else none := by unfold chV; rw [if_pos h4]
        rw [decide_eq_true (by omega), cond_true]
        by_cases hd : 65 ≤ byteAt s i ∧ byteAt s i ≤ 90
        · rw [if_pos hd] at e
          unfold impl_CheckDigit_k0
          rw [decide_eq_true (show byteAt s i ≥ 65 from hd.1), cond_true, decide_eq_true hd.2, cond_true, value_impl ⟨hd.1, hb.2⟩ hn, Option.bind_some, chk_dec (by omega), bd_eq, w64_succ (show i < 9223372036854775807 by omega), Int.toNat_natCast]
          exact go _ e
        · rw [if_neg hd] at e
          by_cases h6 : byteAt s i ≥ 65
          · unfold impl_CheckDigit_k0
            rw [decide_eq_true h6, cond_true, decide_eq_false (show ¬ byteAt s i ≤ 90 by omega), cond_false, decide_eq_false (show ¬ (i : Int) ≥ 4 by omega), cond_false]
            exact stop e
          · rw [decide_eq_false h6, cond_false]
            exact digit (.inr e)
      · rw [decide_eq_false (by omega), cond_false]
        exact digit (.inl h4)
    · have : i = 10 := by omega
      subst this
      rw [decide_eq_false (by omega), cond_false]
      simp only [bd_eq]
      unfold cdR
      rw [if_pos hs, ha]
  · rw [decide_eq_false hs, Bool.not_false, cond_true]
    unfold cdR
    rw [if_neg hs]
/-! ### Boxes -/
def nameB (s : ByteArray) : Bool := decide ((s.size : Int) = 11) && (decide (cdR (s.extract 0 10) ≥ 0) && decide (byteAt s 10 = 48 + cdR (s.extract 0 10)))
theorem nameB_spec {n : Nat} (s : ByteArray) (hn : 1000000000 < n) : spec_BoxName n s = some (nameB s) := by
  unfold spec_BoxName nameB
  by_cases h : (s.size : Int) = 11
  · have hr := cdR_rng (s.extract 0 10)
    have hb := byteAt_rng s 10
    rw [decide_eq_true h, Bool.not_true, cond_false, chk_dec (by omega), check_spec _ hn, Option.bind_some, ix_of (by omega) (by omega), w64_id (x := byteAt s 10) (by omega) (by omega), w64_id (x := 48 + cdR (s.extract 0 10)) (by omega) (by omega)]
    cases decide (cdR (s.extract 0 10) ≥ 0) <;> rfl
  · rw [decide_eq_false h]; rfl
theorem nameB_impl {n : Nat} (s : ByteArray) (hn : 1000000000 < n) : impl_BoxName n s = some (nameB s) := by
  unfold impl_BoxName nameB
  by_cases h : (s.size : Int) = 11
  · have hr := cdR_rng (s.extract 0 10)
    have hb := byteAt_rng s 10
    rw [decide_eq_true h, Bool.not_true, cond_false, chk_dec (by omega), check_impl _ hn, Option.bind_some, ix_of (by omega) (by omega), w64_id (x := 48 + cdR (s.extract 0 10)) (by omega) (by omega)]
    by_cases h0 : cdR (s.extract 0 10) ≥ 0
    · rw [decide_eq_true h0, cond_true, wu8_id (by omega) (by omega)]; rfl
    · rw [decide_eq_false h0]; rfl
  · rw [decide_eq_false h]; rfl
def boxB (b : SBox) : Bool := nameB b.Name && (decide (1 ≤ b.Weight ∧ b.Weight ≤ 40000) && (decide (0 ≤ b.Class ∧ b.Class ≤ 9) && (decide (0 ≤ b.From ∧ b.From ≤ 19) && decide (b.From < b.To ∧ b.To ≤ 19))))
theorem boxB_spec {n : Nat} (b : SBox) (hn : 1000000000 < n) : spec_BoxOk n b = some (boxB b) := by
  unfold spec_BoxOk boxB
  rw [nameB_spec _ hn]
  simp only [in_specB, Option.bind_some, bd_eq]
  cases nameB b.Name with
  | false => rfl
  | true =>
    cases decide (1 ≤ b.Weight ∧ b.Weight ≤ 40000) with
    | false => rfl
    | true =>
      cases decide (0 ≤ b.Class ∧ b.Class ≤ 9) with
      | false => rfl
      | true =>
        by_cases h : 0 ≤ b.From ∧ b.From ≤ 19
        · rw [decide_eq_true h, w64_id (by omega) (by omega)]
          simp only [cond_true, Bool.true_and, Option.some.injEq, decide_eq_decide]
          omega
        · rw [decide_eq_false h]; rfl
theorem boxB_impl {n : Nat} (b : SBox) (hn : 1000000000 < n) : impl_BoxOk n b = some (boxB b) := by
  unfold impl_BoxOk boxB impl_portOk
  rw [nameB_impl _ hn]
  simp only [in_implB, Option.bind_some]
  cases nameB b.Name with
  | false => rfl
  | true =>
    cases decide (1 ≤ b.Weight ∧ b.Weight ≤ 40000) with
    | false => rfl
    | true =>
      cases decide (0 ≤ b.Class ∧ b.Class ≤ 9) with
      | false => rfl
      | true =>
        by_cases h : 0 ≤ b.From ∧ b.From ≤ 19
        · rw [decide_eq_true h]
          by_cases h2 : 0 ≤ b.To ∧ b.To ≤ 19
          · rw [decide_eq_true h2]
            simp only [cond_true, Bool.true_and, Option.some.injEq, decide_eq_decide]
            omega
          · rw [decide_eq_false h2]
            simp only [cond_true, cond_false, Bool.true_and, Option.some.injEq]
            exact (decide_eq_false (by omega)).symm
        · rw [decide_eq_false h]; rfl
abbrev bx (l : List SBox) (i : Nat) : SBox := l.getD i dSBox
def wU (l : List SBox) : Nat → Int
  | 0 => 0
  | k + 1 => w64 (wU l k + (bx l k).Weight)
def okAt (l : List SBox) (i : Nat) : Bool := boxB (bx l i) && ((bif decide ((i : Int) > 0) then !decide ((bx l i).Weight > (bx l (i - 1)).Weight) else true) && (bif (bx l i).Cold then !decide ((i : Int) > 1) else true))
def stackB (l : List SBox) (most : Int) : Bool := decide ((l.length : Int) ≤ 20) && ((List.range l.length).all (okAt l) && (decide (0 ≤ most ∧ most ≤ 1000000) && decide (wU l l.length ≤ most)))
theorem stack_step {α : Type} {l : List SBox} {k : Nat} (hk : k < l.length) (hl : l.length ≤ 1000) {no : Option α} {J : Int → Int → Option α} (s : Int) :
    (bif !boxB (bx l k) then no else (bif decide ((k : Int) > 0) then ix (w64 ((k : Int) - 1)) l.length (bif decide ((bx l k).Weight > (l.getD (w64 ((k : Int) - 1)).toNat dSBox).Weight) then no else (bif (bx l k).Cold then (bif decide ((k : Int) > 1) then no else J (w64 (s + (bx l k).Weight)) (w64 ((k : Int) + 1))) else J (w64 (s + (bx l k).Weight)) (w64 ((k : Int) + 1)))) else (bif (bx l k).Cold then (bif decide ((k : Int) > 1) then no else J (w64 (s + (bx l k).Weight)) (w64 ((k : Int) + 1))) else J (w64 (s + (bx l k).Weight)) (w64 ((k : Int) + 1))))) =
    bif okAt l k then J (w64 (s + (bx l k).Weight)) ((k + 1 : Nat) : Int) else no := by
  unfold okAt
  rw [w64_succ (show k < 9223372036854775807 by omega)]
  cases boxB (bx l k) with
  | false => rfl
  | true =>
    cases k with
    | zero => cases (bx l 0).Cold <;> rfl
    | succ k =>
      have e1 : w64 (((k + 1 : Nat) : Int) - 1) = (k : Int) := by rw [w64_id (by omega) (by omega)]; omega
      rw [e1, ix_nat (show k < l.length by omega), Int.toNat_natCast, decide_eq_true (show ((k + 1 : Nat) : Int) > 0 by omega)]
      simp only [Bool.not_true, cond_false, cond_true, Nat.add_sub_cancel, Bool.true_and]
      cases decide ((bx l (k + 1)).Weight > (bx l k).Weight) <;> cases (bx l (k + 1)).Cold <;> cases decide (((k + 1 : Nat) : Int) > 1) <;> rfl
theorem stack_impl {n : Nat} (l : List SBox) (most : Int) (hl : l.length ≤ 1000) (hn : 1000000000 < n) : impl_StackOk n l most = some (stackB l most) := by
  unfold impl_StackOk stackB
  by_cases h20 : (l.length : Int) ≤ 20
  · rw [decide_eq_false (show ¬ (l.length : Int) > 20 by omega), cond_false, decide_eq_true h20, Bool.true_and, in_implB, Option.bind_some]
    cases hm : decide (0 ≤ most ∧ most ≤ 1000000) with
    | false => cases (List.range l.length).all (okAt l) <;> rfl
    | true =>
      rw [Bool.not_true, cond_false, Bool.true_and]
      refine loopN_ind (fun x : Int × Int => l.length - x.2.toNat) (fun x => ∃ k : Nat, x.2 = (k : Int) ∧ k ≤ l.length ∧ x.1 = wU l k ∧ ∀ i, i < k → okAt l i = true) (fun x r => r = some ((List.range l.length).all (okAt l) && decide (wU l l.length ≤ most))) ?_ n _ ⟨0, rfl, by omega, rfl, fun i hi => absurd hi (Nat.not_lt_zero _)⟩ (by simp; omega)
      rintro ⟨_, _⟩ J ⟨k, rfl, hk, rfl, hg⟩ ih
      show impl_StackOk_L5 n _ _ _ l most (wU l k) l (l.length : Int) (k : Int) = _
      unfold impl_StackOk_L5
      by_cases h : k < l.length
      · rw [decide_eq_true (by omega), cond_true]
        unfold impl_StackOk_k0
        rw [ix_nat h, bd_eq, Int.toNat_natCast, boxB_impl _ hn, Option.bind_some]
        simp only [bd_eq]
        refine (stack_step (J := fun a b => J (a, b)) h hl (wU l k)).trans ?_
        cases ho : okAt l k with
        | true => exact ih _ ⟨k + 1, rfl, h, rfl, fun i hi => by
            by_cases e : i = k
            · rw [e]; exact ho
            · exact hg i (by omega)⟩ (by simp; omega)
        | false =>
          rw [all_range_not h ho]
          rfl
      · have : k = l.length := by omega
        subst this
        rw [decide_eq_false (by omega), cond_false, show (List.range l.length).all (okAt l) = true from by rw [List.all_eq_true]; exact fun i hi => hg i (List.mem_range.1 hi)]
        rfl
  · rw [decide_eq_true (show (l.length : Int) > 20 by omega), cond_true, decide_eq_false h20]
    rfl
theorem stack_spec {n : Nat} (l : List SBox) (most : Int) (hl : l.length ≤ 1000) (hn : 1000000000 < n) : spec_StackOk n l most = some (stackB l most) := by
  unfold spec_StackOk
  by_cases h20 : (l.length : Int) ≤ 20
  · unfold stackB
    rw [decide_eq_true h20, Bool.true_and]
    refine loopN_ind (fun x : Int × Int => l.length - x.2.toNat) (fun x => ∃ k : Nat, x.2 = (k : Int) ∧ k ≤ l.length ∧ x.1 = wU l k ∧ ∀ i, i < k → okAt l i = true) (fun x r => r = some ((List.range l.length).all (okAt l) && (decide (0 ≤ most ∧ most ≤ 1000000) && decide (wU l l.length ≤ most)))) ?_ n _ ⟨0, rfl, by omega, rfl, fun i hi => absurd hi (Nat.not_lt_zero _)⟩ (by simp; omega)
    rintro ⟨_, _⟩ J ⟨k, rfl, hk, rfl, hg⟩ ih
    show spec_StackOk_L3 n _ _ _ l most (wU l k) (k : Int) = _
    unfold spec_StackOk_L3
    by_cases h : k < l.length
    · rw [decide_eq_true (by omega), cond_true]
      unfold spec_StackOk_k0
      rw [ix_nat h, bd_eq, Int.toNat_natCast, decide_eq_false (show ¬ (l.length : Int) > 20 by omega), cond_false, boxB_spec _ hn, Option.bind_some]
      simp only [bd_eq]
      refine (stack_step (J := fun a b => J (a, b)) h hl (wU l k)).trans ?_
      cases ho : okAt l k with
      | true => exact ih _ ⟨k + 1, rfl, h, rfl, fun i hi => by
          by_cases e : i = k
          · rw [e]; exact ho
          · exact hg i (by omega)⟩ (by simp; omega)
      | false =>
        rw [all_range_not h ho]
        rfl
    · have : k = l.length := by omega
      subst this
      rw [decide_eq_false (by omega), cond_false, show (List.range l.length).all (okAt l) = true from by rw [List.all_eq_true]; exact fun i hi => hg i (List.mem_range.1 hi), in_specB]
      dsimp only
      rw [Option.bind_some, Bool.true_and]
      cases decide (0 ≤ most ∧ most ≤ 1000000) <;> rfl
  · obtain ⟨m, rfl⟩ : ∃ m, n = m + 1 := ⟨n - 1, by omega⟩
    rw [loopN_succ]
    unfold spec_StackOk_L3 spec_StackOk_k0 stackB
    rw [decide_eq_true (show (0 : Int) < (l.length : Int) by omega), cond_true, ix_of (by omega) (by omega), bd_eq, decide_eq_true (show (l.length : Int) > 20 by omega), cond_true, decide_eq_false h20]
    rfl
def spEq (b s : SSpot) : Bool := (decide (b.Bay = s.Bay)) && ((decide (b.Row = s.Row)) && (decide (b.Tier = s.Tier)))
def dupAt (l : List SStow) (i : Nat) : Bool := (l.take i).any fun b => spEq b.Spot (l.getD i dSStow).Spot
def noDup (l : List SStow) : Prop := ∀ i, i < l.length → dupAt l i = false
instance (l : List SStow) : Decidable (noDup l) := Nat.decidableBallLT _ _
end Go.Sm
end

section
set_option linter.unusedVariables false
set_option linter.unusedSimpArgs false
namespace Go.Sm
attribute [local irreducible] bd chk ix loopN
/-- The same, no state: what came before did not hold. -/
theorem loop_findE {R X : Type} {enc : Nat → X} {b : X → (X → Option R) → Option R} {len : Nat} {p : Nat → Bool} {yes : Nat → Option R} {no : Option R}
    (hstep : ∀ (k : Nat) (J : X → Option R), k < len → (∀ j, j < k → p j = false) → b (enc k) J = bif p k then yes k else J (enc (k + 1))) (hfin : ∀ J, b (enc len) J = no) {n : Nat} (hn : len < n) :
    loopN b n (enc 0) = ((List.range len).find? p).elim no yes := by
  have key : ∀ m (k : Nat) n, k + m = len → m < n → (∀ j, j < k → p j = false) → loopN b n (enc k) = ((List.range len).find? p).elim no yes := by
    intro m
    induction m with
    | zero =>
      intro k n hk hn hp
      have hk : k = len := by omega
      subst hk
      cases n with
      | zero => omega
      | succ n => rw [loopN_succ, hfin, find_range_none hp]; rfl
    | succ m ih =>
      intro k n hk hn hp
      cases n with
      | zero => omega
      | succ n =>
        rw [loopN_succ, hstep k (loopN b n) (by omega) hp]
        cases hpk : p k with
        | true => rw [find_range_some (by omega) hpk hp]; rfl
        | false =>
          refine ih (k + 1) n (by omega) (by omega) fun j hj => ?_
          by_cases e : j = k
          · rw [e]; exact hpk
          · exact hp j (by omega)
  exact key len 0 n (by omega) hn fun j hj => absurd hj (Nat.not_lt_zero _)
/-! ### Hatches -/
def hatchB (h : SHatch) : Bool := decide (1 ≤ h.Rows ∧ h.Rows ≤ 6) && (decide (1 ≤ h.Tiers ∧ h.Tiers ≤ 6) && (decide (0 ≤ h.Most ∧ h.Most ≤ 1000000) && decide (0 ≤ h.Plugs ∧ h.Plugs ≤ 36)))
def hatchesB (l : List SHatch) : Bool := decide (1 ≤ (l.length : Int) ∧ (l.length : Int) ≤ 6) && (List.range l.length).all fun k => hatchB (l.getD k dSHatch)
theorem hatches_spec {n : Nat} (l : List SHatch) (hl : l.length ≤ 100000000) (hn : 1000000000 < n) : spec_HatchesOk n l = some (hatchesB l) := by
  unfold spec_HatchesOk
  rw [loop_all (len := l.length) (p := fun k => hatchB (l.getD k dSHatch)) (no := some false) (yes := some (decide (1 ≤ (l.length : Int) ∧ (l.length : Int) ≤ 6))) (by omega) (fun i J hi _ => ?_) (fun J _ => ?_) (by omega)]
  · unfold hatchesB
    generalize decide (1 ≤ (l.length : Int) ∧ (l.length : Int) ≤ 6) = a
    generalize (List.range l.length).all _ = b
    cases a <;> cases b <;> rfl
  · have e : w64 ((i : Int) + 1) = ((i + 1 : Nat) : Int) := w64_succ (by omega)
    unfold spec_HatchesOk_L2 spec_HatchesOk_k0
    rw [decide_eq_true (by omega), cond_true, ix_nat hi, bd_eq, Int.toNat_natCast, e]
    simp only [in_specB, Option.bind_some]
    unfold hatchB
    generalize l.getD i dSHatch = h
    generalize decide (1 ≤ h.Rows ∧ h.Rows ≤ 6) = a
    generalize decide (1 ≤ h.Tiers ∧ h.Tiers ≤ 6) = b
    generalize decide (0 ≤ h.Most ∧ h.Most ≤ 1000000) = c
    generalize decide (0 ≤ h.Plugs ∧ h.Plugs ≤ 36) = d
    cases a <;> cases b <;> cases c <;> cases d <;> rfl
  · unfold spec_HatchesOk_L2
    rw [decide_eq_false (by omega), cond_false, in_specB]; rfl
theorem hatches_impl {n : Nat} (l : List SHatch) (hl : l.length ≤ 100000000) (hn : 1000000000 < n) : impl_HatchesOk n l = some (hatchesB l) := by
  have hc : sContains_HatchesOk_1 n l = some (!((List.range l.length).all fun k => hatchB (l.getD k dSHatch))) := by
    unfold sContains_HatchesOk_1 sIndex_HatchesOk_1
    rw [loop_idx (len := l.length) (p := fun k => !hatchB (l.getD k dSHatch)) (by omega) (fun k J hk _ => ?_) (fun J _ => ?_) (by omega), Option.bind_some, idxOf_ge, List.not_all_eq_any_not]
    · have e2 : w64 ((k : Int) + 1) = ((k + 1 : Nat) : Int) := w64_succ (by omega)
      unfold sIndex_HatchesOk_1_L2 impl_HatchesOk_1
      rw [decide_eq_true (by omega), cond_true, ix_nat hk, bd_eq, Int.toNat_natCast, e2]
      simp only [in_implB, Option.bind_some]
      unfold hatchB
      generalize l.getD k dSHatch = h
      generalize decide (1 ≤ h.Rows ∧ h.Rows ≤ 6) = a
      generalize decide (1 ≤ h.Tiers ∧ h.Tiers ≤ 6) = b
      generalize decide (0 ≤ h.Most ∧ h.Most ≤ 1000000) = c
      generalize decide (0 ≤ h.Plugs ∧ h.Plugs ≤ 36) = d
      cases a <;> cases b <;> cases c <;> cases d <;> rfl
    · unfold sIndex_HatchesOk_1_L2
      rw [decide_eq_false (by omega), cond_false]
  unfold impl_HatchesOk
  rw [in_implB, Option.bind_some, hc, Option.bind_some, Bool.not_not]
  unfold hatchesB
  generalize decide (1 ≤ (l.length : Int) ∧ (l.length : Int) ≤ 6) = a
  cases a <;> simp
theorem hatchesB_at {l : List SHatch} (h : hatchesB l = true) : l.length ≤ 6 ∧ 1 ≤ l.length ∧ ∀ k, k < l.length → (1 ≤ (l.getD k dSHatch).Rows ∧ (l.getD k dSHatch).Rows ≤ 6) ∧ (1 ≤ (l.getD k dSHatch).Tiers ∧ (l.getD k dSHatch).Tiers ≤ 6) := by
  unfold hatchesB at h
  rw [Bool.and_eq_true, decide_eq_true_eq] at h
  refine ⟨by omega, by omega, fun k hk => ?_⟩
  have := List.all_eq_true.1 h.2 k (List.mem_range.2 hk)
  unfold hatchB at this
  rw [Bool.and_eq_true, Bool.and_eq_true, decide_eq_true_eq, decide_eq_true_eq] at this
  exact ⟨this.1, this.2.1⟩
/-! ### Apart -/
theorem apart_all : ∀ a : Fin 10, ∀ b : Fin 10, spec_Apart 0 ((a.val : Nat) : Int) ((b.val : Nat) : Int) = impl_Apart 0 ((a.val : Nat) : Int) ((b.val : Nat) : Int) ∧ ((spec_Apart 0 ((a.val : Nat) : Int) ((b.val : Nat) : Int)).any fun r => decide (0 ≤ r ∧ r ≤ 3)) = true := by decide +kernel
theorem apart_both (n : Nat) {a b : Int} (ha : 0 ≤ a ∧ a ≤ 9) (hb : 0 ≤ b ∧ b ≤ 9) : ∃ r, spec_Apart n a b = some r ∧ impl_Apart n a b = some r ∧ 0 ≤ r ∧ r ≤ 3 := by
  have h := apart_all ⟨a.toNat, by omega⟩ ⟨b.toNat, by omega⟩
  have ea : ((a.toNat : Nat) : Int) = a := by omega
  have eb : ((b.toNat : Nat) : Int) = b := by omega
  dsimp only at h
  rw [ea, eb] at h
  obtain ⟨h1, h2⟩ := h
  cases hr : spec_Apart 0 a b with
  | none => rw [hr] at h2; cases h2
  | some r =>
    rw [hr] at h1 h2
    refine ⟨r, hr, h1.symm, ?_⟩
    have : decide (0 ≤ r ∧ r ≤ 3) = true := h2
    simpa using this
theorem k0_both (n : Nat) {a b : SBox} (sa sb : SSpot) (ha : 0 ≤ a.Class ∧ a.Class ≤ 9) (hb : 0 ≤ b.Class ∧ b.Class ≤ 9) : ∃ r, spec_KeepsApart_k0 n a sa b sb = some r ∧ impl_KeepsApart_k0 n a sa b sb = some r := by
  obtain ⟨r, r1, r2, r3, r4⟩ := apart_both n ha hb
  have s1 : ∀ x, ∃ z, spec_l3Size n x = some z ∧ impl_size n x = some z := fun x => by
    unfold spec_l3Size impl_size
    by_cases hx : x < 0
    · rw [decide_eq_true hx]; exact ⟨_, rfl, rfl⟩
    · rw [decide_eq_false hx]; exact ⟨_, rfl, rfl⟩
  obtain ⟨z1, y1, y2⟩ := s1 (w64 (sa.Bay - sb.Bay))
  obtain ⟨z2, y3, y4⟩ := s1 (w64 (sa.Row - sb.Row))
  obtain ⟨z3, y5, y6⟩ := s1 (w64 (sa.Tier - sb.Tier))
  unfold spec_KeepsApart_k0 impl_KeepsApart_k0
  simp only [bd_eq, y1, y2, y3, y4, y5, y6, r1, r2, Option.bind_some]
  by_cases h0 : r = 0
  · subst h0; exact ⟨_, rfl, rfl⟩
  · by_cases h1 : r = 1
    · subst h1; exact ⟨_, rfl, rfl⟩
    · by_cases h2 : r = 2
      · subst h2; exact ⟨_, rfl, rfl⟩
      · have h3 : r = 3 := by omega
        subst h3; exact ⟨_, rfl, rfl⟩
def spotB (s : SSpot) : Bool := decide (0 ≤ s.Bay ∧ s.Bay ≤ 19) && (decide (0 ≤ s.Row ∧ s.Row ≤ 19) && decide (0 ≤ s.Tier ∧ s.Tier ≤ 19))
theorem spot_spec (n : Nat) (s : SSpot) : spec_l11Spot n s = some (spotB s) := by
  unfold spec_l11Spot spotB
  simp only [in_specB, Option.bind_some, bif_sf]
theorem spot_impl (n : Nat) (s : SSpot) : impl_spotOk n s = some (spotB s) := by
  unfold impl_spotOk spotB
  simp only [in_implB, Option.bind_some, bif_sf]
def keepsV (a : SBox) (sa : SSpot) (b : SBox) (sb : SSpot) : Bool := boxB a && (boxB b && (spotB sa && (spotB sb && (!spEq sa sb && (spec_KeepsApart_k0 0 a sa b sb).getD false))))
theorem boxB_c {b : SBox} (h : boxB b = true) : 0 ≤ b.Class ∧ b.Class ≤ 9 := by
  unfold boxB at h
  simp only [Bool.and_eq_true, decide_eq_true_eq] at h
  exact h.2.2.1
theorem keeps_spec {n : Nat} (a : SBox) (sa : SSpot) (b : SBox) (sb : SSpot) (hn : 1000000000 < n) : spec_KeepsApart n a sa b sb = some (keepsV a sa b sb) ∧ impl_KeepsApart n a sa b sb = some (keepsV a sa b sb) := by
  unfold spec_KeepsApart impl_KeepsApart keepsV
  rw [boxB_spec a hn, boxB_spec b hn, boxB_impl a hn, boxB_impl b hn, spot_spec, spot_spec, spot_impl, spot_impl]
  simp only [Option.bind_some]
  cases ha : boxB a with
  | false => exact ⟨rfl, rfl⟩
  | true =>
    cases hb : boxB b with
    | false => exact ⟨rfl, rfl⟩
    | true =>
      obtain ⟨r, r1, r2⟩ := k0_both n sa sb (boxB_c ha) (boxB_c hb)
      have r0 : spec_KeepsApart_k0 0 a sa b sb = some r := r1
      rw [r0, r1, r2, ← spEq]
      generalize spotB sa = p
      generalize spotB sb = q
      generalize spEq sa sb = s
      cases p <;> cases q <;> cases s <;> exact ⟨rfl, rfl⟩
end Go.Sm
end

section
set_option linter.unusedVariables false
set_option linter.unusedSimpArgs false
namespace Go.Sm
attribute [local irreducible] bd chk ix loopN
/-! ### The stack at a place -/
def nd (l : List SStow) : Prop := ∀ i k, i < l.length → k < i → spEq (l.getD k dSStow).Spot (l.getD i dSStow).Spot = false
theorem spEq_iff {a b : SSpot} : spEq a b = true ↔ a.Bay = b.Bay ∧ a.Row = b.Row ∧ a.Tier = b.Tier := by
  unfold spEq; simp only [Bool.and_eq_true, decide_eq_true_eq]
theorem nd_eq {l : List SStow} (h : nd l) {i j : Nat} (hi : i < l.length) (hj : j < l.length) (he : spEq (l.getD i dSStow).Spot (l.getD j dSStow).Spot = true) : i = j := by
  by_cases c1 : i < j
  · rw [h j i hj c1] at he; cases he
  · by_cases c2 : j < i
    · have := h i j hi c2
      have he' := spEq_iff.1 he
      rw [spEq_iff.2 ⟨he'.1.symm, he'.2.1.symm, he'.2.2.symm⟩] at this
      cases this
    · omega
theorem mem_getS {l : List SStow} {x : SStow} (h : x ∈ l) : ∃ u, u < l.length ∧ l.getD u dSStow = x := by
  obtain ⟨u, hu, he⟩ := List.getElem_of_mem h
  exact ⟨u, hu, by rw [getD_eq hu]; exact he⟩
theorem nd_mem {l : List SStow} (h : nd l) {x y : SStow} (hx : x ∈ l) (hy : y ∈ l) (he : spEq x.Spot y.Spot = true) : x = y := by
  obtain ⟨i, i1, i2⟩ := mem_getS hx
  obtain ⟨j, j1, j2⟩ := mem_getS hy
  rw [← i2, ← j2] at he
  rw [← i2, ← j2, nd_eq h i1 j1 he]
theorem l12At_idx {n : Nat} (l : List SStow) (s : SSpot) (hl : l.length ≤ 100000000) (hn : 1000000000 < n) : spec_l12At n l s = some (idxOf (fun k => spEq (l.getD k dSStow).Spot s) l.length) := by
  unfold spec_l12At
  refine loop_idx (len := l.length) (by omega) (fun k J hk _ => ?_) (fun J _ => ?_) (by omega)
  · have e2 : w64 ((k : Int) + 1) = ((k + 1 : Nat) : Int) := w64_succ (by omega)
    unfold spec_l12At_L2
    rw [decide_eq_true (by omega), cond_true, ix_nat hk, bd_eq, Int.toNat_natCast, ← spEq, e2]
  · unfold spec_l12At_L2
    rw [decide_eq_false (by omega), cond_false]
abbrev tLt (a b : SStow) : Prop := a.Spot.Tier < b.Spot.Tier
/-- One sorted list has these members. -/
theorem sorted_uni : ∀ (a b : List SStow), a.Pairwise tLt → b.Pairwise tLt → (∀ x, x ∈ a ↔ x ∈ b) → a = b
  | [], [], _, _, _ => rfl
  | [], y :: b, _, _, h => absurd ((h y).2 List.mem_cons_self) List.not_mem_nil
  | x :: a, [], _, _, h => absurd ((h x).1 List.mem_cons_self) List.not_mem_nil
  | x :: a, y :: b, ha, hb, h => by
    rw [List.pairwise_cons] at ha hb
    have hxy : x = y := by
      rcases List.mem_cons.1 ((h x).1 List.mem_cons_self) with e | e
      · exact e
      · rcases List.mem_cons.1 ((h y).2 List.mem_cons_self) with e2 | e2
        · exact e2.symm
        · have h1 := hb.1 x e
          have h2 := ha.1 y e2
          unfold tLt at h1 h2
          omega
    subst hxy
    rw [sorted_uni a b ha.2 hb.2 fun z => ?_]
    constructor
    · intro hz
      rcases List.mem_cons.1 ((h z).1 (List.mem_cons_of_mem _ hz)) with e | e
      · have := ha.1 z hz
        rw [e] at this; unfold tLt at this; omega
      · exact e
    · intro hz
      rcases List.mem_cons.1 ((h z).2 (List.mem_cons_of_mem _ hz)) with e | e
      · have := hb.1 z hz
        rw [e] at this; unfold tLt at this; omega
      · exact e
theorem stack_walk {n : Nat} {l : List SStow} (h : nd l) (bay row : Int) (hl : l.length ≤ 40) (ht : ∀ x ∈ l, 0 ≤ x.Spot.Tier ∧ x.Spot.Tier < 20) (hn : 1000000000 < n) :
    ∃ L : List SStow, spec_l12Stack n l bay row = some (L.map SStow.Box) ∧ L.Pairwise tLt ∧ L.length ≤ 20 ∧ ∀ x, x ∈ L ↔ (x ∈ l ∧ x.Spot.Bay = bay ∧ x.Spot.Row = row) := by
  unfold spec_l12Stack
  refine loop_runS (enc := fun k (s : List SBox) => (k, s)) (I := fun k s => ∃ L : List SStow, s = L.map SStow.Box ∧ L.Pairwise tLt ∧ L.length ≤ k ∧ ∀ x, x ∈ L ↔ (x ∈ l ∧ x.Spot.Bay = bay ∧ x.Spot.Row = row ∧ x.Spot.Tier < (k : Int))) (Q := fun r => ∃ L : List SStow, r = some (L.map SStow.Box) ∧ L.Pairwise tLt ∧ L.length ≤ 20 ∧ ∀ x, x ∈ L ↔ (x ∈ l ∧ x.Spot.Bay = bay ∧ x.Spot.Row = row)) (len := 20) (fun k s J hk hI => ?_) (fun s J hI => ?_) (by omega) ⟨[], rfl, List.Pairwise.nil, Nat.le_refl _, fun x => ⟨fun hh => absurd hh List.not_mem_nil, fun hh => by have := (ht x hh.1).1; omega⟩⟩
  · obtain ⟨L, i1, i2, i3, i4⟩ := hI
    have e : w64 ((k : Int) + 1) = ((k + 1 : Nat) : Int) := w64_succ (by omega)
    have hst : spec_l12Stack_L3 n (fun out14 => some (out14)) (fun t15 out16 => J (t15, out16)) l bay row (k : Int) s = (bif decide (idxOf (fun j => spEq (l.getD j dSStow).Spot ⟨bay, row, (k : Int)⟩) l.length ≥ 0) then ix (idxOf (fun j => spEq (l.getD j dSStow).Spot ⟨bay, row, (k : Int)⟩) l.length) l.length (bd (l.getD (idxOf (fun j => spEq (l.getD j dSStow).Spot ⟨bay, row, (k : Int)⟩) l.length).toNat dSStow) fun (e9 : SStow) => chk (decide ((s ++ [e9.Box]).length * 56 ≤ 140737488355328)) (J (((k + 1 : Nat) : Int), (s ++ [e9.Box])))) else J (((k + 1 : Nat) : Int), s)) := by
      unfold spec_l12Stack_L3 spec_l12Stack_k0
      rw [decide_eq_true (show (k : Int) < 20 by omega), cond_true, l12At_idx l _ (by omega) hn, Option.bind_some, e]
    rcases idxOf_spec (fun j => spEq (l.getD j dSStow).Spot ⟨bay, row, (k : Int)⟩) l.length with ⟨h1, h2⟩ | ⟨u, h1, h2, h3, h4⟩
    · refine ⟨s, ⟨L, i1, i2, by omega, fun x => ?_⟩, ?_⟩
      · rw [i4]
        refine ⟨fun hh => ⟨hh.1, hh.2.1, hh.2.2.1, by omega⟩, fun hh => ⟨hh.1, hh.2.1, hh.2.2.1, ?_⟩⟩
        obtain ⟨v, v1, v2⟩ := mem_getS hh.1
        by_cases c : x.Spot.Tier = (k : Int)
        · have := h2 v v1
          rw [v2, spEq_iff.2 ⟨hh.2.1, hh.2.2.1, c⟩] at this
          cases this
        · have := hh.2.2.2
          omega
      · refine hst.trans ?_
        rw [h1, decide_eq_false (by omega), cond_false]
    · have h3 := spEq_iff.1 h3
      dsimp only at h3
      refine ⟨s ++ [(l.getD u dSStow).Box], ⟨L ++ [l.getD u dSStow], by rw [i1, List.map_append]; rfl, ?_, by rw [List.length_append]; simp; omega, fun x => ?_⟩, ?_⟩
      · rw [List.pairwise_append]
        refine ⟨i2, List.pairwise_singleton _ _, fun x hx y hy => ?_⟩
        rw [List.mem_singleton.1 hy]
        have := ((i4 x).1 hx).2.2.2
        unfold tLt
        omega
      · rw [List.mem_append, List.mem_singleton, i4]
        constructor
        · rintro (hh | hh)
          · exact ⟨hh.1, hh.2.1, hh.2.2.1, by omega⟩
          · rw [hh]; exact ⟨getD_mem h2, h3.1, h3.2.1, by omega⟩
        · rintro ⟨a1, a2, a3, a4⟩
          by_cases c : x.Spot.Tier = (k : Int)
          · exact .inr (nd_mem h a1 (getD_mem h2) (spEq_iff.2 ⟨by omega, by omega, by omega⟩))
          · exact .inl ⟨a1, a2, a3, by omega⟩
      · refine hst.trans ?_
        have hlen : s.length ≤ 20 := by rw [i1, List.length_map]; omega
        rw [h1, decide_eq_true (by omega), cond_true, ix_nat h2, bd_eq, Int.toNat_natCast, chk_dec (by rw [List.length_append]; simp; omega)]
  · obtain ⟨L, i1, i2, i3, i4⟩ := hI
    refine ⟨L, ?_, i2, i3, fun x => ?_⟩
    · show spec_l12Stack_L3 n _ (fun t15 out16 => J (t15, out16)) l bay row ((20 : Nat) : Int) s = _
      unfold spec_l12Stack_L3
      rw [decide_eq_false (by omega), cond_false, i1]
    · rw [i4]
      exact ⟨fun hh => ⟨hh.1, hh.2.1, hh.2.2.1⟩, fun hh => ⟨hh.1, hh.2.1, hh.2.2, (ht x hh.1).2⟩⟩
theorem cmp_int12 (n : Nat) (x y : Int) : cmp_Compare_int n x y = some (if x < y then -1 else if x > y then 1 else 0) := by
  unfold cmp_Compare_int cmp_isNaN_int
  simp only [decide_true, Bool.not_true, Option.bind_some, cond_false]
  by_cases h : x < y
  · simp [h]
  · by_cases h2 : x > y <;> simp [h, h2]
def cmpT (a b : SStow) : Int := if a.Spot.Tier < b.Spot.Tier then -1 else if a.Spot.Tier > b.Spot.Tier then 1 else 0
theorem cmpT_lt {a b : SStow} : cmpT a b < 0 ↔ a.Spot.Tier < b.Spot.Tier := by
  unfold cmpT
  split
  · omega
  · split <;> omega
def atPlace (bay row : Int) (x : SStow) : Bool := decide (x.Spot.Bay = bay) && decide (x.Spot.Row = row)
theorem pw_idx {R : SStow → SStow → Prop} {l : List SStow} (h : ∀ i k, i < l.length → k < i → R (l.getD k dSStow) (l.getD i dSStow)) : l.Pairwise R :=
  List.pairwise_iff_getElem.2 fun i j hi hj hij => by
    have := h j i hj hij
    rw [getD_eq hi, getD_eq hj] at this; exact this
theorem stackOf_walk {n : Nat} {l : List SStow} (h : nd l) (bay row : Int) (hl : l.length ≤ 40) (hn : 1000000000 < n) :
    ∃ L : List SStow, impl_stackOf n l bay row = some (L.map SStow.Box) ∧ L.Pairwise tLt ∧ ∀ x, x ∈ L ↔ (x ∈ l ∧ x.Spot.Bay = bay ∧ x.Spot.Row = row) := by
  unfold impl_stackOf
  refine loop_runS (enc := fun k (s : List SStow) => (k, s)) (I := fun k s => s = (l.take k).filter (atPlace bay row)) (Q := fun r => ∃ L : List SStow, r = some (L.map SStow.Box) ∧ L.Pairwise tLt ∧ ∀ x, x ∈ L ↔ (x ∈ l ∧ x.Spot.Bay = bay ∧ x.Spot.Row = row)) (len := l.length) (fun k s J hk hI => ?_) (fun s J hI => ?_) (by omega) rfl
  · have e : w64 ((k : Int) + 1) = ((k + 1 : Nat) : Int) := w64_succ (by omega)
    have hs : s.length ≤ 40 := by
      rw [hI]
      exact Nat.le_trans (List.length_filter_le _ _) (by rw [List.length_take]; omega)
    have hn' : (l.take (k + 1)).filter (atPlace bay row) = if atPlace bay row (l.getD k dSStow) = true then s ++ [l.getD k dSStow] else s := by
      rw [take_succ_getD (d := dSStow) hk, List.filter_append, ← hI]
      by_cases c : atPlace bay row (l.getD k dSStow) = true
      · rw [if_pos c, List.filter_cons_of_pos c]; rfl
      · rw [if_neg c, List.filter_cons_of_neg c]; simp
    refine ⟨_, hn'.symm, ?_⟩
    show impl_stackOf_L3 n _ (fun t42 l43 => J (t42, l43)) bay row l (l.length : Int) (k : Int) s = _
    unfold impl_stackOf_L3 impl_stackOf_k0
    rw [decide_eq_true (by omega), cond_true, ix_nat hk, bd_eq, Int.toNat_natCast, e, chk_dec (by rw [List.length_append]; simp; omega)]
    unfold atPlace
    by_cases c1 : (l.getD k dSStow).Spot.Bay = bay
    · by_cases c2 : (l.getD k dSStow).Spot.Row = row
      · rw [decide_eq_true c1, decide_eq_true c2]; rfl
      · rw [decide_eq_true c1, decide_eq_false c2]; rfl
    · rw [decide_eq_false c1]; rfl
  · rw [List.take_length] at hI
    have hmem : ∀ x, x ∈ s ↔ (x ∈ l ∧ x.Spot.Bay = bay ∧ x.Spot.Row = row) := fun x => by
      rw [hI, List.mem_filter]
      unfold atPlace
      simp only [Bool.and_eq_true, decide_eq_true_eq]
    have hs : s.length ≤ 40 := by
      rw [hI]
      exact Nat.le_trans (List.length_filter_le _ _) hl
    have hne : s.Pairwise fun x y => x.Spot.Tier ≠ y.Spot.Tier := by
      have h0 : s.Pairwise fun x y => spEq x.Spot y.Spot = false := by
        rw [hI]; exact (pw_idx (R := fun x y => spEq x.Spot y.Spot = false) (l := l) h).filter _
      refine List.Pairwise.imp_of_mem (fun {a b} ha hb hab hT => ?_) h0
      have ha := (hmem a).1 ha
      have hb := (hmem b).1 hb
      rw [spEq_iff.2 ⟨by omega, by omega, hT⟩] at hab
      cases hab
    obtain ⟨o, o1, o2, o3⟩ := sortL_ok (d := dSStow) (cmp := fun a b => impl_stackOf_1 n a b) (cf := cmpT) (l := s) (fun x _ y _ => by
      unfold impl_stackOf_1
      rw [cmp_int12, Option.bind_some]; rfl) (fun x _ => by rw [cmpT_lt]; omega) (fun x _ y _ z _ h1 h2 => by
      rw [cmpT_lt] at h1 h2 ⊢; omega) (fun x _ y _ z _ h1 h2 => by
      rw [cmpT_lt] at h1 h2 ⊢; omega) (by omega)
    have hol : o.length = s.length := o2.length_eq
    show ∃ L : List SStow, impl_stackOf_L3 n _ (fun t42 l43 => J (t42, l43)) bay row l (l.length : Int) (l.length : Int) s = some (L.map SStow.Box) ∧ _
    refine ⟨o, ?_, ?_, fun x => by rw [o2.mem_iff]; exact hmem x⟩
    · unfold impl_stackOf_L3 sSort_stackOf_1
      rw [decide_eq_false (by omega), cond_false]
      show (sortL dSStow (fun a b => impl_stackOf_1 n a b) s).bind _ = _
      rw [o1, Option.bind_some]
      refine loop_runS (enc := fun k (s : List SBox) => (k, s)) (I := fun k x => x = (o.take k).map SStow.Box) (Q := fun r => r = some (o.map SStow.Box)) (len := o.length) (fun k x J' hk hI' => ?_) (fun x J' hI' => ?_) (by omega) rfl
      · have e : w64 ((k : Int) + 1) = ((k + 1 : Nat) : Int) := w64_succ (by omega)
        have hx : x.length ≤ 40 := by rw [hI', List.length_map, List.length_take]; omega
        refine ⟨x ++ [(o.getD k dSStow).Box], by rw [take_succ_getD (d := dSStow) hk, List.map_append, hI']; rfl, ?_⟩
        show impl_stackOf_L11 n _ (fun t40 out41 => J' (t40, out41)) (o.length : Int) (k : Int) x o = _
        unfold impl_stackOf_L11
        rw [decide_eq_true (by omega), cond_true, ix_nat hk, Int.toNat_natCast, chk_dec hk, bd_eq, chk_dec (by rw [List.length_append]; simp; omega), e]
      · show impl_stackOf_L11 n _ (fun t40 out41 => J' (t40, out41)) (o.length : Int) (o.length : Int) x o = _
        unfold impl_stackOf_L11
        rw [decide_eq_false (by omega), cond_false, hI', List.take_length]
    · have hne' : o.Pairwise fun x y => x.Spot.Tier ≠ y.Spot.Tier := (o2.pairwise_iff (fun {a b} hab => Ne.symm hab)).2 hne
      refine (o3.and hne').imp fun {a b} hab => ?_
      have h1 := hab.1
      rw [cmpT_lt] at h1
      have h2 := hab.2
      unfold tLt
      omega
theorem stacks_same {n : Nat} {l : List SStow} (h : nd l) (bay row : Int) (hl : l.length ≤ 40) (ht : ∀ x ∈ l, 0 ≤ x.Spot.Tier ∧ x.Spot.Tier < 20) (hn : 1000000000 < n) : ∃ B : List SBox, spec_l12Stack n l bay row = some B ∧ impl_stackOf n l bay row = some B ∧ B.length ≤ 20 := by
  obtain ⟨L, a1, a2, a3, a4⟩ := stack_walk h bay row hl ht hn
  obtain ⟨M, b1, b2, b3⟩ := stackOf_walk h bay row hl hn
  have : M = L := sorted_uni M L b2 a2 fun x => by rw [b3, a4]
  rw [this] at b1
  exact ⟨_, a1, b1, by rw [List.length_map]; exact a3⟩
end Go.Sm
end

section
set_option linter.unusedVariables false
set_option linter.unusedSimpArgs false
namespace Go.Sm
attribute [local irreducible] bd chk ix loopN
/-! ### What fails -/
def insideB (bays : List SHatch) (s : SSpot) : Bool := decide (0 ≤ s.Bay ∧ s.Bay ≤ w64 ((bays.length : Int) - 1)) && (decide (0 ≤ s.Row ∧ s.Row ≤ w64 ((bays.getD s.Bay.toNat dSHatch).Rows - 1)) && decide (0 ≤ s.Tier ∧ s.Tier ≤ w64 ((bays.getD s.Bay.toNat dSHatch).Tiers - 1)))
def coldU (l : List SStow) (bay : Int) : Nat → Int
  | 0 => 0
  | k + 1 => bif decide ((l.getD k dSStow).Spot.Bay = bay) && (l.getD k dSStow).Box.Cold then w64 (coldU l bay k + 1) else coldU l bay k
def fl (n : Nat) (bays : List SHatch) (l : List SStow) : Nat → Nat → Bool
  | 0, i => !boxB (l.getD i dSStow).Box
  | 1, i => (List.range i).any fun k => decide ((l.getD k dSStow).Box.Name = (l.getD i dSStow).Box.Name) || spEq (l.getD k dSStow).Spot (l.getD i dSStow).Spot
  | 2, i => !insideB bays (l.getD i dSStow).Spot
  | 3, i => decide ((l.getD i dSStow).Spot.Tier > 0) && !((List.range l.length).any fun k => spEq (l.getD k dSStow).Spot ⟨(l.getD i dSStow).Spot.Bay, (l.getD i dSStow).Spot.Row, w64 ((l.getD i dSStow).Spot.Tier - 1)⟩)
  | 4, i => !stackB ((spec_l12Stack n l (l.getD i dSStow).Spot.Bay (l.getD i dSStow).Spot.Row).getD []) (bays.getD (l.getD i dSStow).Spot.Bay.toNat dSHatch).Most
  | 5, i => (l.getD i dSStow).Box.Cold && decide (coldU l (l.getD i dSStow).Spot.Bay l.length > (bays.getD (l.getD i dSStow).Spot.Bay.toNat dSHatch).Plugs)
  | 6, i => (List.range i).any fun k => !keepsV (l.getD k dSStow).Box (l.getD k dSStow).Spot (l.getD i dSStow).Box (l.getD i dSStow).Spot
  | _, _ => false
theorem any_all {m : Nat} {c : Nat → Bool} : (bif (List.range m).all (fun k => !c k) then (some false : Option Bool) else some true) = some ((List.range m).any c) := by
  rw [← List.not_any_eq_all_not]
  cases (List.range m).any c <;> rfl
theorem take_any {α : Type} {l : List SStow} {i : Nat} (hi : i ≤ l.length) {c : SStow → Bool} : ((List.range (l.take i).length).any fun k => c ((l.take i).getD k dSStow)) = (List.range i).any fun k => c (l.getD k dSStow) := by
  have ht : (l.take i).length = i := by rw [List.length_take]; omega
  rw [ht]
  refine any_congr_lt fun k hk => ?_
  rw [getD_eq (by omega), getD_eq (by omega), List.getElem_take]
theorem inside_at {bays : List SHatch} (hb : hatchesB bays = true) {s : SSpot} (h : insideB bays s = true) : 0 ≤ s.Bay ∧ s.Bay < (bays.length : Int) ∧ 0 ≤ s.Tier ∧ s.Tier < 20 := by
  obtain ⟨b1, b2, b3⟩ := hatchesB_at hb
  unfold insideB at h
  simp only [Bool.and_eq_true, decide_eq_true_eq] at h
  have e1 : w64 ((bays.length : Int) - 1) = (bays.length : Int) - 1 := w64_id (by omega) (by omega)
  rw [e1] at h
  have h3 := b3 s.Bay.toNat (by omega)
  have e2 : w64 ((bays.getD s.Bay.toNat dSHatch).Tiers - 1) = (bays.getD s.Bay.toNat dSHatch).Tiers - 1 := w64_id (by omega) (by omega)
  rw [e2] at h
  omega
/-- What the earlier ones left. -/
def Past (n : Nat) (bays : List SHatch) (l : List SStow) (k : Nat) : Prop := ∀ j, j < k → ∀ i, i < l.length → fl n bays l j i = false
theorem Past.nd {n : Nat} {bays : List SHatch} {l : List SStow} {k : Nat} (h : Past n bays l k) (hk : 1 < k) : nd l := fun i k' hi hk' => by
  have h1 := h 1 hk i hi
  have h2 : ∀ x, x ∈ List.range i → ¬ (decide ((l.getD x dSStow).Box.Name = (l.getD i dSStow).Box.Name) || spEq (l.getD x dSStow).Spot (l.getD i dSStow).Spot) = true := List.any_eq_false.1 h1
  have h3 := h2 k' (List.mem_range.2 hk')
  cases hc : spEq (l.getD k' dSStow).Spot (l.getD i dSStow).Spot with
  | false => rfl
  | true => rw [hc, Bool.or_true] at h3; exact absurd rfl h3
theorem Past.ins {n : Nat} {bays : List SHatch} {l : List SStow} {k : Nat} (h : Past n bays l k) (hk : 2 < k) {i : Nat} (hi : i < l.length) : insideB bays (l.getD i dSStow).Spot = true := by
  have h1 := h 2 hk i hi
  have h2 : (!insideB bays (l.getD i dSStow).Spot) = false := h1
  cases hc : insideB bays (l.getD i dSStow).Spot with
  | true => rfl
  | false => rw [hc] at h2; cases h2
theorem Past.tiers {n : Nat} {bays : List SHatch} {l : List SStow} {k : Nat} (hb : hatchesB bays = true) (h : Past n bays l k) (hk : 2 < k) : ∀ x ∈ l, 0 ≤ x.Spot.Tier ∧ x.Spot.Tier < 20 := fun x hx => by
  obtain ⟨i, i1, i2⟩ := mem_getS hx
  have := inside_at hb (h.ins hk i1)
  rw [i2] at this
  exact this.2.2
theorem cold_spec {n : Nat} (l : List SStow) (bay : Int) (hl : l.length ≤ 100000000) (hn : 1000000000 < n) : spec_l12Cold n l bay = some (coldU l bay l.length) := by
  unfold spec_l12Cold
  refine loop_runS (enc := fun k (s : Int) => (s, k)) (I := fun k s => s = coldU l bay k) (Q := fun r => r = some (coldU l bay l.length)) (len := l.length) (fun k s J hk hI => ⟨_, rfl, ?_⟩) (fun s J hI => ?_) (by omega) rfl
  · have e : w64 ((k : Int) + 1) = ((k + 1 : Nat) : Int) := w64_succ (by omega)
    show spec_l12Cold_L3 n _ (fun n27 i28 => J (n27, i28)) l bay s (k : Int) = _
    unfold spec_l12Cold_L3 spec_l12Cold_k0
    rw [decide_eq_true (by omega), cond_true, ix_nat hk, bd_eq, Int.toNat_natCast, ix_nat hk, bd_eq, e, hI]
    show _ = J (bif decide ((l.getD k dSStow).Spot.Bay = bay) && (l.getD k dSStow).Box.Cold then w64 (coldU l bay k + 1) else coldU l bay k, ((k + 1 : Nat) : Int))
    generalize decide ((l.getD k dSStow).Spot.Bay = bay) = a
    cases a <;> cases (l.getD k dSStow).Box.Cold <;> rfl
  · show spec_l12Cold_L3 n _ (fun n27 i28 => J (n27, i28)) l bay s (l.length : Int) = _
    unfold spec_l12Cold_L3
    rw [decide_eq_false (by omega), cond_false, hI]
theorem spec_fl {n : Nat} {bays : List SHatch} {l : List SStow} (hb : hatchesB bays = true) (hl : l.length ≤ 40) (hn : 1000000000 < n) {k : Nat} (hk : k < 7) (hp : Past n bays l k) {i : Nat} (hi : i < l.length) : spec_l12Fails n bays l (i : Int) ((k + 1 : Nat) : Int) = some (fl n bays l k i) := by
  unfold spec_l12Fails
  rw [ix_nat hi, bd_eq, Int.toNat_natCast]
  rcases (show k = 0 ∨ k = 1 ∨ k = 2 ∨ k = 3 ∨ k = 4 ∨ k = 5 ∨ k = 6 by omega) with e | e | e | e | e | e | e <;> subst e
  · rw [decide_eq_true (by omega), cond_true, boxB_spec _ hn]; rfl
  · rw [decide_eq_false (by omega), cond_false, decide_eq_true (by omega), cond_true]
    rw [loop_all (len := i) (p := fun k => !(decide ((l.getD k dSStow).Box.Name = (l.getD i dSStow).Box.Name) || spEq (l.getD k dSStow).Spot (l.getD i dSStow).Spot)) (no := some true) (yes := some false) (by omega) (fun k J hk' _ => ?_) (fun J _ => ?_) (by omega)]
    · exact any_all
    · have e2 : w64 ((k : Int) + 1) = ((k + 1 : Nat) : Int) := w64_succ (by omega)
      have hk2 : k < l.length := by omega
      unfold spec_l12Fails_L8 spec_l12Fails_k0
      rw [decide_eq_true (by omega), cond_true, ix_nat hk2, bd_eq, Int.toNat_natCast, ix_nat hk2, bd_eq, ← spEq, e2]
      generalize decide ((l.getD k dSStow).Box.Name = (l.getD i dSStow).Box.Name) = a
      generalize spEq (l.getD k dSStow).Spot (l.getD i dSStow).Spot = b
      cases a <;> cases b <;> rfl
    · unfold spec_l12Fails_L8
      rw [decide_eq_false (by omega), cond_false]
  · rw [decide_eq_false (by omega), cond_false, decide_eq_false (by omega), cond_false, decide_eq_true (by omega), cond_true, bd_eq, in_specB, Option.bind_some]
    show _ = some (!insideB bays (l.getD i dSStow).Spot)
    obtain ⟨b1, b2, b3⟩ := hatchesB_at hb
    have e1 : w64 ((bays.length : Int) - 1) = (bays.length : Int) - 1 := w64_id (by omega) (by omega)
    unfold insideB
    by_cases c : 0 ≤ (l.getD i dSStow).Spot.Bay ∧ (l.getD i dSStow).Spot.Bay ≤ w64 ((bays.length : Int) - 1)
    · rw [decide_eq_true c, Bool.not_true, cond_false, Bool.true_and]
      rw [e1] at c
      rw [ix_of c.1 (by omega), bd_eq, bd_eq, in_specB, Option.bind_some, ix_of c.1 (by omega), bd_eq, bd_eq, in_specB, Option.bind_some]
      generalize decide (0 ≤ (l.getD i dSStow).Spot.Row ∧ (l.getD i dSStow).Spot.Row ≤ w64 ((bays.getD (l.getD i dSStow).Spot.Bay.toNat dSHatch).Rows - 1)) = a
      cases a <;> rfl
    · rw [decide_eq_false c]; rfl
  · rw [decide_eq_false (by omega), cond_false, decide_eq_false (by omega), cond_false, decide_eq_false (by omega), cond_false, decide_eq_true (by omega), cond_true, bd_eq, l12At_idx l _ (by omega) hn, Option.bind_some, idxOf_lt]
    show _ = some (decide _ && _)
    generalize decide ((l.getD i dSStow).Spot.Tier > 0) = a
    cases a <;> rfl
  · rw [decide_eq_false (by omega), cond_false, decide_eq_false (by omega), cond_false, decide_eq_false (by omega), cond_false, decide_eq_false (by omega), cond_false, decide_eq_true (by omega), cond_true]
    obtain ⟨B, s1, s2, s3⟩ := stacks_same (n := n) (hp.nd (by omega)) (l.getD i dSStow).Spot.Bay (l.getD i dSStow).Spot.Row hl (hp.tiers hb (by omega)) hn
    have hin := inside_at hb (hp.ins (by omega) hi)
    show _ = some (!stackB ((spec_l12Stack n l (l.getD i dSStow).Spot.Bay (l.getD i dSStow).Spot.Row).getD []) (bays.getD (l.getD i dSStow).Spot.Bay.toNat dSHatch).Most)
    rw [s1, Option.bind_some, ix_of hin.1 hin.2.1, bd_eq, stack_spec _ _ (by omega) hn, Option.bind_some, Option.getD_some]
  · rw [decide_eq_false (by omega), cond_false, decide_eq_false (by omega), cond_false, decide_eq_false (by omega), cond_false, decide_eq_false (by omega), cond_false, decide_eq_false (by omega), cond_false, decide_eq_true (by omega), cond_true]
    have hin := inside_at hb (hp.ins (by omega) hi)
    rw [cold_spec l _ (by omega) hn, Option.bind_some, ix_of hin.1 hin.2.1, bd_eq]
    show _ = some ((l.getD i dSStow).Box.Cold && _)
    cases (l.getD i dSStow).Box.Cold <;> rfl
  · rw [decide_eq_false (by omega), cond_false, decide_eq_false (by omega), cond_false, decide_eq_false (by omega), cond_false, decide_eq_false (by omega), cond_false, decide_eq_false (by omega), cond_false, decide_eq_false (by omega), cond_false]
    rw [loop_all (len := i) (p := fun k => !(!keepsV (l.getD k dSStow).Box (l.getD k dSStow).Spot (l.getD i dSStow).Box (l.getD i dSStow).Spot)) (no := some true) (yes := some false) (by omega) (fun k J hk' _ => ?_) (fun J _ => ?_) (by omega)]
    · exact any_all
    · have e2 : w64 ((k : Int) + 1) = ((k + 1 : Nat) : Int) := w64_succ (by omega)
      have hk2 : k < l.length := by omega
      unfold spec_l12Fails_L22 spec_l12Fails_k1
      rw [decide_eq_true (by omega), cond_true, ix_nat hk2, bd_eq, Int.toNat_natCast, ix_nat hk2, bd_eq, (keeps_spec _ _ _ _ hn).1, Option.bind_some, e2]
      cases keepsV (l.getD k dSStow).Box (l.getD k dSStow).Spot (l.getD i dSStow).Box (l.getD i dSStow).Spot <;> rfl
    · unfold spec_l12Fails_L22
      rw [decide_eq_false (by omega), cond_false]
/-! ### The same, told by the built one -/
theorem contains2 {n : Nat} (l : List SStow) (s : SStow) (hl : l.length ≤ 100000000) (hn : 1000000000 < n) : sContains_StowCode_2_1 n l s = some ((List.range l.length).any fun k => decide ((l.getD k dSStow).Box.Name = s.Box.Name) || spEq (l.getD k dSStow).Spot s.Spot) := by
  unfold sContains_StowCode_2_1 sIndex_StowCode_2_1
  rw [loop_idx (len := l.length) (p := fun k => decide ((l.getD k dSStow).Box.Name = s.Box.Name) || spEq (l.getD k dSStow).Spot s.Spot) (by omega) (fun k J hk _ => ?_) (fun J _ => ?_) (by omega), Option.bind_some, idxOf_ge]
  · have e2 : w64 ((k : Int) + 1) = ((k + 1 : Nat) : Int) := w64_succ (by omega)
    unfold sIndex_StowCode_2_1_L2 impl_StowCode_2_1
    rw [decide_eq_true (by omega), cond_true, ix_nat hk, bd_eq, Int.toNat_natCast, ← spEq, e2]
    generalize decide ((l.getD k dSStow).Box.Name = s.Box.Name) = a
    generalize spEq (l.getD k dSStow).Spot s.Spot = b
    cases a <;> cases b <;> rfl
  · unfold sIndex_StowCode_2_1_L2
    rw [decide_eq_false (by omega), cond_false]
theorem contains4 {n : Nat} (l : List SStow) (s : SSpot) (hl : l.length ≤ 100000000) (hn : 1000000000 < n) : sContains_StowCode_4_1 n l s = some ((List.range l.length).any fun k => spEq (l.getD k dSStow).Spot s) := by
  unfold sContains_StowCode_4_1 sIndex_StowCode_4_1
  rw [loop_idx (len := l.length) (p := fun k => spEq (l.getD k dSStow).Spot s) (by omega) (fun k J hk _ => ?_) (fun J _ => ?_) (by omega), Option.bind_some, idxOf_ge]
  · have e2 : w64 ((k : Int) + 1) = ((k + 1 : Nat) : Int) := w64_succ (by omega)
    unfold sIndex_StowCode_4_1_L2 impl_StowCode_4_1
    rw [decide_eq_true (by omega), cond_true, ix_nat hk, bd_eq, Int.toNat_natCast, ← spEq, e2, Option.bind_some]
  · unfold sIndex_StowCode_4_1_L2
    rw [decide_eq_false (by omega), cond_false]
theorem contains7 {n : Nat} (l : List SStow) (s : SStow) (hl : l.length ≤ 100000000) (hn : 1000000000 < n) : sContains_StowCode_7_1 n l s = some ((List.range l.length).any fun k => !keepsV (l.getD k dSStow).Box (l.getD k dSStow).Spot s.Box s.Spot) := by
  unfold sContains_StowCode_7_1 sIndex_StowCode_7_1
  rw [loop_idx (len := l.length) (p := fun k => !keepsV (l.getD k dSStow).Box (l.getD k dSStow).Spot s.Box s.Spot) (by omega) (fun k J hk _ => ?_) (fun J _ => ?_) (by omega), Option.bind_some, idxOf_ge]
  · have e2 : w64 ((k : Int) + 1) = ((k + 1 : Nat) : Int) := w64_succ (by omega)
    unfold sIndex_StowCode_7_1_L2 impl_StowCode_7_1
    rw [decide_eq_true (by omega), cond_true, ix_nat hk, bd_eq, Int.toNat_natCast, (keeps_spec _ _ _ _ hn).2, Option.bind_some, Option.bind_some, e2]
  · unfold sIndex_StowCode_7_1_L2
    rw [decide_eq_false (by omega), cond_false]
theorem cold_impl {n : Nat} (l : List SStow) (bays : List SHatch) (s : SStow) (i : Int) (hl : l.length ≤ 100000000) (hn : 1000000000 < n) (hs : 0 ≤ s.Spot.Bay ∧ s.Spot.Bay < (bays.length : Int)) : impl_StowCode_6 n i s l bays = some (s.Box.Cold && decide (coldU l s.Spot.Bay l.length > (bays.getD s.Spot.Bay.toNat dSHatch).Plugs)) := by
  unfold impl_StowCode_6
  refine loop_runS (enc := fun k (s : Int) => (s, k)) (I := fun k x => x = coldU l s.Spot.Bay k) (Q := fun r => r = some (s.Box.Cold && decide (coldU l s.Spot.Bay l.length > (bays.getD s.Spot.Bay.toNat dSHatch).Plugs))) (len := l.length) (fun k x J hk hI => ⟨_, rfl, ?_⟩) (fun x J hI => ?_) (by omega) rfl
  · have e : w64 ((k : Int) + 1) = ((k + 1 : Nat) : Int) := w64_succ (by omega)
    show impl_StowCode_6_L3 n _ (fun n42 t43 => J (n42, t43)) bays x l (l.length : Int) (k : Int) s = _
    unfold impl_StowCode_6_L3
    rw [decide_eq_true (by omega), cond_true, ix_nat hk, bd_eq, Int.toNat_natCast, e, hI]
    show _ = J (bif decide ((l.getD k dSStow).Spot.Bay = s.Spot.Bay) && (l.getD k dSStow).Box.Cold then w64 (coldU l s.Spot.Bay k + 1) else coldU l s.Spot.Bay k, ((k + 1 : Nat) : Int))
    generalize decide ((l.getD k dSStow).Spot.Bay = s.Spot.Bay) = a
    cases a <;> cases (l.getD k dSStow).Box.Cold <;> rfl
  · show impl_StowCode_6_L3 n _ (fun n42 t43 => J (n42, t43)) bays x l (l.length : Int) (l.length : Int) s = _
    unfold impl_StowCode_6_L3
    rw [decide_eq_false (by omega), cond_false, hI]
    dsimp only
    rw [ix_of hs.1 hs.2, bd_eq]
    cases s.Box.Cold <;> rfl
end Go.Sm
end

section
set_option linter.unusedVariables false
set_option linter.unusedSimpArgs false
namespace Go.Sm
attribute [local irreducible] bd chk ix loopN
theorem impl_f1 (n : Nat) (l : List SStow) (i : Nat) (hn : 1000000000 < n) : impl_StowCode_1 n (i : Int) (l.getD i dSStow) = some (!boxB (l.getD i dSStow).Box) := by
  unfold impl_StowCode_1
  rw [boxB_impl _ hn]; rfl
theorem impl_f2 (n : Nat) (l : List SStow) {i : Nat} (hi : i < l.length) (hl : l.length ≤ 40) (hn : 1000000000 < n) : impl_StowCode_2 n (i : Int) (l.getD i dSStow) l = some ((List.range i).any fun k => decide ((l.getD k dSStow).Box.Name = (l.getD i dSStow).Box.Name) || spEq (l.getD k dSStow).Spot (l.getD i dSStow).Spot) := by
  unfold impl_StowCode_2
  rw [chk_dec (by omega), chk_dec (by omega), Int.toNat_natCast, contains2 _ _ (by rw [List.length_take]; omega) hn, Option.bind_some, take_any (α := Nat) (by omega) (c := fun x => decide (x.Box.Name = (l.getD i dSStow).Box.Name) || spEq x.Spot (l.getD i dSStow).Spot)]
theorem impl_f3 (n : Nat) {bays : List SHatch} (hb : hatchesB bays = true) (l : List SStow) (i : Nat) : impl_StowCode_3 n (i : Int) (l.getD i dSStow) bays = some (!insideB bays (l.getD i dSStow).Spot) := by
  obtain ⟨b1, b2, b3⟩ := hatchesB_at hb
  have e1 : w64 ((bays.length : Int) - 1) = (bays.length : Int) - 1 := w64_id (by omega) (by omega)
  unfold impl_StowCode_3 insideB
  rw [bd_eq, in_implB, Option.bind_some]
  by_cases c : 0 ≤ (l.getD i dSStow).Spot.Bay ∧ (l.getD i dSStow).Spot.Bay ≤ w64 ((bays.length : Int) - 1)
  · rw [decide_eq_true c, Bool.not_true, cond_false, Bool.true_and]
    rw [e1] at c
    rw [ix_of c.1 (by omega), bd_eq, bd_eq, in_implB, Option.bind_some, ix_of c.1 (by omega), bd_eq, bd_eq, in_implB, Option.bind_some]
    generalize decide (0 ≤ (l.getD i dSStow).Spot.Row ∧ (l.getD i dSStow).Spot.Row ≤ w64 ((bays.getD (l.getD i dSStow).Spot.Bay.toNat dSHatch).Rows - 1)) = a
    cases a <;> rfl
  · rw [decide_eq_false c]; rfl
theorem impl_f4 (n : Nat) (l : List SStow) (i : Nat) (ht : 0 ≤ (l.getD i dSStow).Spot.Tier ∧ (l.getD i dSStow).Spot.Tier < 20) (hl : l.length ≤ 40) (hn : 1000000000 < n) : impl_StowCode_4 n (i : Int) (l.getD i dSStow) l = some (decide ((l.getD i dSStow).Spot.Tier > 0) && !((List.range l.length).any fun k => spEq (l.getD k dSStow).Spot ⟨(l.getD i dSStow).Spot.Bay, (l.getD i dSStow).Spot.Row, w64 ((l.getD i dSStow).Spot.Tier - 1)⟩)) := by
  unfold impl_StowCode_4
  have e1 : w64 ((l.getD i dSStow).Spot.Tier - 1) = (l.getD i dSStow).Spot.Tier - 1 := w64_id (by omega) (by omega)
  have e2 : decide (w64 ((l.getD i dSStow).Spot.Tier - 1) ≥ 0) = decide ((l.getD i dSStow).Spot.Tier > 0) := by
    rw [e1, decide_eq_decide]; omega
  rw [bd_eq, e2, contains4 l _ (by omega) hn, Option.bind_some]
  generalize decide ((l.getD i dSStow).Spot.Tier > 0) = a
  cases a <;> rfl
theorem impl_f5 {n : Nat} {bays : List SHatch} {l : List SStow} (hnd : nd l) (hl : l.length ≤ 40) (ht : ∀ x ∈ l, 0 ≤ x.Spot.Tier ∧ x.Spot.Tier < 20) {i : Nat} (hs : 0 ≤ (l.getD i dSStow).Spot.Bay ∧ (l.getD i dSStow).Spot.Bay < (bays.length : Int)) (hn : 1000000000 < n) : impl_StowCode_5 n (i : Int) (l.getD i dSStow) l bays = some (!stackB ((spec_l12Stack n l (l.getD i dSStow).Spot.Bay (l.getD i dSStow).Spot.Row).getD []) (bays.getD (l.getD i dSStow).Spot.Bay.toNat dSHatch).Most) := by
  obtain ⟨B, s1, s2, s3⟩ := stacks_same (n := n) hnd (l.getD i dSStow).Spot.Bay (l.getD i dSStow).Spot.Row hl ht hn
  unfold impl_StowCode_5
  rw [s1, s2, Option.bind_some, ix_of hs.1 hs.2, bd_eq, stack_impl _ _ (by omega) hn, Option.bind_some, Option.getD_some]
theorem impl_f7 (n : Nat) (l : List SStow) {i : Nat} (hi : i < l.length) (hl : l.length ≤ 40) (hn : 1000000000 < n) : impl_StowCode_7 n (i : Int) (l.getD i dSStow) l = some ((List.range i).any fun k => !keepsV (l.getD k dSStow).Box (l.getD k dSStow).Spot (l.getD i dSStow).Box (l.getD i dSStow).Spot) := by
  unfold impl_StowCode_7
  rw [chk_dec (by omega), chk_dec (by omega), Int.toNat_natCast, contains7 _ _ (by rw [List.length_take]; omega) hn, Option.bind_some, take_any (α := Nat) (by omega) (c := fun x => !keepsV x.Box x.Spot (l.getD i dSStow).Box (l.getD i dSStow).Spot)]
def tab (bays : List SHatch) (l : List SStow) : List SAnon113 := [(⟨(1 : Int), (⟨0, [], []⟩ : SFn112)⟩ : SAnon113), (⟨(2 : Int), (⟨1, l, []⟩ : SFn112)⟩ : SAnon113), (⟨(3 : Int), (⟨2, [], bays⟩ : SFn112)⟩ : SAnon113), (⟨(4 : Int), (⟨3, l, []⟩ : SFn112)⟩ : SAnon113), (⟨(5 : Int), (⟨4, l, bays⟩ : SFn112)⟩ : SAnon113), (⟨(6 : Int), (⟨5, l, bays⟩ : SFn112)⟩ : SAnon113), (⟨(7 : Int), (⟨6, l, []⟩ : SFn112)⟩ : SAnon113)]
theorem impl_fl {R : Type} {n : Nat} {bays : List SHatch} {l : List SStow} (kx : Option R) (kxr : Int → Int → Option R) (J : Int → Option R) (t10 t11 t13 : Int) (hb : hatchesB bays = true) (hl : l.length ≤ 40) (hn : 1000000000 < n) {k : Nat} (hk : k < 7) (hp : Past n bays l k) {i : Nat} (hi : i < l.length) :
    impl_StowCode_k0 n kx kxr J l t10 t11 l t13 (i : Int) ((tab bays l).getD k dSAnon113) (tab bays l) = bif fl n bays l k i then kxr ((k + 1 : Nat) : Int) (i : Int) else J ((i + 1 : Nat) : Int) := by
  have e : w64 ((i : Int) + 1) = ((i + 1 : Nat) : Int) := w64_succ (by omega)
  unfold impl_StowCode_k0
  rw [ix_nat hi, bd_eq, Int.toNat_natCast, e]
  rcases (show k = 0 ∨ k = 1 ∨ k = 2 ∨ k = 3 ∨ k = 4 ∨ k = 5 ∨ k = 6 by omega) with e | e | e | e | e | e | e <;> subst e
  · show (impl_StowCode_1 n (i : Int) (l.getD i dSStow)).bind _ = _
    rw [impl_f1 n l i hn, Option.bind_some]; rfl
  · show (impl_StowCode_2 n (i : Int) (l.getD i dSStow) l).bind _ = _
    rw [impl_f2 n l hi hl hn, Option.bind_some]; rfl
  · show (impl_StowCode_3 n (i : Int) (l.getD i dSStow) bays).bind _ = _
    rw [impl_f3 n hb l i, Option.bind_some]; rfl
  · have hin := inside_at hb (hp.ins (by omega) hi)
    show (impl_StowCode_4 n (i : Int) (l.getD i dSStow) l).bind _ = _
    rw [impl_f4 n l i hin.2.2 hl hn, Option.bind_some]; rfl
  · have hin := inside_at hb (hp.ins (by omega) hi)
    show (impl_StowCode_5 n (i : Int) (l.getD i dSStow) l bays).bind _ = _
    rw [impl_f5 (hp.nd (by omega)) hl (hp.tiers hb (by omega)) ⟨hin.1, hin.2.1⟩ hn, Option.bind_some]; rfl
  · have hin := inside_at hb (hp.ins (by omega) hi)
    show (impl_StowCode_6 n (i : Int) (l.getD i dSStow) l bays).bind _ = _
    rw [cold_impl l bays _ _ (by omega) hn ⟨hin.1, hin.2.1⟩, Option.bind_some]; rfl
  · show (impl_StowCode_7 n (i : Int) (l.getD i dSStow) l).bind _ = _
    rw [impl_f7 n l hi hl hn, Option.bind_some]; rfl
def firstF (n : Nat) (bays : List SHatch) (l : List SStow) (k : Nat) : Option Nat := (List.range l.length).find? (fl n bays l k)
theorem past_of {n : Nat} {bays : List SHatch} {l : List SStow} {k : Nat} (h : ∀ j, j < k → (firstF n bays l j).isSome = false) : Past n bays l k := fun j hj i hi => by
  have := h j hj
  unfold firstF at this
  rcases find_range (fl n bays l j) l.length with ⟨h1, h2⟩ | ⟨u, h1, _⟩
  · exact h2 i hi
  · rw [h1] at this; cases this
def stowV (n : Nat) (bays : List SHatch) (l : List SStow) : Int × Int := bif hatchesB bays && decide (l.length ≤ 40) then ((List.range 7).find? fun k => (firstF n bays l k).isSome).elim (0, 0) (fun k => (firstF n bays l k).elim (0, 0) fun i => (((k + 1 : Nat) : Int), (i : Int))) else (1, 0)
theorem stow_spec {n : Nat} (bays : List SHatch) (l : List SStow) (hbl : bays.length ≤ 100000000) (hn : 1000000000 < n) : spec_StowCode n bays l = some (stowV n bays l) := by
  unfold spec_StowCode stowV
  rw [hatches_spec bays hbl hn, Option.bind_some]
  cases hb : hatchesB bays with
  | false => rfl
  | true =>
    rw [Bool.not_true, cond_false, Bool.true_and]
    by_cases hl : l.length ≤ 40
    · rw [decide_eq_false (by omega), cond_false, decide_eq_true hl, cond_true]
      have key : loopN (fun (x : Int) J' => spec_StowCode_L4 n (some ((0 : Int), (0 : Int))) (fun t28 t29 => some (t28, t29)) J' bays l x) n (((0 + 1 : Nat)) : Int) = ((List.range 7).find? fun k => (firstF n bays l k).isSome).elim (some ((0 : Int), (0 : Int))) (fun k => (firstF n bays l k).elim none fun i => some (((k + 1 : Nat) : Int), (i : Int))) := by
        refine loop_findE (enc := fun k => ((k + 1 : Nat) : Int)) (fun k J hk hpast => ?_) (fun J => ?_) (by omega)
        · have hp := past_of hpast
          have e2 : w64 (((k + 1 : Nat) : Int) + 1) = ((k + 1 + 1 : Nat) : Int) := w64_succ (by omega)
          unfold spec_StowCode_L4
          rw [decide_eq_true (by omega), cond_true]
          have hin : loopN (fun (x : Int) J' => spec_StowCode_L7 n (bd (w64 (((k + 1 : Nat) : Int) + 1)) fun v19 => J v19) (fun t20 => (fun t28 t29 => some (t28, t29)) ((k + 1 : Nat) : Int) t20) J' bays l ((k + 1 : Nat) : Int) x) n ((0 : Nat) : Int) = (firstF n bays l k).elim (J ((k + 1 + 1 : Nat) : Int)) (fun i => some (((k + 1 : Nat) : Int), (i : Int))) := by
            refine loop_findE (enc := fun i => ((i : Nat) : Int)) (fun i J' hi _ => ?_) (fun J' => ?_) (by omega)
            · have e : w64 ((i : Int) + 1) = ((i + 1 : Nat) : Int) := w64_succ (by omega)
              unfold spec_StowCode_L7
              rw [decide_eq_true (by omega), cond_true, spec_fl hb hl hn hk hp hi, Option.bind_some, e]
            · unfold spec_StowCode_L7
              rw [decide_eq_false (by omega), cond_false, bd_eq, e2]
          refine hin.trans ?_
          cases firstF n bays l k <;> rfl
        · unfold spec_StowCode_L4
          rw [decide_eq_false (by omega), cond_false]
      refine (show _ = _ from key).trans ?_
      cases hf : (List.range 7).find? fun k => (firstF n bays l k).isSome with
      | none => rfl
      | some k =>
        have := List.find?_some hf
        show (firstF n bays l k).elim none _ = some ((firstF n bays l k).elim _ _)
        cases hk : firstF n bays l k with
        | none => rw [hk] at this; cases this
        | some i => rfl
    · rw [decide_eq_true (by omega), cond_true, decide_eq_false hl]; rfl
theorem stow_impl {n : Nat} (bays : List SHatch) (l : List SStow) (hbl : bays.length ≤ 100000000) (hn : 1000000000 < n) : impl_StowCode n bays l = some (stowV n bays l) := by
  unfold impl_StowCode stowV
  rw [hatches_impl bays hbl hn, Option.bind_some]
  cases hb : hatchesB bays with
  | false => rfl
  | true =>
    rw [Bool.not_true, cond_false, Bool.true_and]
    by_cases hl : l.length ≤ 40
    · rw [decide_eq_false (by omega), cond_false, decide_eq_true hl, cond_true]
      have key : loopN (fun (x : Int) J' => impl_StowCode_L4 n (some ((0 : Int), (0 : Int))) (fun t39 t40 => some (t39, t40)) J' l (7 : Int) x (tab bays l)) n ((0 : Nat) : Int) = ((List.range 7).find? fun k => (firstF n bays l k).isSome).elim (some ((0 : Int), (0 : Int))) (fun k => (firstF n bays l k).elim none fun i => some (((k + 1 : Nat) : Int), (i : Int))) := by
        refine loop_findE (enc := fun k => ((k : Nat) : Int)) (fun k J hk hpast => ?_) (fun J => ?_) (by omega)
        · have hp := past_of hpast
          have hkt : k < (tab bays l).length := hk
          have e2 : w64 ((k : Int) + 1) = ((k + 1 : Nat) : Int) := w64_succ (by omega)
          unfold impl_StowCode_L4 impl_StowCode_k1
          rw [decide_eq_true (by omega), cond_true, ix_nat hkt, Int.toNat_natCast, chk_dec hkt, bd_eq, decide_eq_false (Nat.not_lt_zero _), cond_false, e2]
          have hin : loopN (fun (x : Int) J' => impl_StowCode_L7 n (J ((k + 1 : Nat) : Int)) (fun t36 t37 => (fun t39 t40 => some (t39, t40)) t36 t37) J' l (7 : Int) (k : Int) l (l.length : Int) x ((tab bays l).getD k dSAnon113) (tab bays l)) n ((0 : Nat) : Int) = (firstF n bays l k).elim (J ((k + 1 : Nat) : Int)) (fun i => some (((k + 1 : Nat) : Int), (i : Int))) := by
            refine loop_findE (enc := fun i => ((i : Nat) : Int)) (fun i J' hi _ => ?_) (fun J' => ?_) (by omega)
            · unfold impl_StowCode_L7
              rw [decide_eq_true (by omega), cond_true]
              exact impl_fl _ _ J' _ _ _ hb hl hn hk hp hi
            · unfold impl_StowCode_L7
              rw [decide_eq_false (by omega), cond_false]
          refine hin.trans ?_
          cases firstF n bays l k <;> rfl
        · unfold impl_StowCode_L4
          rw [decide_eq_false (by omega), cond_false]
      refine (show impl_StowCode_k2 n bays l = _ from key).trans ?_
      cases hf : (List.range 7).find? fun k => (firstF n bays l k).isSome with
      | none => rfl
      | some k =>
        have := List.find?_some hf
        show (firstF n bays l k).elim none _ = some ((firstF n bays l k).elim _ _)
        cases hk : firstF n bays l k with
        | none => rw [hk] at this; cases this
        | some i => rfl
    · rw [decide_eq_true (by omega), cond_true, decide_eq_false hl]; rfl
/-! ### At a port -/
theorem own_stow {n : Nat} (l : List SStow) (hl : l.length ≤ 4000000) : impl_own_impl_Stow n l = some l := by
  unfold impl_own_impl_Stow
  rw [chk_dec (by omega), chk_dec (by omega), chk_dec (by omega)]
end Go.Sm
end

section
set_option linter.unusedVariables false
set_option linter.unusedSimpArgs false
namespace Go.Sm
attribute [local irreducible] bd chk ix loopN
/-! ### How many lie on top of one that leaves first -/
def ovB (a b : SStow) : Bool := decide (a.Spot.Bay = b.Spot.Bay) && (decide (a.Spot.Row = b.Spot.Row) && (decide (a.Spot.Tier > b.Spot.Tier) && decide (a.Box.To > b.Box.To)))
def ovA (l : List SStow) (i : Nat) (s : Int) : Nat → Int
  | 0 => s
  | k + 1 => bif ovB (l.getD i dSStow) (l.getD k dSStow) then ovA l i s k + 1 else ovA l i s k
def ovU (l : List SStow) : Nat → Int
  | 0 => 0
  | i + 1 => ovA l i (ovU l i) l.length
def ovV (l : List SStow) : Int := ovU l l.length
theorem ovA_rng (l : List SStow) (i : Nat) (s : Int) : ∀ k, s ≤ ovA l i s k ∧ ovA l i s k ≤ s + (k : Int)
  | 0 => ⟨Int.le_refl _, by unfold ovA; omega⟩
  | k + 1 => by
    have := ovA_rng l i s k
    unfold ovA
    cases ovB (l.getD i dSStow) (l.getD k dSStow)
    · rw [cond_false]; omega
    · rw [cond_true]; omega
theorem ovU_rng (l : List SStow) (hl : l.length ≤ 40) : ∀ i, 0 ≤ ovU l i ∧ ovU l i ≤ 40 * (i : Int)
  | 0 => ⟨Int.le_refl _, Int.le_refl _⟩
  | i + 1 => by
    have h1 := ovU_rng l hl i
    have h2 := ovA_rng l i (ovU l i) l.length
    show 0 ≤ ovA l i (ovU l i) l.length ∧ ovA l i (ovU l i) l.length ≤ _
    omega
theorem ovV_nn {l : List SStow} (hl : l.length ≤ 40) : 0 ≤ ovV l := (ovU_rng l hl _).1
theorem ovA_next {R : Type} {l : List SStow} {i k : Nat} {s : Int} {J : Int → Option R} (h : 0 ≤ ovA l i s k ∧ ovA l i s k ≤ 100000000) : (bif ovB (l.getD i dSStow) (l.getD k dSStow) then J (w64 (ovA l i s k + (1 : Int))) else J (ovA l i s k)) = J (ovA l i s (k + 1)) := by
  show _ = J (bif ovB (l.getD i dSStow) (l.getD k dSStow) then ovA l i s k + 1 else ovA l i s k)
  rw [w64_id (by omega) (by omega)]
  cases ovB (l.getD i dSStow) (l.getD k dSStow) <;> rfl
theorem over_spec {n : Nat} {l : List SStow} (hl : l.length ≤ 40) (hn : 1000000000 < n) : spec_l12Over n l = some (ovV l) := by
  unfold spec_l12Over
  refine loop_runS (enc := fun k (s : Int) => (s, k)) (I := fun k s => s = ovU l k) (Q := fun r => r = some (ovV l)) (len := l.length) (fun i s J hi hI => ⟨_, rfl, ?_⟩) (fun s J hI => ?_) (by omega) rfl
  · have e : w64 ((i : Int) + 1) = ((i + 1 : Nat) : Int) := w64_succ (by omega)
    have hU := ovU_rng l hl i
    unfold spec_l12Over_L3
    rw [decide_eq_true (by omega), cond_true, e]
    refine loop_runS (enc := fun k (s : Int) => (s, k)) (I := fun k t => t = ovA l i s k) (Q := fun r => r = J (ovU l (i + 1), ((i + 1 : Nat) : Int))) (len := l.length) (fun k t J' hk hI' => ⟨_, rfl, ?_⟩) (fun t J' hI' => ?_) (by omega) rfl
    · have e2 : w64 ((k : Int) + 1) = ((k + 1 : Nat) : Int) := w64_succ (by omega)
      have hA := ovA_rng l i s k
      unfold spec_l12Over_L6 spec_l12Over_k0
      rw [decide_eq_true (by omega), cond_true, ix_nat hi, bd_eq, ix_nat hk, bd_eq, Int.toNat_natCast, Int.toNat_natCast, e2, hI']
      simp only [bif_and']
      exact ovA_next (J := fun v => J' (v, ((k + 1 : Nat) : Int))) (by rw [hI] at hA ⊢; omega)
    · unfold spec_l12Over_L6
      rw [decide_eq_false (by omega), cond_false, hI', hI]; rfl
  · unfold spec_l12Over_L3
    rw [decide_eq_false (by omega), cond_false, hI]; rfl
theorem over_at (n : Nat) (a b : SSpot) : impl_over n a b = some (decide (a.Bay = b.Bay) && (decide (a.Row = b.Row) && decide (a.Tier > b.Tier))) := by
  unfold impl_over
  simp only [bif_sf]
theorem over_impl {n : Nat} {l : List SStow} (hl : l.length ≤ 40) (hn : 1000000000 < n) : impl_overstows n l = some (ovV l) := by
  unfold impl_overstows
  refine loop_runS (enc := fun k (s : Int) => (s, k)) (I := fun k s => s = ovU l k) (Q := fun r => r = some (ovV l)) (len := l.length) (fun i s J hi hI => ⟨_, rfl, ?_⟩) (fun s J hI => ?_) (by omega) rfl
  · have e : w64 ((i : Int) + 1) = ((i + 1 : Nat) : Int) := w64_succ (by omega)
    have hU := ovU_rng l hl i
    unfold impl_overstows_L3
    rw [decide_eq_true (by omega), cond_true, ix_nat hi, bd_eq, Int.toNat_natCast, e]
    refine loop_runS (enc := fun k (s : Int) => (s, k)) (I := fun k t => t = ovA l i s k) (Q := fun r => r = J (ovU l (i + 1), ((i + 1 : Nat) : Int))) (len := l.length) (fun k t J' hk hI' => ⟨_, rfl, ?_⟩) (fun t J' hI' => ?_) (by omega) rfl
    · have e2 : w64 ((k : Int) + 1) = ((k + 1 : Nat) : Int) := w64_succ (by omega)
      have hA := ovA_rng l i s k
      unfold impl_overstows_L6 impl_overstows_k0
      rw [decide_eq_true (by omega), cond_true, ix_nat hk, bd_eq, Int.toNat_natCast, over_at, Option.bind_some, e2, hI', bif_and', Bool.and_assoc, Bool.and_assoc]
      exact ovA_next (J := fun v => J' (v, ((k + 1 : Nat) : Int))) (by rw [hI] at hA ⊢; omega)
    · unfold impl_overstows_L6
      rw [decide_eq_false (by omega), cond_false, hI', hI]; rfl
  · unfold impl_overstows_L3
    rw [decide_eq_false (by omega), cond_false, hI]; rfl
/-! ### The spots -/
def tiersL (b r : Int) : Nat → List SSpot → List SSpot
  | 0, s => s
  | t + 1, s => tiersL b r t s ++ [⟨b, r, (t : Int)⟩]
def rowsL (b : Int) (T : Nat) : Nat → List SSpot → List SSpot
  | 0, s => s
  | r + 1, s => tiersL b (r : Int) T (rowsL b T r s)
def baysL (bays : List SHatch) : Nat → List SSpot
  | 0 => []
  | b + 1 => rowsL (b : Int) (bays.getD b dSHatch).Tiers.toNat (bays.getD b dSHatch).Rows.toNat (baysL bays b)
theorem tiersL_len (b r : Int) (s : List SSpot) : ∀ t, (tiersL b r t s).length = s.length + t
  | 0 => rfl
  | t + 1 => by unfold tiersL; rw [List.length_append, tiersL_len b r s t]; rfl
theorem rowsL_len (b : Int) {T : Nat} (hT : T ≤ 6) (s : List SSpot) : ∀ r, (rowsL b T r s).length ≤ s.length + 6 * r
  | 0 => Nat.le_refl _
  | r + 1 => by
    have := rowsL_len b hT s r
    show (tiersL b (r : Int) T (rowsL b T r s)).length ≤ _
    rw [tiersL_len]; omega
theorem baysL_len {bays : List SHatch} (hb : hatchesB bays = true) : ∀ b, b ≤ bays.length → (baysL bays b).length ≤ 36 * b
  | 0, _ => Nat.le_refl _
  | b + 1, h => by
    have h1 := baysL_len hb b (by omega)
    have h2 := (hatchesB_at hb).2.2 b (by omega)
    have h3 := rowsL_len (b : Int) (T := (bays.getD b dSHatch).Tiers.toNat) (by omega) (baysL bays b) (bays.getD b dSHatch).Rows.toNat
    show (rowsL (b : Int) (bays.getD b dSHatch).Tiers.toNat (bays.getD b dSHatch).Rows.toNat (baysL bays b)).length ≤ _
    omega
theorem spots_spec {R : Type} {n : Nat} {bays : List SHatch} {boxes : List SBox} {K : List SSpot → Option R} (hb : hatchesB bays = true) (hn : 1000000000 < n) : loopN (fun (x : Int × List SSpot) J' => spec_Fewest_L15 n K (fun b65 spots66 => J' (b65, spots66)) bays boxes x.1 x.2) n ((0 : Int), []) = K (baysL bays bays.length) := by
  have h6 := hatchesB_at hb
  refine loop_runS (enc := fun k (s : List SSpot) => (k, s)) (I := fun k s => s = baysL bays k) (Q := fun r => r = K (baysL bays bays.length)) (len := bays.length) (fun b s J hk hI => ⟨_, rfl, ?_⟩) (fun s J hI => ?_) (by omega) rfl
  · have e : w64 ((b : Int) + 1) = ((b + 1 : Nat) : Int) := w64_succ (by omega)
    have hh := h6.2.2 b hk
    have hL := baysL_len hb b (by omega)
    unfold spec_Fewest_L15
    rw [decide_eq_true (by omega), cond_true, e]
    refine loop_runS (enc := fun k (s : List SSpot) => (k, s)) (I := fun k t => t = rowsL (b : Int) (bays.getD b dSHatch).Tiers.toNat k s) (Q := fun r => r = J (((b + 1 : Nat) : Int), baysL bays (b + 1))) (len := (bays.getD b dSHatch).Rows.toNat) (fun r t J' hr hI' => ⟨_, rfl, ?_⟩) (fun t J' hI' => ?_) (by omega) rfl
    · have e2 : w64 ((r : Int) + 1) = ((r + 1 : Nat) : Int) := w64_succ (by omega)
      have hR := rowsL_len (b : Int) (T := (bays.getD b dSHatch).Tiers.toNat) (by omega) s r
      unfold spec_Fewest_L18
      rw [ix_nat hk, bd_eq, Int.toNat_natCast, decide_eq_true (by omega), cond_true, e2]
      refine loop_runS (enc := fun k (s : List SSpot) => (k, s)) (I := fun k u => u = tiersL (b : Int) (r : Int) k t) (Q := fun q => q = J' (((r + 1 : Nat) : Int), rowsL (b : Int) (bays.getD b dSHatch).Tiers.toNat (r + 1) s)) (len := (bays.getD b dSHatch).Tiers.toNat) (fun z u J2 hz hI2 => ⟨_, rfl, ?_⟩) (fun u J2 hI2 => ?_) (by omega) rfl
      · have e3 : w64 ((z : Int) + 1) = ((z + 1 : Nat) : Int) := w64_succ (by omega)
        have hT := tiersL_len (b : Int) (r : Int) t z
        unfold spec_Fewest_L21
        rw [ix_nat hk, bd_eq, Int.toNat_natCast, decide_eq_true (by omega), cond_true, bd_eq, chk_dec (by rw [List.length_append, hI2, hT, hI', List.length_singleton]; rw [hI] at hR ⊢; omega), e3, hI2]; rfl
      · unfold spec_Fewest_L21
        rw [ix_nat hk, bd_eq, Int.toNat_natCast, decide_eq_false (by omega), cond_false, hI2, hI']; rfl
    · unfold spec_Fewest_L18
      rw [ix_nat hk, bd_eq, Int.toNat_natCast, decide_eq_false (by omega), cond_false, hI', hI]; rfl
  · unfold spec_Fewest_L15
    rw [decide_eq_false (by omega), cond_false, hI]
theorem spots_impl {R : Type} {n : Nat} {bays : List SHatch} {boxes : List SBox} {K : List SSpot → Option R} (hb : hatchesB bays = true) (hn : 1000000000 < n) : loopN (fun (x : Int × List SSpot) J' => impl_Fewest_L11 n K (fun t68 c69 => J' (t68, c69)) bays (bays.length : Int) x.1 bays boxes x.2) n ((0 : Int), []) = K (baysL bays bays.length) := by
  have h6 := hatchesB_at hb
  refine loop_runS (enc := fun k (s : List SSpot) => (k, s)) (I := fun k s => s = baysL bays k) (Q := fun r => r = K (baysL bays bays.length)) (len := bays.length) (fun b s J hk hI => ⟨_, rfl, ?_⟩) (fun s J hI => ?_) (by omega) rfl
  · have e : w64 ((b : Int) + 1) = ((b + 1 : Nat) : Int) := w64_succ (by omega)
    have hh := h6.2.2 b hk
    have hL := baysL_len hb b (by omega)
    unfold impl_Fewest_L11 impl_Fewest_k1
    rw [decide_eq_true (by omega), cond_true, ix_nat hk, bd_eq, Int.toNat_natCast, e]
    refine loop_runS (enc := fun k (s : List SSpot) => (k, s)) (I := fun k t => t = rowsL (b : Int) (bays.getD b dSHatch).Tiers.toNat k s) (Q := fun r => r = J (((b + 1 : Nat) : Int), baysL bays (b + 1))) (len := (bays.getD b dSHatch).Rows.toNat) (fun r t J' hr hI' => ⟨_, rfl, ?_⟩) (fun t J' hI' => ?_) (by omega) rfl
    · have e2 : w64 ((r : Int) + 1) = ((r + 1 : Nat) : Int) := w64_succ (by omega)
      have hR := rowsL_len (b : Int) (T := (bays.getD b dSHatch).Tiers.toNat) (by omega) s r
      unfold impl_Fewest_L14
      rw [decide_eq_true (by omega), cond_true, e2]
      refine loop_runS (enc := fun k (s : List SSpot) => (k, s)) (I := fun k u => u = tiersL (b : Int) (r : Int) k t) (Q := fun q => q = J' (((r + 1 : Nat) : Int), rowsL (b : Int) (bays.getD b dSHatch).Tiers.toNat (r + 1) s)) (len := (bays.getD b dSHatch).Tiers.toNat) (fun z u J2 hz hI2 => ⟨_, rfl, ?_⟩) (fun u J2 hI2 => ?_) (by omega) rfl
      · have e3 : w64 ((z : Int) + 1) = ((z + 1 : Nat) : Int) := w64_succ (by omega)
        have hT := tiersL_len (b : Int) (r : Int) t z
        unfold impl_Fewest_L17
        rw [decide_eq_true (by omega), cond_true, bd_eq, chk_dec (by rw [List.length_append, hI2, hT, hI', List.length_singleton]; rw [hI] at hR ⊢; omega), e3, hI2]; rfl
      · unfold impl_Fewest_L17
        rw [decide_eq_false (by omega), cond_false, hI2, hI']; rfl
    · unfold impl_Fewest_L14
      rw [decide_eq_false (by omega), cond_false, hI', hI]; rfl
  · unfold impl_Fewest_L11
    rw [decide_eq_false (by omega), cond_false, hI]
end Go.Sm
end

section
set_option linter.unusedVariables false
set_option linter.unusedSimpArgs false
namespace Go.Sm
attribute [local irreducible] bd chk ix loopN
/-! ### The search -/
def usedB (so : List SStow) (p : SSpot) : Bool := (List.range so.length).any fun k => spEq (so.getD k dSStow).Spot p
def leafV (n : Nat) (bays : List SHatch) (so : List SStow) (st : Int × List SStow) : Int × List SStow :=
  bif decide ((stowV n bays so).1 = 0) then (bif decide (st.1 < 0) then (ovV so, so) else bif decide (ovV so < st.1) then (ovV so, so) else st) else st
def seekL (f : SSpot → Int × List SStow → Int × List SStow) (so : List SStow) (spots : List SSpot) (st : Int × List SStow) : Nat → Int × List SStow
  | 0 => st
  | k + 1 => bif !usedB so (spots.getD k dSSpot) then f (spots.getD k dSSpot) (seekL f so spots st k) else seekL f so spots st k
def seekV (n : Nat) (bays : List SHatch) (boxes : List SBox) (spots : List SSpot) : Nat → List SStow → Int × List SStow → Int × List SStow
  | 0, so, st => leafV n bays so st
  | m + 1, so, st => seekL (fun p s => seekV n bays boxes spots m (so ++ [⟨boxes.getD so.length dSBox, p⟩]) s) so spots st spots.length
theorem containsF {n : Nat} (l : List SStow) (s : SSpot) (hl : l.length ≤ 100000000) (hn : 1000000000 < n) : sContains_Fewest_2_1 n l s = some (usedB l s) := by
  unfold sContains_Fewest_2_1 sIndex_Fewest_2_1
  rw [loop_idx (len := l.length) (p := fun k => spEq (l.getD k dSStow).Spot s) (by omega) (fun k J hk _ => ?_) (fun J _ => ?_) (by omega), Option.bind_some, idxOf_ge]
  · rfl
  · have e2 : w64 ((k : Int) + 1) = ((k + 1 : Nat) : Int) := w64_succ (by omega)
    unfold sIndex_Fewest_2_1_L2 impl_Fewest_2_1
    rw [decide_eq_true (by omega), cond_true, ix_nat hk, bd_eq, Int.toNat_natCast, ← spEq, e2, Option.bind_some]
  · unfold sIndex_Fewest_2_1_L2
    rw [decide_eq_false (by omega), cond_false]
theorem seek_impl {n : Nat} {bays : List SHatch} {boxes : List SBox} {spots : List SSpot} (hb : bays.length ≤ 100000000) (hx : boxes.length ≤ 5) (hs : spots.length ≤ 1000) (hn : 1000000000 < n) :
    ∀ (m M : Nat) (so : List SStow) (st : Int × List SStow), so.length + m = boxes.length → m < M → impl_Fewest_2__self_r n M so boxes bays st.1 st.2 spots = some (seekV n bays boxes spots m so st)
  | _, 0, _, _, _, h => absurd h (Nat.not_lt_zero _)
  | 0, M + 1, so, st, hm, _ => by
    show impl_Fewest_2__self_b n (impl_Fewest_2__self_r n M) so boxes bays st.1 st.2 spots = some (leafV n bays so st)
    unfold impl_Fewest_2__self_b leafV
    rw [decide_eq_true (by omega), cond_true, stow_impl bays so hb hn, Option.bind_some, over_impl (by omega) hn, own_stow so (by omega)]
    cases decide ((stowV n bays so).1 = 0)
    · rfl
    · cases decide (st.1 < 0)
      · simp only [cond_true, cond_false, Option.bind_some]
        cases decide (ovV so < st.1) <;> rfl
      · rfl
  | m + 1, M + 1, so, st, hm, hM => by
    show impl_Fewest_2__self_b n (impl_Fewest_2__self_r n M) so boxes bays st.1 st.2 spots = some (seekL (fun p s => seekV n bays boxes spots m (so ++ [⟨boxes.getD so.length dSBox, p⟩]) s) so spots st spots.length)
    unfold impl_Fewest_2__self_b
    rw [decide_eq_false (by omega), cond_false]
    refine loop_runS (enc := fun k (s : Int × List SStow) => (k, s.1, s.2)) (I := fun k s => s = seekL (fun p s => seekV n bays boxes spots m (so ++ [⟨boxes.getD so.length dSBox, p⟩]) s) so spots st k) (Q := fun r => r = some (seekL (fun p s => seekV n bays boxes spots m (so ++ [⟨boxes.getD so.length dSBox, p⟩]) s) so spots st spots.length)) (len := spots.length) (n := n) (s0 := st) (fun k s J hk hI => ⟨_, rfl, ?_⟩) (fun s J hI => ?_) (by omega) rfl
    · have e : w64 ((k : Int) + 1) = ((k + 1 : Nat) : Int) := w64_succ (by omega)
      have hso : so.length < boxes.length := by omega
      have hstep : seekL (fun p s => seekV n bays boxes spots m (so ++ [⟨boxes.getD so.length dSBox, p⟩]) s) so spots st (k + 1) = bif !usedB so (spots.getD k dSSpot) then seekV n bays boxes spots m (so ++ [⟨boxes.getD so.length dSBox, spots.getD k dSSpot⟩]) s else s := by
        rw [hI]; rfl
      rw [hstep]
      dsimp only
      unfold impl_Fewest_2__self_L7 impl_Fewest_2__self_k0
      rw [decide_eq_true (by omega), cond_true, ix_nat hk, bd_eq, Int.toNat_natCast, containsF so _ (by omega) hn, Option.bind_some, e]
      cases usedB so (spots.getD k dSSpot)
      · rw [Bool.not_false, cond_true, cond_true, chk_dec (by omega), chk_dec (by omega), chk_dec (by omega), ix_nat hso, bd_eq, Int.toNat_natCast, List.take_length, chk_dec (by rw [List.length_append, List.length_singleton]; omega),
          seek_impl hb hx hs hn m M (so ++ [(⟨boxes.getD so.length dSBox, spots.getD k dSSpot⟩ : SStow)]) s (by rw [List.length_append, List.length_singleton]; omega) (by omega), Option.bind_some]
      · rfl
    · dsimp only
      unfold impl_Fewest_2__self_L7
      rw [decide_eq_false (by omega), cond_false, hI]
/-! ### What it finds -/
/-- Boxes laid in their order, at spots of these, none twice. -/
structure PartF (boxes : List SBox) (spots : List SSpot) (l : List SStow) : Prop where
  len : l.length ≤ boxes.length
  box : ∀ i, i < l.length → (l.getD i dSStow).Box = boxes.getD i dSBox
  spot : ∀ i, i < l.length → (l.getD i dSStow).Spot ∈ spots
  nd : nd l
theorem getD_snoc {l : List SStow} {x : SStow} {i : Nat} : (l ++ [x]).getD i dSStow = if i < l.length then l.getD i dSStow else if i = l.length then x else dSStow := by
  split
  · next h => simp [List.getD, List.getElem?_append_left h]
  · next h =>
    split
    · next h2 => subst h2; simp [List.getD]
    · next h2 => simp [List.getD, List.getElem?_append_right (show l.length ≤ i by omega), List.getElem?_eq_none (l := [x]) (show [x].length ≤ i - l.length by simp; omega)]
theorem usedB_no {so : List SStow} {p : SSpot} (h : usedB so p = false) {i : Nat} (hi : i < so.length) : spEq (so.getD i dSStow).Spot p = false := by
  unfold usedB at h
  rw [List.any_eq_false] at h
  have := h i (List.mem_range.2 hi)
  simpa using this
theorem PartF.snoc {boxes : List SBox} {spots : List SSpot} {so : List SStow} (h : PartF boxes spots so) (hl : so.length < boxes.length) {p : SSpot} (hp : p ∈ spots) (hu : usedB so p = false) : PartF boxes spots (so ++ [⟨boxes.getD so.length dSBox, p⟩]) := by
  refine ⟨by rw [List.length_append, List.length_singleton]; omega, fun i hi => ?_, fun i hi => ?_, fun i k hi hk => ?_⟩
  all_goals rw [List.length_append, List.length_singleton] at hi
  · rw [getD_snoc]
    by_cases c : i < so.length
    · rw [if_pos c]; exact h.box i c
    · rw [if_neg c, if_pos (by omega), show i = so.length by omega]
  · rw [getD_snoc]
    by_cases c : i < so.length
    · rw [if_pos c]; exact h.spot i c
    · rw [if_neg c, if_pos (by omega)]; exact hp
  · rw [getD_snoc, getD_snoc, if_pos (show k < so.length by omega)]
    by_cases c : i < so.length
    · rw [if_pos c]; exact h.nd i k c hk
    · rw [if_neg c, if_pos (by omega)]; exact usedB_no hu (by omega)
structure FoundF (n : Nat) (bays : List SHatch) (boxes : List SBox) (spots : List SSpot) (st : Int × List SStow) : Prop where
  neg : st.1 < 0 → st.2 = []
  part : 0 ≤ st.1 → PartF boxes spots st.2
  len : 0 ≤ st.1 → st.2.length = boxes.length
  ok : 0 ≤ st.1 → (stowV n bays st.2).1 = 0
  ov : 0 ≤ st.1 → st.1 = ovV st.2
theorem leaf_ok {n : Nat} {bays : List SHatch} {boxes : List SBox} {spots : List SSpot} {so : List SStow} {st : Int × List SStow} (hx : boxes.length ≤ 5) (h : PartF boxes spots so) (hl : so.length = boxes.length) (hst : FoundF n bays boxes spots st) :
    FoundF n bays boxes spots (leafV n bays so st) ∧ (0 ≤ st.1 → 0 ≤ (leafV n bays so st).1 ∧ (leafV n bays so st).1 ≤ st.1) ∧ ((stowV n bays so).1 = 0 → 0 ≤ (leafV n bays so st).1 ∧ (leafV n bays so st).1 ≤ ovV so) := by
  have h0 := ovV_nn (l := so) (by omega)
  unfold leafV
  by_cases c : (stowV n bays so).1 = 0
  · have hF : FoundF n bays boxes spots (ovV so, so) := ⟨fun hh => absurd hh (by show ¬ ovV so < 0; omega), fun _ => h, fun _ => hl, fun _ => c, fun _ => rfl⟩
    rw [decide_eq_true c, cond_true]
    by_cases d : st.1 < 0
    · rw [decide_eq_true d, cond_true]
      exact ⟨hF, fun hh => absurd hh (by omega), fun _ => ⟨h0, Int.le_refl _⟩⟩
    · rw [decide_eq_false d, cond_false]
      by_cases e : ovV so < st.1
      · rw [decide_eq_true e, cond_true]
        exact ⟨hF, fun _ => ⟨h0, Int.le_of_lt e⟩, fun _ => ⟨h0, Int.le_refl _⟩⟩
      · rw [decide_eq_false e, cond_false]
        exact ⟨hst, fun hh => ⟨hh, Int.le_refl _⟩, fun _ => ⟨by omega, by omega⟩⟩
  · rw [decide_eq_false c, cond_false]
    exact ⟨hst, fun hh => ⟨hh, Int.le_refl _⟩, fun hh => absurd hh c⟩
theorem seek_ok {n : Nat} {bays : List SHatch} {boxes : List SBox} {spots : List SSpot} (hx : boxes.length ≤ 5) :
    ∀ (m : Nat) (so : List SStow) (st : Int × List SStow), so.length + m = boxes.length → PartF boxes spots so → FoundF n bays boxes spots st →
      FoundF n bays boxes spots (seekV n bays boxes spots m so st) ∧ (0 ≤ st.1 → 0 ≤ (seekV n bays boxes spots m so st).1 ∧ (seekV n bays boxes spots m so st).1 ≤ st.1) ∧
      ∀ l, PartF boxes spots l → l.length = boxes.length → l.take so.length = so → (stowV n bays l).1 = 0 → 0 ≤ (seekV n bays boxes spots m so st).1 ∧ (seekV n bays boxes spots m so st).1 ≤ ovV l
  | 0, so, st, hm, hp, hst => by
    obtain ⟨h1, h2, h3⟩ := leaf_ok hx hp (by omega) hst
    refine ⟨h1, h2, fun l hl hll ht hok => ?_⟩
    have : l = so := by rw [← ht, List.take_of_length_le (by omega)]
    subst this
    exact h3 hok
  | m + 1, so, st, hm, hp, hst => by
    have key : ∀ k, k ≤ spots.length → FoundF n bays boxes spots (seekL (fun p s => seekV n bays boxes spots m (so ++ [⟨boxes.getD so.length dSBox, p⟩]) s) so spots st k) ∧
        (0 ≤ st.1 → 0 ≤ (seekL (fun p s => seekV n bays boxes spots m (so ++ [⟨boxes.getD so.length dSBox, p⟩]) s) so spots st k).1 ∧ (seekL (fun p s => seekV n bays boxes spots m (so ++ [⟨boxes.getD so.length dSBox, p⟩]) s) so spots st k).1 ≤ st.1) ∧
        ∀ l, PartF boxes spots l → l.length = boxes.length → l.take so.length = so → (stowV n bays l).1 = 0 → (∃ j, j < k ∧ spots.getD j dSSpot = (l.getD so.length dSStow).Spot) →
          0 ≤ (seekL (fun p s => seekV n bays boxes spots m (so ++ [⟨boxes.getD so.length dSBox, p⟩]) s) so spots st k).1 ∧ (seekL (fun p s => seekV n bays boxes spots m (so ++ [⟨boxes.getD so.length dSBox, p⟩]) s) so spots st k).1 ≤ ovV l := by
      intro k
      induction k with
      | zero => intro _; exact ⟨hst, fun hh => ⟨hh, Int.le_refl _⟩, fun l _ _ _ _ hj => by obtain ⟨j, hj, _⟩ := hj; exact absurd hj (Nat.not_lt_zero _)⟩
      | succ k ih =>
        intro hk
        obtain ⟨i1, i2, i3⟩ := ih (by omega)
        generalize hS : seekL (fun p s => seekV n bays boxes spots m (so ++ [⟨boxes.getD so.length dSBox, p⟩]) s) so spots st k = S at i1 i2 i3
        have hstep : seekL (fun p s => seekV n bays boxes spots m (so ++ [⟨boxes.getD so.length dSBox, p⟩]) s) so spots st (k + 1) = bif !usedB so (spots.getD k dSSpot) then seekV n bays boxes spots m (so ++ [⟨boxes.getD so.length dSBox, spots.getD k dSSpot⟩]) S else S := by
          rw [← hS]; rfl
        rw [hstep]
        have hmem : spots.getD k dSSpot ∈ spots := getD_mem (by omega)
        cases hu : usedB so (spots.getD k dSSpot) with
        | true =>
          rw [Bool.not_true, cond_false]
          refine ⟨i1, i2, fun l hl hll ht hok hj => ?_⟩
          obtain ⟨j, hj, he⟩ := hj
          by_cases c : j < k
          · exact i3 l hl hll ht hok ⟨j, c, he⟩
          · exfalso
            have : j = k := by omega
            subst this
            unfold usedB at hu
            rw [List.any_eq_true] at hu
            obtain ⟨u, hu1, hu2⟩ := hu
            have hu1 := List.mem_range.1 hu1
            have := hl.nd so.length u (by omega) hu1
            rw [← he] at this
            have hg : l.getD u dSStow = so.getD u dSStow := by rw [← ht]; simp [List.getD, List.getElem?_take, hu1]
            rw [hg, hu2] at this
            cases this
        | false =>
          rw [Bool.not_false, cond_true]
          obtain ⟨j1, j2, j3⟩ := seek_ok hx m (so ++ [⟨boxes.getD so.length dSBox, spots.getD k dSSpot⟩]) S (by rw [List.length_append, List.length_singleton]; omega) (hp.snoc (by omega) hmem hu) i1
          refine ⟨j1, fun hh => ?_, fun l hl hll ht hok hj => ?_⟩
          · have a := i2 hh
            have b := j2 a.1
            exact ⟨b.1, by omega⟩
          · obtain ⟨j, hj, he⟩ := hj
            by_cases c : j < k
            · have a := i3 l hl hll ht hok ⟨j, c, he⟩
              have b := j2 a.1
              exact ⟨b.1, by omega⟩
            · have : j = k := by omega
              subst this
              refine j3 l hl hll ?_ hok
              have hlt : so.length < l.length := by omega
              rw [List.length_append, List.length_singleton, take_succ_getD (d := dSStow) hlt, ht]
              congr 2
              have hb := hl.box so.length hlt
              rw [he, ← hb]
    obtain ⟨k1, k2, k3⟩ := key spots.length (Nat.le_refl _)
    refine ⟨k1, k2, fun l hl hll ht hok => k3 l hl hll ht hok ?_⟩
    have := hl.spot so.length (by omega)
    obtain ⟨j, hj, he⟩ := List.getElem_of_mem this
    exact ⟨j, hj, by rw [getD_eq hj]; exact he⟩
theorem seek_spec {n : Nat} {bays : List SHatch} {boxes : List SBox} {spots : List SSpot} (hb : bays.length ≤ 100000000) (hx : boxes.length ≤ 5) (hs : spots.length ≤ 1000) (hn : 1000000000 < n) :
    ∀ (m M : Nat) (so : List SStow) (st : Int × List SStow), so.length + m = boxes.length → m < M → PartF boxes spots so → FoundF n bays boxes spots st → spec_l12Seek_r n M bays boxes spots so st.2 (decide (0 ≤ st.1)) = some ((seekV n bays boxes spots m so st).2, decide (0 ≤ (seekV n bays boxes spots m so st).1))
  | _, 0, _, _, _, h, _, _ => absurd h (Nat.not_lt_zero _)
  | 0, M + 1, so, st, hm, _, hp, hst => by
    show spec_l12Seek_b n (spec_l12Seek_r n M) bays boxes spots so st.2 (decide (0 ≤ st.1)) = some ((leafV n bays so st).2, decide (0 ≤ (leafV n bays so st).1))
    have h0 := ovV_nn (l := so) (by omega)
    unfold spec_l12Seek_b leafV
    rw [decide_eq_true (by omega), cond_true, stow_spec bays so hb hn, Option.bind_some]
    cases decide ((stowV n bays so).1 = 0)
    · rfl
    · rw [cond_true, cond_true, chk_dec (by omega)]
      by_cases c : 0 ≤ st.1
      · have hl := hst.len c
        rw [decide_eq_true c, Bool.not_true, cond_false, over_spec (by omega) hn, over_spec (by omega) hn, Option.bind_some, Option.bind_some, ← hst.ov c, decide_eq_false (show ¬ st.1 < 0 by omega), cond_false]
        by_cases d : ovV so < st.1
        · rw [decide_eq_true d, cond_true, cond_true, decide_eq_true (show 0 ≤ (ovV so, so).1 from h0)]
        · rw [decide_eq_false d, cond_false, cond_false, decide_eq_true c]
      · rw [decide_eq_false c, Bool.not_false, cond_true, decide_eq_true (show st.1 < 0 by omega), cond_true, decide_eq_true (show 0 ≤ (ovV so, so).1 from h0)]
  | m + 1, M + 1, so, st, hm, hM, hp, hst => by
    show spec_l12Seek_b n (spec_l12Seek_r n M) bays boxes spots so st.2 (decide (0 ≤ st.1)) = some ((seekL (fun p s => seekV n bays boxes spots m (so ++ [⟨boxes.getD so.length dSBox, p⟩]) s) so spots st spots.length).2, decide (0 ≤ (seekL (fun p s => seekV n bays boxes spots m (so ++ [⟨boxes.getD so.length dSBox, p⟩]) s) so spots st spots.length).1))
    unfold spec_l12Seek_b
    rw [decide_eq_false (by omega), cond_false]
    refine loop_runS (enc := fun k (s : Int × List SStow) => (decide (0 ≤ s.1), k, s.2)) (I := fun k s => s = seekL (fun p s => seekV n bays boxes spots m (so ++ [⟨boxes.getD so.length dSBox, p⟩]) s) so spots st k ∧ FoundF n bays boxes spots s) (Q := fun r => r = some ((seekL (fun p s => seekV n bays boxes spots m (so ++ [⟨boxes.getD so.length dSBox, p⟩]) s) so spots st spots.length).2, decide (0 ≤ (seekL (fun p s => seekV n bays boxes spots m (so ++ [⟨boxes.getD so.length dSBox, p⟩]) s) so spots st spots.length).1))) (len := spots.length) (n := n) (s0 := st) (fun k s J hk hI => ?_) (fun s J hI => ?_) (by omega) ⟨rfl, hst⟩
    · have e : w64 ((k : Int) + 1) = ((k + 1 : Nat) : Int) := w64_succ (by omega)
      have hso : so.length < boxes.length := by omega
      obtain ⟨hI, hF⟩ := hI
      have hmem : spots.getD k dSSpot ∈ spots := getD_mem hk
      have hstep : seekL (fun p s => seekV n bays boxes spots m (so ++ [⟨boxes.getD so.length dSBox, p⟩]) s) so spots st (k + 1) = bif !usedB so (spots.getD k dSSpot) then seekV n bays boxes spots m (so ++ [⟨boxes.getD so.length dSBox, spots.getD k dSSpot⟩]) s else s := by
        rw [hI]; rfl
      have hun : spec_l12Seek_L7 n (spec_l12Seek_r n M) (fun has48 best49 => some (best49, has48)) (fun has50 i51 best52 => J (has50, i51, best52)) bays boxes spots so (decide (0 ≤ s.1)) (k : Int) s.2 = (bif !usedB so (spots.getD k dSSpot) then (spec_l12Seek_r n M bays boxes spots (so ++ [⟨boxes.getD so.length dSBox, spots.getD k dSSpot⟩]) s.2 (decide (0 ≤ s.1))).bind fun r36 => J (r36.2, ((k + 1 : Nat) : Int), r36.1) else J (decide (0 ≤ s.1), ((k + 1 : Nat) : Int), s.2)) := by
        unfold spec_l12Seek_L7 spec_l12Seek_k0
        rw [decide_eq_true (by omega), cond_true, ix_nat hk, bd_eq, Int.toNat_natCast, l12At_idx so _ (by omega) hn, Option.bind_some, idxOf_lt, e, chk_dec (by omega), ix_nat hso, bd_eq, Int.toNat_natCast, ix_nat hk, bd_eq, bd_eq, chk_dec (by rw [List.length_append, List.length_singleton]; omega)]
        rfl
      cases hu : usedB so (spots.getD k dSSpot) with
      | true =>
        rw [hu, Bool.not_true, cond_false] at hstep hun
        exact ⟨s, ⟨hstep.symm, hF⟩, hun⟩
      | false =>
        rw [hu, Bool.not_false, cond_true] at hstep hun
        have hp' := hp.snoc hso hmem hu
        have hl' : (so ++ [(⟨boxes.getD so.length dSBox, spots.getD k dSSpot⟩ : SStow)]).length + m = boxes.length := by rw [List.length_append, List.length_singleton]; omega
        refine ⟨seekV n bays boxes spots m (so ++ [⟨boxes.getD so.length dSBox, spots.getD k dSSpot⟩]) s, ⟨hstep.symm, (seek_ok hx m _ s hl' hp' hF).1⟩, hun.trans ?_⟩
        rw [seek_spec hb hx hs hn m M _ s hl' (by omega) hp' hF, Option.bind_some]
    · obtain ⟨hI, hF⟩ := hI
      dsimp only
      unfold spec_l12Seek_L7
      rw [decide_eq_false (by omega), cond_false, hI]
end Go.Sm
end

section
set_option linter.unusedVariables false
set_option linter.unusedSimpArgs false
namespace Go.Sm
attribute [local irreducible] bd chk ix loopN
/-! ### The whole -/
def boxesB (boxes : List SBox) : Bool := (List.range boxes.length).all fun i => boxB (boxes.getD i dSBox) && !((List.range i).any fun k => decide ((boxes.getD k dSBox).Name = (boxes.getD i dSBox).Name))
def bestV (n : Nat) (bays : List SHatch) (boxes : List SBox) : Int × List SStow := seekV n bays boxes (baysL bays bays.length) boxes.length [] (-1, [])
def fewV (n : Nat) (bays : List SHatch) (boxes : List SBox) : List SStow × Bool :=
  bif decide (boxes.length ≤ 5) && (hatchesB bays && boxesB boxes) then (bif decide ((baysL bays bays.length).length ≤ 8) then ((bestV n bays boxes).2, decide (0 ≤ (bestV n bays boxes).1)) else ([], false)) else ([], false)
theorem partF_nil (boxes : List SBox) (spots : List SSpot) : PartF boxes spots [] := ⟨Nat.zero_le _, fun i hi => absurd hi (Nat.not_lt_zero _), fun i hi => absurd hi (Nat.not_lt_zero _), fun i k hi _ => absurd hi (Nat.not_lt_zero _)⟩
theorem found_nil (n : Nat) (bays : List SHatch) (boxes : List SBox) (spots : List SSpot) : FoundF n bays boxes spots (-1, []) := ⟨fun _ => rfl, fun h => absurd h (by show ¬ (0 : Int) ≤ -1; omega), fun h => absurd h (by show ¬ (0 : Int) ≤ -1; omega), fun h => absurd h (by show ¬ (0 : Int) ≤ -1; omega), fun h => absurd h (by show ¬ (0 : Int) ≤ -1; omega)⟩
theorem containsN {n : Nat} (l : List SBox) (b : SBox) (hl : l.length ≤ 100000000) (hn : 1000000000 < n) : sContains_Fewest_1 n l b = some ((List.range l.length).any fun k => decide ((l.getD k dSBox).Name = b.Name)) := by
  unfold sContains_Fewest_1 sIndex_Fewest_1
  rw [loop_idx (len := l.length) (p := fun k => decide ((l.getD k dSBox).Name = b.Name)) (by omega) (fun k J hk _ => ?_) (fun J _ => ?_) (by omega), Option.bind_some, idxOf_ge]
  · have e2 : w64 ((k : Int) + 1) = ((k + 1 : Nat) : Int) := w64_succ (by omega)
    unfold sIndex_Fewest_1_L2 impl_Fewest_1
    rw [decide_eq_true (by omega), cond_true, ix_nat hk, bd_eq, Int.toNat_natCast, e2, Option.bind_some]
  · unfold sIndex_Fewest_1_L2
    rw [decide_eq_false (by omega), cond_false]
theorem range_any_congr {p q : Nat → Bool} : ∀ m, (∀ k, k < m → p k = q k) → (List.range m).any p = (List.range m).any q
  | 0, _ => rfl
  | m + 1, h => by rw [any_range_succ, any_range_succ, range_any_congr m fun k hk => h k (by omega), h m (by omega)]
theorem takeN {l : List SBox} {i : Nat} (hi : i ≤ l.length) {b : SBox} : ((List.range (l.take i).length).any fun k => decide (((l.take i).getD k dSBox).Name = b.Name)) = (List.range i).any fun k => decide ((l.getD k dSBox).Name = b.Name) := by
  rw [List.length_take, Nat.min_eq_left hi]
  refine range_any_congr _ fun k hk => ?_
  have : (l.take i).getD k dSBox = l.getD k dSBox := by simp [List.getD, List.getElem?_take, hk]
  rw [this]
theorem any_not_all {m : Nat} {q : Nat → Bool} : (List.range m).all (fun k => !q k) = !(List.range m).any q := by
  induction m with
  | zero => rfl
  | succ m ih => rw [all_range_succ, any_range_succ, ih]; cases (List.range m).any q <;> cases q m <;> rfl
theorem fewest_impl {n : Nat} (bays : List SHatch) (boxes : List SBox) (hb : bays.length ≤ 100000000) (hx : boxes.length ≤ 100000000) (hn : 1000000000 < n) : impl_Fewest n bays boxes = some (fewV n bays boxes) := by
  unfold impl_Fewest fewV
  by_cases h5 : boxes.length ≤ 5
  case neg => rw [decide_eq_true (by omega), cond_true, decide_eq_false h5]; rfl
  rw [decide_eq_false (by omega), cond_false, hatches_impl bays hb hn, Option.bind_some, decide_eq_true h5, Bool.true_and]
  cases hB : hatchesB bays with
  | false => rfl
  | true =>
    rw [Bool.not_true, cond_false, Bool.true_and]
    unfold impl_Fewest_k2
    rw [loop_all (len := boxes.length) (p := fun i => boxB (boxes.getD i dSBox) && !((List.range i).any fun k => decide ((boxes.getD k dSBox).Name = (boxes.getD i dSBox).Name))) (no := some ([], false)) (yes := some (bif decide ((baysL bays bays.length).length ≤ 8) then ((bestV n bays boxes).2, decide (0 ≤ (bestV n bays boxes).1)) else ([], false))) (by omega) (fun i J hi _ => ?_) (fun J _ => ?_) (by omega)]
    · show (bif boxesB boxes then _ else _) = _
      cases boxesB boxes <;> rfl
    · have e : w64 ((i : Int) + 1) = ((i + 1 : Nat) : Int) := w64_succ (by omega)
      unfold impl_Fewest_L4 impl_Fewest_k0
      rw [decide_eq_true (by omega), cond_true, ix_nat hi, bd_eq, Int.toNat_natCast, boxB_impl _ hn, Option.bind_some, chk_dec (by omega), chk_dec (by omega), containsN _ _ (by rw [List.length_take]; omega) hn, Option.bind_some, takeN (by omega), e]
      cases boxB (boxes.getD i dSBox)
      · rfl
      · dsimp only [Bool.not_true, cond_false, Bool.true_and]
        cases (List.range i).any fun k => decide ((boxes.getD k dSBox).Name = (boxes.getD i dSBox).Name) <;> rfl
    · unfold impl_Fewest_L4
      rw [decide_eq_false (by omega), cond_false, spots_impl hB hn]
      by_cases c : (baysL bays bays.length).length ≤ 8
      · have hs := seek_impl (n := n) (bays := bays) (boxes := boxes) (spots := baysL bays bays.length) hb h5 (by omega) hn boxes.length n [] (-1, []) (by simp) (by omega)
        rw [decide_eq_false (by omega), cond_false, decide_eq_true c, cond_true]
        unfold impl_Fewest_2__self
        rw [hs, Option.bind_some]; rfl
      · rw [decide_eq_true (by omega), cond_true, decide_eq_false c, cond_false]
theorem fewest_spec {n : Nat} (bays : List SHatch) (boxes : List SBox) (hb : bays.length ≤ 100000000) (hx : boxes.length ≤ 100000000) (hn : 1000000000 < n) : spec_Fewest n bays boxes = some (fewV n bays boxes) := by
  unfold spec_Fewest fewV
  rw [hatches_spec bays hb hn, Option.bind_some]
  cases hB : hatchesB bays with
  | false => rw [Bool.false_and, Bool.and_false]; rfl
  | true =>
    rw [Bool.not_true, cond_false, Bool.true_and]
    by_cases h5 : boxes.length ≤ 5
    case neg => rw [decide_eq_true (by omega), cond_true, decide_eq_false h5]; rfl
    rw [decide_eq_false (by omega), cond_false, decide_eq_true h5, Bool.true_and]
    unfold spec_Fewest_k1
    rw [loop_all (len := boxes.length) (p := fun i => boxB (boxes.getD i dSBox) && !((List.range i).any fun k => decide ((boxes.getD k dSBox).Name = (boxes.getD i dSBox).Name))) (no := some ([], false)) (yes := some (bif decide ((baysL bays bays.length).length ≤ 8) then ((bestV n bays boxes).2, decide (0 ≤ (bestV n bays boxes).1)) else ([], false))) (by omega) (fun i J hi _ => ?_) (fun J _ => ?_) (by omega)]
    · show (bif boxesB boxes then _ else _) = _
      cases boxesB boxes <;> rfl
    · have e : w64 ((i : Int) + 1) = ((i + 1 : Nat) : Int) := w64_succ (by omega)
      unfold spec_Fewest_L4 spec_Fewest_k0
      rw [decide_eq_true (by omega), cond_true, ix_nat hi, bd_eq, Int.toNat_natCast, boxB_spec _ hn, Option.bind_some, e]
      rw [loop_all (len := i) (p := fun k => !decide ((boxes.getD k dSBox).Name = (boxes.getD i dSBox).Name)) (no := some ([], false)) (yes := bif !boxB (boxes.getD i dSBox) then some ([], false) else J ((i + 1 : Nat) : Int)) (by omega) (fun k J' hk _ => ?_) (fun J' _ => ?_) (by omega)]
      · rw [any_not_all]
        cases boxB (boxes.getD i dSBox) <;> cases (List.range i).any fun k => decide ((boxes.getD k dSBox).Name = (boxes.getD i dSBox).Name) <;> rfl
      · have e2 : w64 ((k : Int) + 1) = ((k + 1 : Nat) : Int) := w64_succ (by omega)
        unfold spec_Fewest_L7
        rw [decide_eq_true (by omega), cond_true, ix_nat (show k < boxes.length by omega), bd_eq, ix_nat hi, bd_eq, Int.toNat_natCast, Int.toNat_natCast, e2]
        cases decide ((boxes.getD k dSBox).Name = (boxes.getD i dSBox).Name) <;> rfl
      · unfold spec_Fewest_L7
        rw [decide_eq_false (by omega), cond_false]
    · unfold spec_Fewest_L4
      rw [decide_eq_false (by omega), cond_false, spots_spec hB hn]
      by_cases c : (baysL bays bays.length).length ≤ 8
      · have hs := seek_spec (n := n) (bays := bays) (boxes := boxes) (spots := baysL bays bays.length) hb h5 (by omega) hn boxes.length n [] (-1, []) (by simp) (by omega) (partF_nil _ _) (found_nil _ _ _ _)
        rw [decide_eq_false (by omega), cond_false, decide_eq_true c, cond_true]
        unfold spec_l12Seek
        rw [show spec_l12Seek_r n n bays boxes (baysL bays bays.length) [] [] false = _ from hs, Option.bind_some]; rfl
      · rw [decide_eq_true (by omega), cond_true, decide_eq_false c, cond_false]
theorem few_found {n : Nat} {bays : List SHatch} {boxes : List SBox} (h5 : boxes.length ≤ 5) : FoundF n bays boxes (baysL bays bays.length) (bestV n bays boxes) :=
  (seek_ok h5 boxes.length [] (-1, []) (by simp) (partF_nil _ _) (found_nil _ _ _ _)).1
end Go.Sm
end

section
set_option linter.unusedVariables false
set_option linter.unusedSimpArgs false
namespace Go.Sm
attribute [local irreducible] bd chk ix loopN
theorem sumOf_bound {α : Type} {f : α → Nat} {c : Nat} : ∀ l : List α, (∀ x ∈ l, f x ≤ c) → sumOf f l ≤ c * l.length
  | [], _ => by simp [sumOf]
  | a :: l, h => by
    have h1 := h a List.mem_cons_self
    have h2 := sumOf_bound l fun x hx => h x (List.mem_cons_of_mem _ hx)
    simp only [sumOf, List.length_cons, Nat.mul_succ]; omega
theorem few_w {n : Nat} (bays : List SHatch) (boxes : List SBox) (h : w_LSBox boxes ≤ 1048576) : w_LSStow (fewV n bays boxes).1 ≤ 6000000 := by
  unfold fewV
  by_cases h5 : boxes.length ≤ 5
  case neg => rw [decide_eq_false h5]; exact Nat.zero_le _
  rw [decide_eq_true h5, Bool.true_and]
  cases hatchesB bays && boxesB boxes
  · exact Nat.zero_le _
  · by_cases c : (baysL bays bays.length).length ≤ 8
    case neg => rw [decide_eq_false c]; exact Nat.zero_le _
    rw [decide_eq_true c]
    have hF := few_found (n := n) (bays := bays) h5
    show w_LSStow (bestV n bays boxes).2 ≤ 6000000
    by_cases d : 0 ≤ (bestV n bays boxes).1
    · have hp := hF.part d
      have hl := hp.len
      have hb : sumOf (fun y => w_SStow y) (bestV n bays boxes).2 ≤ 1048576 * (bestV n bays boxes).2.length := sumOf_bound _ fun x hx => by
        obtain ⟨i, i1, i2⟩ := mem_getS hx
        have hbx := hp.box i i1
        have hm : w_SBox (boxes.getD i dSBox) ≤ sumOf (fun y => w_SBox y) boxes := sumOf_mem (f := fun y => w_SBox y) (d := dSBox) (by omega)
        have hw : w_LSBox boxes = boxes.length + sumOf (fun y => w_SBox y) boxes := rfl
        show w_SBox x.Box ≤ 1048576
        rw [← i2, hbx]; omega
      have hw : w_LSStow (bestV n bays boxes).2 = (bestV n bays boxes).2.length + sumOf (fun y => w_SStow y) (bestV n bays boxes).2 := rfl
      omega
    · rw [hF.neg (by omega)]; exact Nat.zero_le _
theorem laws_FnExactFewest_true (aBays0 : List SHatch) (aBoxes1 : List SBox) (h0 : (aBays0.length ≤ 9223372036854775807 ∧ ∀ y ∈ aBays0, wfSHatch y)) (h1 : (aBoxes1.length ≤ 9223372036854775807 ∧ ∀ y ∈ aBoxes1, wfSBox y)) : ∃ n, laws_FnExactFewest n aBays0 aBoxes1 = some true := by
  refine ⟨1000000001, ?_⟩
  generalize hN : (1000000001 : Nat) = n
  have hn : 1000000000 < n := by omega
  unfold laws_FnExactFewest
  rw [laws_szHatchS_ok aBays0 h0 (by omega) (by omega) hn, Option.bind_some]
  refine guard_sz fun hw0 => ?_
  rw [if_pos (show ((w_LSHatch aBays0 : Nat) : Int) ≤ 1048576 by omega), laws_szBoxS_ok aBoxes1 h1 (by omega) (by omega) hn, Option.bind_some]
  by_cases hw1 : ((w_LSBox aBoxes1 : Nat) : Int) ≤ 1048576 - ((w_LSHatch aBays0 : Nat) : Int)
  case neg => rw [if_neg hw1]; rfl
  rw [if_pos hw1, decide_eq_false (by omega), cond_false]
  have e1 : w_LSHatch aBays0 = aBays0.length := rfl
  have e2 : w_LSBox aBoxes1 = aBoxes1.length + sumOf (fun y => w_SBox y) aBoxes1 := rfl
  have hS := fewest_spec (n := n) aBays0 aBoxes1 (by omega) (by omega) hn
  have hI := fewest_impl (n := n) aBays0 aBoxes1 (by omega) (by omega) hn
  have hR := few_w (n := n) aBays0 aBoxes1 (by omega)
  generalize fewV n aBays0 aBoxes1 = r at hS hI hR
  obtain ⟨P, b⟩ := r
  have hR : w_LSStow P ≤ 6000000 := hR
  have q1 := n_LSHatch_le aBays0
  have q2 := n_LSBox_le aBoxes1
  have q3 := n_LSStow_le P
  obtain ⟨u0, m1⟩ := laws_markHatchS_ok (n := n) aBays0 1 (by omega) (by omega) (by omega) hn
  obtain ⟨v0, m2⟩ := laws_markBoxS_ok (n := n) aBoxes1 (1 + ((n_LSHatch aBays0 : Nat) : Int)) (by omega) (by omega) (by omega) hn
  obtain ⟨w0, m3, m4⟩ := laws_markStowS_ok (n := n) P 1 (by omega) (by omega) (by omega) hn
  have d1 : decide (1 + ((n_LSHatch aBays0 : Nat) : Int) + ((n_LSBox aBoxes1 : Nat) : Int) < 0) = false := decide_eq_false (by omega)
  have d2 : decide (1 + ((n_LSStow P : Nat) : Int) < 0) = false := decide_eq_false (by omega)
  unfold laws_FnExactFewest_k3 laws_FnExactFewest_k2 laws_FnExactFewest_k1 laws_FnExactFewest_k0
  simp only [laws_toHatchS_ok aBays0 (by omega) hn, laws_toBoxS_ok aBoxes1 (by omega) hn, hS, hI, Option.bind_some, laws_eqStowS_ok P (by omega) hn, laws_eqHatchS_ok aBays0 (by omega) hn, laws_eqBoxS_ok aBoxes1 (by omega) hn, m1, m2, m3, m4, d1, d2, decide_true, Bool.not_true, beq_self_eq_true, cond_false, cond_true]
end Go.Sm
end
