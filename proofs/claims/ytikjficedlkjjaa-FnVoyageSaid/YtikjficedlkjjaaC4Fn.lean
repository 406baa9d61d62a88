import Derived.Test.YtikjficedlkjjaaEngE
import Derived.Test.YtikjficedlkjjaaEngA
/- The functions as plain functions over data, and that the law answers true for all arguments. Voyage: along a drawn call at a port what is on board is stowed well; what was to go is gone, all else is on board, and each shift stands above one that goes. -/
set_option linter.unusedSimpArgs false
set_option linter.deprecated false
set_option linter.unusedSectionVars false
set_option linter.unusedVariables false
noncomputable section
namespace Go.Sm
structure SHatch where
  Rows : Int
  Tiers : Int
  Most : Int
  Plugs : Int
structure SBox where
  Name : ByteArray
  Weight : Int
  Class : Int
  Cold : Bool
  From : Int
  To : Int
structure SSpot where
  Bay : Int
  Row : Int
  Tier : Int
structure SStow where
  Box : SBox
  Spot : SSpot
structure Sl1Cur where
  b : List Int
  i : Int
  h : Int
structure SFn116 where
  ix : Nat
  a0 : List SStow
  a1 : List SHatch
structure SAnon117 where
  code : Int
  is : SFn116
def dSHatch : SHatch := ⟨(0 : Int), (0 : Int), (0 : Int), (0 : Int)⟩
def dSBox : SBox := ⟨str [], (0 : Int), (0 : Int), false, (0 : Int), (0 : Int)⟩
def dSSpot : SSpot := ⟨(0 : Int), (0 : Int), (0 : Int)⟩
def dSStow : SStow := ⟨dSBox, dSSpot⟩
def dSl1Cur : Sl1Cur := ⟨[], (0 : Int), (0 : Int)⟩
def dSFn116 : SFn116 := ⟨999, [], []⟩
def dSAnon117 : SAnon117 := ⟨(0 : Int), dSFn116⟩
def laws_big (n : Nat) (code0 : List Int) : Option Bool :=
  some ((decide ((code0.length : Int) > (1048576 : Int))))
def spec_l1New_k0 {R : Type} (n : Nat) (kx0 : Int → Option R) (J : Int → Int → Option R) (code2 : List Int) (h8 : Int) (i9 : Int) : Option R :=
  ix i9 code2.length ((bd (w64 ((w64 (h8 * (131 : Int))) + (w64 (code2.getD i9.toNat (0 : Int))))) fun (v10 : Int) => (bd (w64 (((BitVec.ofInt 64 (w64 (v10 + (7 : Int))) &&& BitVec.ofInt 64 (1073741823 : Int)).toNat : Nat) : Int)) fun (v11 : Int) => J v11 (w64 (i9 + (1 : Int))))))
def spec_l1New_L3 {R : Type} (n : Nat) (kx0 : Int → Option R) (J : Int → Int → Option R) (code2 : List Int) (h3 : Int) (i4 : Int) : Option R :=
  (bif (decide (i4 < (code2.length : Int))) then (bif (decide (i4 < (4000 : Int))) then spec_l1New_k0 n kx0 J code2 h3 i4 else kx0 h3) else kx0 h3)
def spec_l1New (n : Nat) (code0 : List Int) : Option Sl1Cur :=
  (bd (w64 ((59059 : Int) + (code0.length : Int))) fun (v1 : Int) => loopN (fun (x : Int × Int) J' => spec_l1New_L3 n (fun h16 => some ((⟨code0, (0 : Int), h16⟩ : Sl1Cur))) (fun h17 i18 => J' (h17, i18)) code0 x.1 x.2) n (v1, (0 : Int)))
def spec_l1Byte (n : Nat) (c0 : Sl1Cur) : Option (Int × Sl1Cur) :=
  (bd (w64 (c0.h * (6364136223846793005 : Int))) fun (v1 : Int) => (bd (w64 (v1 + (1442695040888963407 : Int))) fun (v2 : Int) => (bd (Int.fdiv v2 (2 ^ (min (33 : Int).toNat 64))) fun (v3 : Int) => (bd (Int.fdiv v2 (2 ^ (min (45 : Int).toNat 64))) fun (v4 : Int) => (bd (w64 (((BitVec.ofInt 64 v3 ^^^ BitVec.ofInt 64 v4).toNat : Nat) : Int)) fun (v5 : Int) => (bd (w64 (((BitVec.ofInt 64 v5 &&& BitVec.ofInt 64 (255 : Int)).toNat : Nat) : Int)) fun (v6 : Int) => (bif (decide (c0.i < (c0.b.length : Int))) then ix c0.i c0.b.length ((bd (w64 (v6 + (w64 (c0.b.getD c0.i.toNat (0 : Int))))) fun (v7 : Int) => (bd (w64 (((BitVec.ofInt 64 v7 &&& BitVec.ofInt 64 (255 : Int)).toNat : Nat) : Int)) fun (v8 : Int) => some (v8, (⟨c0.b, (w64 (c0.i + (1 : Int))), v2⟩ : Sl1Cur))))) else some (v6, (⟨c0.b, c0.i, v2⟩ : Sl1Cur)))))))))
def spec_l1Below_k0 (n : Nat)  (n1 : Int) (p3 : Sl1Cur) : Option (Int × Sl1Cur) :=
  (spec_l1Byte n p3).bind fun r4 => (spec_l1Byte n r4.2).bind fun r5 => (spec_l1Byte n r5.2).bind fun r6 => (spec_l1Byte n r6.2).bind fun r7 => (bd (w64 (r4.1 * (16777216 : Int))) fun (v8 : Int) => (bd (w64 (r5.1 * (65536 : Int))) fun (v9 : Int) => (bd (w64 (r6.1 * (256 : Int))) fun (v10 : Int) => (bd (w64 ((w64 (v8 + v9)) + v10)) fun (v11 : Int) => (bif decide (n1 = 0) then none else (bd (Int.tmod (w64 (v11 + r7.1)) n1) fun (v12 : Int) => some (v12, r7.2)))))))
def spec_l1Below (n : Nat) (c0 : Sl1Cur) (n1 : Int) : Option (Int × Sl1Cur) :=
  (bif (decide (n1 ≤ (0 : Int))) then some ((0 : Int), c0) else (bif (decide (n1 ≤ (256 : Int))) then (spec_l1Byte n c0).bind fun r13 => (bif decide (n1 = 0) then none else some ((Int.tmod r13.1 n1), r13.2)) else spec_l1Below_k0 n  n1 c0))
def spec_l1PickInt (n : Nat) (c0 : Sl1Cur) (list1 : List Int) : Option (Int × Sl1Cur) :=
  (spec_l1Below n c0 (list1.length : Int)).bind fun r1 => ix r1.1 list1.length (some ((list1.getD r1.1.toNat (0 : Int)), r1.2))
def spec_l12DrawBays_k0 {R : Type} (n : Nat) (kx0 : Sl1Cur → List SHatch → Option R) (J : Int → Sl1Cur → List SHatch → Option R) (small2 : Bool) (i6 : Int) (p7 : Sl1Cur) (out8 : List SHatch) : Option R :=
  (spec_l1Below n p7 (3 : Int)).bind fun r9 => (spec_l1Below n r9.2 (3 : Int)).bind fun r10 => (bd (w64 ((1 : Int) + r10.1)) fun (v11 : Int) => (spec_l1Below n r10.2 (200 : Int)).bind fun r12 => (bd (w64 ((50 : Int) + r12.1)) fun (v13 : Int) => (spec_l1Below n r12.2 (4 : Int)).bind fun r14 => (bif small2 then (spec_l1Below n r14.2 (2 : Int)).bind fun r15 => (bd (w64 ((1 : Int) + r15.1)) fun (v16 : Int) => (spec_l1Below n r15.2 (2 : Int)).bind fun r17 => (bd (w64 ((1 : Int) + r17.1)) fun (v18 : Int) => (bif (decide ((out8.length : Int) = (2 : Int))) then (bd (out8 ++ [(⟨(1 : Int), (1 : Int), v13, r14.1⟩ : SHatch)]) fun (l28 : List SHatch) => chk (decide (l28.length * 32 ≤ 140737488355328)) (J (w64 (i6 - (1 : Int))) r17.2 l28)) else (bd (out8 ++ [(⟨v16, v18, v13, r14.1⟩ : SHatch)]) fun (l43 : List SHatch) => chk (decide (l43.length * 32 ≤ 140737488355328)) (J (w64 (i6 - (1 : Int))) r17.2 l43))))) else (bd (out8 ++ [(⟨(w64 ((1 : Int) + r9.1)), v11, v13, r14.1⟩ : SHatch)]) fun (l54 : List SHatch) => chk (decide (l54.length * 32 ≤ 140737488355328)) (J (w64 (i6 - (1 : Int))) r14.2 l54)))))
def spec_l12DrawBays_L3 {R : Type} (n : Nat) (kx0 : Sl1Cur → List SHatch → Option R) (J : Int → Sl1Cur → List SHatch → Option R) (small2 : Bool) (i3 : Int) (p4 : Sl1Cur) (out5 : List SHatch) : Option R :=
  (bif (decide (i3 > (0 : Int))) then spec_l12DrawBays_k0 n kx0 J small2 i3 p4 out5 else kx0 p4 out5)
def spec_l12DrawBays_L23 {R : Type} (n : Nat) (kx3 : List SHatch → Option R) (J : Int → List SHatch → Option R) (i77 : Int) (out78 : List SHatch) (p79 : Sl1Cur) : Option R :=
  (bif (decide (i77 < (out78.length : Int))) then ix i77 out78.length (chk (decide (i77.toNat < out78.length)) ((bd (out78.set i77.toNat (⟨(1 : Int), (1 : Int), (500 : Int), (0 : Int)⟩ : SHatch)) fun (l83 : List SHatch) => J (w64 (i77 + (1 : Int))) l83))) else kx3 out78)
def spec_l12DrawBays (n : Nat) (c0 : Sl1Cur) (small1 : Bool) : Option (List SHatch × Sl1Cur) :=
  (spec_l1Below n c0 (3 : Int)).bind fun r1 => loopN (fun (x : Int × Sl1Cur × List SHatch) J' => spec_l12DrawBays_L3 n (fun p58 out59 => (spec_l1Below n p58 (60 : Int)).bind fun r60 => (bif (decide (r60.1 = (0 : Int))) then (spec_l1PickInt n r60.2 [(0 : Int), (6 : Int), (7 : Int)]).bind fun r61 => ix (0 : Int) out59.length (chk (decide (0 < out59.length)) ((bd (out59.getD 0 dSHatch) fun (e62 : SHatch) => (bd (out59.set 0 (⟨r61.1, e62.Tiers, e62.Most, e62.Plugs⟩ : SHatch)) fun (l63 : List SHatch) => some (l63, r61.2))))) else (bif (decide (r60.1 = (1 : Int))) then (spec_l1PickInt n r60.2 [(-1 : Int), (1000000 : Int), (1000001 : Int)]).bind fun r66 => ix (0 : Int) out59.length (chk (decide (0 < out59.length)) ((bd (out59.getD 0 dSHatch) fun (e67 : SHatch) => (bd (out59.set 0 (⟨e67.Rows, e67.Tiers, r66.1, e67.Plugs⟩ : SHatch)) fun (l68 : List SHatch) => some (l68, r66.2))))) else (bif (decide (r60.1 = (2 : Int))) then (spec_l1PickInt n r60.2 [(-1 : Int), (36 : Int), (37 : Int)]).bind fun r71 => ix (0 : Int) out59.length (chk (decide (0 < out59.length)) ((bd (out59.getD 0 dSHatch) fun (e72 : SHatch) => (bd (out59.set 0 (⟨e72.Rows, e72.Tiers, e72.Most, r71.1⟩ : SHatch)) fun (l73 : List SHatch) => some (l73, r71.2))))) else (bif (decide (r60.1 = (3 : Int))) then (spec_l1PickInt n r60.2 [(0 : Int), (6 : Int), (7 : Int)]).bind fun r76 => chk (decide ((0 : Int) ≤ r76.1)) (chk (decide (r76.1 ≤ r76.1)) (chk (decide (r76.1 ≤ 9223372036854775807 ∧ r76.1 * (32 : Int) ≤ 281474976710656)) (loopN (fun (x : Int × List SHatch) J' => spec_l12DrawBays_L23 n (fun out84 => some (out84, r76.2)) (fun i87 out88 => J' (i87, out88)) x.1 x.2 r76.2) n ((0 : Int), (List.replicate r76.1.toNat dSHatch))))) else some (out59, r60.2)))))) (fun i91 p92 out93 => J' (i91, p92, out93)) small1 x.1 x.2.1 x.2.2) n ((w64 ((1 : Int) + r1.1)), r1.2, [])
def spec_l12At_L2 {R : Type} (n : Nat) (kx0 : Option R) (kxr : Int → Option R) (J : Int → Option R) (list1 : List SStow) (i2 : Int) (s3 : SSpot) : Option R :=
  (bif (decide (i2 < (list1.length : Int))) then ix i2 list1.length ((bd (list1.getD i2.toNat dSStow) fun (e7 : SStow) => (bif ((decide (e7.Spot.Bay = s3.Bay)) && ((decide (e7.Spot.Row = s3.Row)) && (decide (e7.Spot.Tier = s3.Tier)))) then kxr i2 else J (w64 (i2 + (1 : Int)))))) else kx0)
def spec_l12At (n : Nat) (list0 : List SStow) (s1 : SSpot) : Option Int :=
  loopN (fun (x : Int) J' => spec_l12At_L2 n (some ((-1 : Int))) (fun t9 => some (t9)) J' list0 x s1) n ((0 : Int))
def spec_l12Stack_k0 {R : Type} (n : Nat) (kx0 : List SBox → Option R) (J : Int → List SBox → Option R) (list1 : List SStow) (bay2 : Int) (row3 : Int) (t6 : Int) (out7 : List SBox) : Option R :=
  (spec_l12At n list1 (⟨bay2, row3, t6⟩ : SSpot)).bind fun r8 => (bif (decide (r8 ≥ (0 : Int))) then ix r8 list1.length ((bd (list1.getD r8.toNat dSStow) fun (e9 : SStow) => chk (decide ((out7 ++ [e9.Box]).length * 56 ≤ 140737488355328)) (J (w64 (t6 + (1 : Int))) (out7 ++ [e9.Box])))) else J (w64 (t6 + (1 : Int))) out7)
def spec_l12Stack_L3 {R : Type} (n : Nat) (kx0 : List SBox → Option R) (J : Int → List SBox → Option R) (list1 : List SStow) (bay2 : Int) (row3 : Int) (t4 : Int) (out5 : List SBox) : Option R :=
  (bif (decide (t4 < (20 : Int))) then spec_l12Stack_k0 n kx0 J list1 bay2 row3 t4 out5 else kx0 out5)
def spec_l12Stack (n : Nat) (list0 : List SStow) (bay1 : Int) (row2 : Int) : Option (List SBox) :=
  loopN (fun (x : Int × List SBox) J' => spec_l12Stack_L3 n (fun out14 => some (out14)) (fun t15 out16 => J' (t15, out16)) list0 bay1 row2 x.1 x.2) n ((0 : Int), [])
def spec_l1In (n : Nat) (x0 : Int) (a1 : Int) (b2 : Int) : Option Bool :=
  (bif (decide (x0 ≥ a1)) then some ((decide (x0 ≤ b2))) else some (false))
def spec_l11Letter_L2 {R : Type} (n : Nat) (kx0 : Int → Option R) (J : Int → Int → Option R) (k1 : Int) (x2 : Int) : Option R :=
  (bif (decide (k1 > (0 : Int))) then (bd (Int.tmod (w64 (x2 + (1 : Int))) (11 : Int)) fun (v11 : Int) => (bif (decide (v11 = (0 : Int))) then (bd (w64 ((w64 (x2 + (1 : Int))) + (1 : Int))) fun (v12 : Int) => J (w64 (k1 - (1 : Int))) v12) else J (w64 (k1 - (1 : Int))) (w64 (x2 + (1 : Int))))) else kx0 x2)
def spec_l11Letter (n : Nat) (k0 : Int) : Option Int :=
  loopN (fun (x : Int × Int) J' => spec_l11Letter_L2 n (fun x17 => some (x17)) (fun k18 x19 => J' (k18, x19)) x.1 x.2) n (k0, (10 : Int))
def spec_CheckDigit_k0 {R : Type} (n : Nat) (kx0 : Int → Option R) (kxr : Int → Option R) (J : Int → Int → Option R) (name1 : ByteArray) (sum7 : Int) (i8 : Int) (x9 : Int) (t10 : Bool) : Option R :=
  (bif t10 then (spec_l11Letter n (w64 (x9 - (65 : Int)))).bind fun r11 => chk (decide (0 ≤ i8)) ((bd (w64 (r11 * 2 ^ (min i8.toNat 64))) fun (v18 : Int) => J (w64 (sum7 + v18)) (w64 (i8 + (1 : Int))))) else (bif (decide (i8 ≥ (4 : Int))) then (spec_l1In n x9 (48 : Int) (57 : Int)).bind fun r21 => (bif r21 then chk (decide (0 ≤ i8)) ((bd (w64 ((w64 (x9 - (48 : Int))) * 2 ^ (min i8.toNat 64))) fun (v35 : Int) => J (w64 (sum7 + v35)) (w64 (i8 + (1 : Int))))) else kxr (-1 : Int)) else kxr (-1 : Int)))
def spec_CheckDigit_k1 {R : Type} (n : Nat) (kx0 : Int → Option R) (kxr : Int → Option R) (J : Int → Int → Option R) (name1 : ByteArray) (sum41 : Int) (i42 : Int) (x43 : Int) : Option R :=
  (bif (decide (i42 ≥ (4 : Int))) then (spec_l1In n x43 (48 : Int) (57 : Int)).bind fun r44 => (bif r44 then chk (decide (0 ≤ i42)) ((bd (w64 ((w64 (x43 - (48 : Int))) * 2 ^ (min i42.toNat 64))) fun (v52 : Int) => J (w64 (sum41 + v52)) (w64 (i42 + (1 : Int))))) else kxr (-1 : Int)) else kxr (-1 : Int))
def spec_CheckDigit_k2 {R : Type} (n : Nat) (kx0 : Int → Option R) (kxr : Int → Option R) (J : Int → Int → Option R) (name1 : ByteArray) (sum4 : Int) (i5 : Int) : Option R :=
  ix i5 name1.size ((bif (decide (i5 < (4 : Int))) then (spec_l1In n (w64 (byteAt name1 i5.toNat)) (65 : Int) (90 : Int)).bind fun r6 => spec_CheckDigit_k0 n kx0 kxr J name1 sum4 i5 (w64 (byteAt name1 i5.toNat)) r6 else spec_CheckDigit_k1 n kx0 kxr J name1 sum4 i5 (w64 (byteAt name1 i5.toNat))))
def spec_CheckDigit_L5 {R : Type} (n : Nat) (kx0 : Int → Option R) (kxr : Int → Option R) (J : Int → Int → Option R) (name1 : ByteArray) (sum2 : Int) (i3 : Int) : Option R :=
  (bif (decide (i3 < (10 : Int))) then spec_CheckDigit_k2 n kx0 kxr J name1 sum2 i3 else kx0 sum2)
def spec_CheckDigit_k3 (n : Nat)  (name0 : ByteArray) : Option Int :=
  loopN (fun (x : Int × Int) J' => spec_CheckDigit_L5 n (fun sum58 => (bd (Int.tmod sum58 (11 : Int)) fun (v59 : Int) => (bd (Int.tmod v59 (10 : Int)) fun (v60 : Int) => some (v60)))) (fun t61 => some (t61)) (fun sum62 i63 => J' (sum62, i63)) name0 x.1 x.2) n ((0 : Int), (0 : Int))
def spec_CheckDigit (n : Nat) (name0 : ByteArray) : Option Int :=
  (bif (!(decide ((name0.size : Int) = (10 : Int)))) then some ((-1 : Int)) else spec_CheckDigit_k3 n  name0)
def spec_l11DrawName_L3 {R : Type} (n : Nat) (kx0 : Sl1Cur → List Int → Option R) (J : Int → Sl1Cur → List Int → Option R) (i1 : Int) (p2 : Sl1Cur) (b3 : List Int) : Option R :=
  (bif (decide (i1 < (4 : Int))) then (spec_l1Below n p2 (26 : Int)).bind fun r9 => (bd (w64 ((65 : Int) + r9.1)) fun (v10 : Int) => chk (decide ((b3 ++ [(wu8 v10)]).length * 1 ≤ 140737488355328)) (J (w64 (i1 + (1 : Int))) r9.2 (b3 ++ [(wu8 v10)]))) else kx0 p2 b3)
def spec_l11DrawName_L7 {R : Type} (n : Nat) (kx2 : List Int → Sl1Cur → Option R) (J : Int → Sl1Cur → List Int → Option R) (i13 : Int) (p14 : Sl1Cur) (b15 : List Int) : Option R :=
  (bif (decide (i13 < (6 : Int))) then (spec_l1Below n p14 (10 : Int)).bind fun r21 => (bd (w64 ((48 : Int) + r21.1)) fun (v22 : Int) => chk (decide ((b15 ++ [(wu8 v22)]).length * 1 ≤ 140737488355328)) (J (w64 (i13 + (1 : Int))) r21.2 (b15 ++ [(wu8 v22)]))) else kx2 b15 p14)
def spec_l11DrawName (n : Nat) (c0 : Sl1Cur) : Option (ByteArray × Sl1Cur) :=
  loopN (fun (x : Int × Sl1Cur × List Int) J' => spec_l11DrawName_L3 n (fun p11 b12 => loopN (fun (x : Int × Sl1Cur × List Int) J' => spec_l11DrawName_L7 n (fun b23 p24 => (spec_CheckDigit n (bstr b23)).bind fun r25 => (bd (b23 ++ [(wu8 (w64 ((48 : Int) + r25)))]) fun (l26 : List Int) => chk (decide (l26.length * 1 ≤ 140737488355328)) (some ((bstr l26), p24)))) (fun i27 p28 b29 => J' (i27, p28, b29)) x.1 x.2.1 x.2.2) n ((0 : Int), p11, b12)) (fun i30 p31 b32 => J' (i30, p31, b32)) x.1 x.2.1 x.2.2) n ((0 : Int), c0, [])
def spec_l1Once (n : Nat) (c0 : Sl1Cur) (n1 : Int) : Option (Bool × Sl1Cur) :=
  (spec_l1Below n c0 n1).bind fun r1 => some ((decide (r1.1 = (0 : Int))), r1.2)
def spec_l11Draw (n : Nat) (c0 : Sl1Cur) : Option (SBox × Sl1Cur) :=
  (spec_l1Below n c0 (4 : Int)).bind fun r1 => (spec_l11DrawName n r1.2).bind fun r2 => (spec_l1Below n r2.2 (30 : Int)).bind fun r3 => (spec_l1Below n r3.2 (4 : Int)).bind fun r4 => (bd (w64 ((w64 (r1.1 + (1 : Int))) + r4.1)) fun (v5 : Int) => (spec_l1Once n r4.2 (4 : Int)).bind fun r6 => (bif r6.1 then (spec_l1Below n r6.2 (10 : Int)).bind fun r7 => (spec_l1Once n r7.2 (8 : Int)).bind fun r15 => some ((⟨r2.1, (w64 ((1 : Int) + r3.1)), r7.1, r15.1, r1.1, v5⟩ : SBox), r15.2) else (spec_l1Once n r6.2 (8 : Int)).bind fun r22 => some ((⟨r2.1, (w64 ((1 : Int) + r3.1)), (0 : Int), r22.1, r1.1, v5⟩ : SBox), r22.2)))
def spec_HatchesOk_k0 {R : Type} (n : Nat) (kx0 : Option R) (kxr : Bool → Option R) (J : Int → Option R) (bays1 : List SHatch) (i3 : Int) : Option R :=
  ix i3 bays1.length ((bd (bays1.getD i3.toNat dSHatch) fun (e4 : SHatch) => (spec_l1In n e4.Rows (1 : Int) (6 : Int)).bind fun r5 => (bif (!r5) then kxr false else (spec_l1In n e4.Tiers (1 : Int) (6 : Int)).bind fun r7 => (bif (!r7) then kxr false else (spec_l1In n e4.Most (0 : Int) (1000000 : Int)).bind fun r9 => (bif (!r9) then kxr false else (spec_l1In n e4.Plugs (0 : Int) (36 : Int)).bind fun r11 => (bif (!r11) then kxr false else J (w64 (i3 + (1 : Int)))))))))
def spec_HatchesOk_L2 {R : Type} (n : Nat) (kx0 : Option R) (kxr : Bool → Option R) (J : Int → Option R) (bays1 : List SHatch) (i2 : Int) : Option R :=
  (bif (decide (i2 < (bays1.length : Int))) then spec_HatchesOk_k0 n kx0 kxr J bays1 i2 else kx0)
def spec_HatchesOk (n : Nat) (bays0 : List SHatch) : Option Bool :=
  loopN (fun (x : Int) J' => spec_HatchesOk_L2 n ((spec_l1In n (bays0.length : Int) (1 : Int) (6 : Int)).bind fun r16 => some (r16)) (fun t17 => some (t17)) J' bays0 x) n ((0 : Int))
def spec_BoxName (n : Nat) (text0 : ByteArray) : Option Bool :=
  (bif (!(decide ((text0.size : Int) = (11 : Int)))) then some (false) else chk (decide ((10 : Int) ≤ (text0.size : Int))) ((spec_CheckDigit n (text0.extract 0 10)).bind fun r3 => (bif (decide (r3 ≥ (0 : Int))) then ix (10 : Int) text0.size (some ((decide ((w64 (byteAt text0 10)) = (w64 ((48 : Int) + r3)))))) else some (false))))
def spec_BoxOk (n : Nat) (b0 : SBox) : Option Bool :=
  (spec_BoxName n b0.Name).bind fun r1 => (bif r1 then (spec_l1In n b0.Weight (1 : Int) (40000 : Int)).bind fun r2 => (bif r2 then (spec_l1In n b0.Class (0 : Int) (9 : Int)).bind fun r3 => (bif r3 then (spec_l1In n b0.From (0 : Int) (19 : Int)).bind fun r4 => (bif r4 then (bd (w64 (b0.From + (1 : Int))) fun (v5 : Int) => (spec_l1In n b0.To v5 (19 : Int)).bind fun r6 => some (r6)) else some (false)) else some (false)) else some (false)) else some (false))
def spec_StackOk_k0 {R : Type} (n : Nat) (kx0 : Int → Option R) (kxr : Bool → Option R) (J : Int → Int → Option R) (boxes1 : List SBox) (most2 : Int) (sum5 : Int) (i6 : Int) : Option R :=
  ix i6 boxes1.length ((bd (boxes1.getD i6.toNat dSBox) fun (e7 : SBox) => (bif (decide ((boxes1.length : Int) > (20 : Int))) then kxr false else (spec_BoxOk n e7).bind fun r11 => (bif (!r11) then kxr false else (bif (decide (i6 > (0 : Int))) then ix (w64 (i6 - (1 : Int))) boxes1.length ((bd (boxes1.getD ((w64 (i6 - (1 : Int))).toNat) dSBox) fun (e15 : SBox) => (bif (decide (e15.Weight < e7.Weight)) then kxr false else (bif e7.Cold then (bif (decide (i6 > (1 : Int))) then kxr false else J (w64 (sum5 + e7.Weight)) (w64 (i6 + (1 : Int)))) else J (w64 (sum5 + e7.Weight)) (w64 (i6 + (1 : Int))))))) else (bif e7.Cold then (bif (decide (i6 > (1 : Int))) then kxr false else J (w64 (sum5 + e7.Weight)) (w64 (i6 + (1 : Int)))) else J (w64 (sum5 + e7.Weight)) (w64 (i6 + (1 : Int)))))))))
def spec_StackOk_L3 {R : Type} (n : Nat) (kx0 : Int → Option R) (kxr : Bool → Option R) (J : Int → Int → Option R) (boxes1 : List SBox) (most2 : Int) (sum3 : Int) (i4 : Int) : Option R :=
  (bif (decide (i4 < (boxes1.length : Int))) then spec_StackOk_k0 n kx0 kxr J boxes1 most2 sum3 i4 else kx0 sum3)
def spec_StackOk (n : Nat) (boxes0 : List SBox) (most1 : Int) : Option Bool :=
  loopN (fun (x : Int × Int) J' => spec_StackOk_L3 n (fun sum68 => (spec_l1In n most1 (0 : Int) (1000000 : Int)).bind fun r69 => (bif r69 then some ((decide (sum68 ≤ most1))) else some (false))) (fun t71 => some (t71)) (fun sum72 i73 => J' (sum72, i73)) boxes0 most1 x.1 x.2) n ((0 : Int), (0 : Int))
def spec_l12Cold_k0 {R : Type} (n : Nat) (kx0 : Int → Option R) (J : Int → Int → Option R) (list1 : List SStow) (bay2 : Int) (n5 : Int) (i6 : Int) : Option R :=
  ix i6 list1.length ((bd (list1.getD i6.toNat dSStow) fun (e7 : SStow) => (bif (decide (e7.Spot.Bay = bay2)) then ix i6 list1.length ((bd (list1.getD i6.toNat dSStow) fun (e8 : SStow) => (bif e8.Box.Cold then J (w64 (n5 + (1 : Int))) (w64 (i6 + (1 : Int))) else J n5 (w64 (i6 + (1 : Int)))))) else J n5 (w64 (i6 + (1 : Int))))))
def spec_l12Cold_L3 {R : Type} (n : Nat) (kx0 : Int → Option R) (J : Int → Int → Option R) (list1 : List SStow) (bay2 : Int) (n3 : Int) (i4 : Int) : Option R :=
  (bif (decide (i4 < (list1.length : Int))) then spec_l12Cold_k0 n kx0 J list1 bay2 n3 i4 else kx0 n3)
def spec_l12Cold (n : Nat) (list0 : List SStow) (bay1 : Int) : Option Int :=
  loopN (fun (x : Int × Int) J' => spec_l12Cold_L3 n (fun n26 => some (n26)) (fun n27 i28 => J' (n27, i28)) list0 bay1 x.1 x.2) n ((0 : Int), (0 : Int))
def spec_l11Spot (n : Nat) (s0 : SSpot) : Option Bool :=
  (spec_l1In n s0.Bay (0 : Int) (19 : Int)).bind fun r1 => (bif r1 then (spec_l1In n s0.Row (0 : Int) (19 : Int)).bind fun r2 => (bif r2 then (spec_l1In n s0.Tier (0 : Int) (19 : Int)).bind fun r3 => some (r3) else some (false)) else some (false))
def spec_l3Size (n : Nat) (x0 : Int) : Option Int :=
  (bif (decide (x0 < (0 : Int))) then some ((w64 (0 - x0))) else some (x0))
def spec_l1Least (n : Nat) (a0 : Int) (b1 : Int) : Option Int :=
  (bif (decide (a0 < b1)) then some (a0) else some (b1))
def spec_Apart_k0 (n : Nat)  (a0 : Int) (b1 : Int) (x6 : Int) (t7 : Bool) : Option Int :=
  (bif t7 then some ((0 : Int)) else (bif (decide (x6 = (1 : Int))) then some ((3 : Int)) else (bd (Int.tmod (w64 (a0 * b1)) (6 : Int)) fun (v8 : Int) => (bif (decide (v8 = (0 : Int))) then some ((2 : Int)) else (bd (Int.tmod (w64 (a0 + b1)) (2 : Int)) fun (v9 : Int) => (bif (decide (v9 = (1 : Int))) then some ((1 : Int)) else some ((0 : Int))))))))
def spec_Apart (n : Nat) (a0 : Int) (b1 : Int) : Option Int :=
  (spec_l1In n a0 (0 : Int) (9 : Int)).bind fun r1 => (bif (!r1) then some ((-1 : Int)) else (spec_l1In n b1 (0 : Int) (9 : Int)).bind fun r2 => (bif (!r2) then some ((-1 : Int)) else (spec_l1Least n a0 b1).bind fun r14 => (bif (decide (r14 = (0 : Int))) then some ((0 : Int)) else spec_Apart_k0 n  a0 b1 r14 (decide (a0 = b1)))))
def spec_KeepsApart_k0 (n : Nat)  (a0 : SBox) (sa1 : SSpot) (b2 : SBox) (sb3 : SSpot) : Option Bool :=
  (bd (w64 (sa1.Bay - sb3.Bay)) fun (v6 : Int) => (spec_l3Size n v6).bind fun r7 => (bd (w64 (sa1.Row - sb3.Row)) fun (v8 : Int) => (spec_l3Size n v8).bind fun r9 => (bd (w64 (sa1.Tier - sb3.Tier)) fun (v10 : Int) => (spec_l3Size n v10).bind fun r11 => (spec_Apart n a0.Class b2.Class).bind fun r12 => (bif (decide (r12 = (1 : Int))) then (bd (w64 ((w64 (r7 + r9)) + r11)) fun (v13 : Int) => some ((!(decide (v13 = (1 : Int)))))) else (bif (decide (r12 = (2 : Int))) then some ((decide (r7 ≥ (2 : Int)))) else (bif (decide (r12 = (3 : Int))) then some (false) else some (true)))))))
def spec_KeepsApart (n : Nat) (a0 : SBox) (sa1 : SSpot) (b2 : SBox) (sb3 : SSpot) : Option Bool :=
  (spec_BoxOk n a0).bind fun r1 => (bif (!r1) then some (false) else (spec_BoxOk n b2).bind fun r2 => (bif (!r2) then some (false) else (spec_l11Spot n sa1).bind fun r3 => (bif (!r3) then some (false) else (spec_l11Spot n sb3).bind fun r4 => (bif (!r4) then some (false) else (bif ((decide (sa1.Bay = sb3.Bay)) && ((decide (sa1.Row = sb3.Row)) && (decide (sa1.Tier = sb3.Tier)))) then some (false) else spec_KeepsApart_k0 n  a0 sa1 b2 sb3)))))
def spec_l12Fails_k0 {R : Type} (n : Nat) (kx1 : Option R) (kxr : Bool → Option R) (J : Int → Option R) (list3 : List SStow) (i4 : Int) (k8 : Int) (x6 : SStow) (s7 : SSpot) : Option R :=
  ix k8 list3.length ((bd (list3.getD k8.toNat dSStow) fun (e9 : SStow) => (bif (decide (e9.Box.Name = x6.Box.Name)) then kxr true else ix k8 list3.length ((bd (list3.getD k8.toNat dSStow) fun (e11 : SStow) => (bif ((decide (e11.Spot.Bay = s7.Bay)) && ((decide (e11.Spot.Row = s7.Row)) && (decide (e11.Spot.Tier = s7.Tier)))) then kxr true else J (w64 (k8 + (1 : Int)))))))))
def spec_l12Fails_L8 {R : Type} (n : Nat) (kx1 : Option R) (kxr : Bool → Option R) (J : Int → Option R) (list3 : List SStow) (i4 : Int) (k5 : Int) (x6 : SStow) (s7 : SSpot) : Option R :=
  (bif (decide (k5 < i4)) then spec_l12Fails_k0 n kx1 kxr J list3 i4 k5 x6 s7 else kx1)
def spec_l12Fails_k1 {R : Type} (n : Nat) (kx3 : Option R) (kxr : Bool → Option R) (J : Int → Option R) (list40 : List SStow) (i41 : Int) (k45 : Int) (x43 : SStow) (s44 : SSpot) : Option R :=
  ix k45 list40.length ((bd (list40.getD k45.toNat dSStow) fun (e46 : SStow) => ix k45 list40.length ((bd (list40.getD k45.toNat dSStow) fun (e47 : SStow) => (spec_KeepsApart n e46.Box e47.Spot x43.Box s44).bind fun r48 => (bif (!r48) then kxr true else J (w64 (k45 + (1 : Int))))))))
def spec_l12Fails_L22 {R : Type} (n : Nat) (kx3 : Option R) (kxr : Bool → Option R) (J : Int → Option R) (list40 : List SStow) (i41 : Int) (k42 : Int) (x43 : SStow) (s44 : SSpot) : Option R :=
  (bif (decide (k42 < i41)) then spec_l12Fails_k1 n kx3 kxr J list40 i41 k42 x43 s44 else kx3)
def spec_l12Fails (n : Nat) (bays0 : List SHatch) (list1 : List SStow) (i2 : Int) (code3 : Int) : Option Bool :=
  ix i2 list1.length ((bd (list1.getD i2.toNat dSStow) fun (e1 : SStow) => (bif (decide (code3 = (1 : Int))) then (spec_BoxOk n e1.Box).bind fun r2 => some ((!r2)) else (bif (decide (code3 = (2 : Int))) then loopN (fun (x : Int) J' => spec_l12Fails_L8 n (some (false)) (fun t16 => some (t16)) J' list1 i2 x e1 e1.Spot) n ((0 : Int)) else (bif (decide (code3 = (3 : Int))) then (bd (w64 ((bays0.length : Int) - (1 : Int))) fun (v18 : Int) => (spec_l1In n e1.Spot.Bay (0 : Int) v18).bind fun r19 => (bif (!r19) then some (true) else ix e1.Spot.Bay bays0.length ((bd (bays0.getD e1.Spot.Bay.toNat dSHatch) fun (e20 : SHatch) => (bd (w64 (e20.Rows - (1 : Int))) fun (v21 : Int) => (spec_l1In n e1.Spot.Row (0 : Int) v21).bind fun r22 => (bif (!r22) then some (true) else ix e1.Spot.Bay bays0.length ((bd (bays0.getD e1.Spot.Bay.toNat dSHatch) fun (e23 : SHatch) => (bd (w64 (e23.Tiers - (1 : Int))) fun (v24 : Int) => (spec_l1In n e1.Spot.Tier (0 : Int) v24).bind fun r25 => some ((!r25))))))))))) else (bif (decide (code3 = (4 : Int))) then (bif (decide (e1.Spot.Tier > (0 : Int))) then (bd (w64 (e1.Spot.Tier - (1 : Int))) fun (v27 : Int) => (spec_l12At n list1 (⟨e1.Spot.Bay, e1.Spot.Row, v27⟩ : SSpot)).bind fun r28 => some ((decide (r28 < (0 : Int))))) else some (false)) else (bif (decide (code3 = (5 : Int))) then (spec_l12Stack n list1 e1.Spot.Bay e1.Spot.Row).bind fun r30 => ix e1.Spot.Bay bays0.length ((bd (bays0.getD e1.Spot.Bay.toNat dSHatch) fun (e31 : SHatch) => (spec_StackOk n r30 e31.Most).bind fun r32 => some ((!r32)))) else (bif (decide (code3 = (6 : Int))) then (bif e1.Box.Cold then (spec_l12Cold n list1 e1.Spot.Bay).bind fun r33 => ix e1.Spot.Bay bays0.length ((bd (bays0.getD e1.Spot.Bay.toNat dSHatch) fun (e34 : SHatch) => some ((decide (r33 > e34.Plugs))))) else some (false)) else loopN (fun (x : Int) J' => spec_l12Fails_L22 n (some (false)) (fun t52 => some (t52)) J' list1 i2 x e1 e1.Spot) n ((0 : Int))))))))))
def spec_StowCode_L7 {R : Type} (n : Nat) (kx2 : Option R) (kxr : Int → Option R) (J : Int → Option R) (bays7 : List SHatch) (list8 : List SStow) (code9 : Int) (i10 : Int) : Option R :=
  (bif (decide (i10 < (list8.length : Int))) then (spec_l12Fails n bays7 list8 i10 code9).bind fun r14 => (bif r14 then kxr i10 else J (w64 (i10 + (1 : Int)))) else kx2)
def spec_StowCode_L4 {R : Type} (n : Nat) (kx0 : Option R) (kxr : Int → Int → Option R) (J : Int → Option R) (bays3 : List SHatch) (list4 : List SStow) (code5 : Int) : Option R :=
  (bif (decide (code5 ≤ (7 : Int))) then loopN (fun (x : Int) J' => spec_StowCode_L7 n ((bd (w64 (code5 + (1 : Int))) fun (v19 : Int) => J v19)) (fun t20 => kxr code5 t20) J' bays3 list4 code5 x) n ((0 : Int)) else kx0)
def spec_StowCode (n : Nat) (bays0 : List SHatch) (list1 : List SStow) : Option (Int × Int) :=
  (spec_HatchesOk n bays0).bind fun r1 => (bif (!r1) then some ((1 : Int), (0 : Int)) else (bif (decide ((list1.length : Int) > (40 : Int))) then some ((1 : Int), (0 : Int)) else loopN (fun (x : Int) J' => spec_StowCode_L4 n (some ((0 : Int), (0 : Int))) (fun t28 t29 => some (t28, t29)) J' bays0 list1 x) n ((1 : Int))))
def spec_l12DrawStows_k0 {R : Type} (n : Nat) (kx0 : List SStow → Sl1Cur → Option R) (J : Int → Sl1Cur → List SStow → Option R) (bays2 : List SHatch) (many3 : Int) (tries58 : Int) (p59 : Sl1Cur) (out60 : List SStow) (s61 : Int) (s62 : Int) (s63 : Int) (box64 : ByteArray) (box65 : Int) (box66 : Bool) (box67 : Int) (box68 : Int) : Option R :=
  chk (decide (out60.length * 80 ≤ 140737488355328)) ((bd (out60 ++ [(⟨(⟨box64, box65, (0 : Int), box66, box67, box68⟩ : SBox), (⟨s61, s62, s63⟩ : SSpot)⟩ : SStow)]) fun (l69 : List SStow) => chk (decide (l69.length * 80 ≤ 140737488355328)) ((spec_StowCode n bays2 l69).bind fun r70 => (bif (decide (r70.1 = (0 : Int))) then (bd (w64 (tries58 - (1 : Int))) fun (v83 : Int) => J v83 p59 l69) else (spec_l1Once n p59 (25 : Int)).bind fun r84 => (bif r84.1 then (bd (w64 (tries58 - (1 : Int))) fun (v101 : Int) => J v101 r84.2 l69) else (bd (w64 (tries58 - (1 : Int))) fun (v105 : Int) => J v105 r84.2 out60))))))
def spec_l12DrawStows_k1 {R : Type} (n : Nat) (kx0 : List SStow → Sl1Cur → Option R) (J : Int → Sl1Cur → List SStow → Option R) (bays2 : List SHatch) (many3 : Int) (tries44 : Int) (t45 : Bool) (p46 : Sl1Cur) (out47 : List SStow) (s48 : Int) (s49 : Int) (s50 : Int) (t51 : List SBox) (box52 : ByteArray) (box53 : Int) (box54 : Bool) (box55 : Int) (box56 : Int) : Option R :=
  (bif t45 then (bd (w64 ((t51.length : Int) - (1 : Int))) fun (v57 : Int) => ix v57 t51.length (chk (decide (v57.toNat < t51.length)) (spec_l12DrawStows_k0 n kx0 J bays2 many3 tries44 p46 out47 s48 s49 s50 box52 ((t51.getD v57.toNat dSBox).Weight) box54 box55 box56))) else spec_l12DrawStows_k0 n kx0 J bays2 many3 tries44 p46 out47 s48 s49 s50 box52 box53 box54 box55 box56)
def spec_l12DrawStows_k2 {R : Type} (n : Nat) (kx0 : List SStow → Sl1Cur → Option R) (J : Int → Sl1Cur → List SStow → Option R) (bays2 : List SHatch) (many3 : Int) (tries30 : Int) (p31 : Sl1Cur) (out32 : List SStow) (s33 : Int) (s34 : Int) (s35 : Int) (t36 : List SBox) (box37 : ByteArray) (box38 : Int) (box39 : Bool) (box40 : Int) (box41 : Int) : Option R :=
  (bif (decide ((t36.length : Int) > (0 : Int))) then (bd (w64 ((t36.length : Int) - (1 : Int))) fun (v42 : Int) => ix v42 t36.length (chk (decide (v42.toNat < t36.length)) ((bif (decide (box38 > (t36.getD v42.toNat dSBox).Weight)) then (spec_l1Once n p31 (20 : Int)).bind fun r43 => spec_l12DrawStows_k1 n kx0 J bays2 many3 tries30 (!r43.1) r43.2 out32 s33 s34 s35 t36 box37 box38 box39 box40 box41 else spec_l12DrawStows_k0 n kx0 J bays2 many3 tries30 p31 out32 s33 s34 s35 box37 box38 box39 box40 box41)))) else spec_l12DrawStows_k0 n kx0 J bays2 many3 tries30 p31 out32 s33 s34 s35 box37 box38 box39 box40 box41)
def spec_l12DrawStows_k3 {R : Type} (n : Nat) (kx0 : List SStow → Sl1Cur → Option R) (J : Int → Sl1Cur → List SStow → Option R) (bays2 : List SHatch) (many3 : Int) (tries194 : Int) (p195 : Sl1Cur) (out196 : List SStow) (s197 : Int) (s198 : Int) (s199 : Int) (box200 : ByteArray) (box201 : Int) (box202 : Int) (box203 : Bool) (box204 : Int) (box205 : Int) : Option R :=
  chk (decide (out196.length * 80 ≤ 140737488355328)) ((bd (out196 ++ [(⟨(⟨box200, box201, box202, box203, box204, box205⟩ : SBox), (⟨s197, s198, s199⟩ : SSpot)⟩ : SStow)]) fun (l206 : List SStow) => chk (decide (l206.length * 80 ≤ 140737488355328)) ((spec_StowCode n bays2 l206).bind fun r207 => (bif (decide (r207.1 = (0 : Int))) then (bd (w64 (tries194 - (1 : Int))) fun (v215 : Int) => J v215 p195 l206) else (spec_l1Once n p195 (25 : Int)).bind fun r216 => (bif r216.1 then (bd (w64 (tries194 - (1 : Int))) fun (v225 : Int) => J v225 r216.2 l206) else (bd (w64 (tries194 - (1 : Int))) fun (v229 : Int) => J v229 r216.2 out196))))))
def spec_l12DrawStows_k4 {R : Type} (n : Nat) (kx0 : List SStow → Sl1Cur → Option R) (J : Int → Sl1Cur → List SStow → Option R) (bays2 : List SHatch) (many3 : Int) (tries230 : Int) (p231 : Sl1Cur) (out232 : List SStow) (s233 : Int) (s234 : Int) (s235 : Int) (box236 : SBox) : Option R :=
  chk (decide (out232.length * 80 ≤ 140737488355328)) ((bd (out232 ++ [(⟨box236, (⟨s233, s234, s235⟩ : SSpot)⟩ : SStow)]) fun (l237 : List SStow) => chk (decide (l237.length * 80 ≤ 140737488355328)) ((spec_StowCode n bays2 l237).bind fun r238 => (bif (decide (r238.1 = (0 : Int))) then (bd (w64 (tries230 - (1 : Int))) fun (v246 : Int) => J v246 p231 l237) else (spec_l1Once n p231 (25 : Int)).bind fun r247 => (bif r247.1 then (bd (w64 (tries230 - (1 : Int))) fun (v256 : Int) => J v256 r247.2 l237) else (bd (w64 (tries230 - (1 : Int))) fun (v260 : Int) => J v260 r247.2 out232))))))
def spec_l12DrawStows_k5 {R : Type} (n : Nat) (kx0 : List SStow → Sl1Cur → Option R) (J : Int → Sl1Cur → List SStow → Option R) (bays2 : List SHatch) (many3 : Int) (tries184 : Int) (t185 : Bool) (p186 : Sl1Cur) (out187 : List SStow) (s188 : Int) (s189 : Int) (s190 : Int) (t191 : List SBox) (box192 : SBox) : Option R :=
  (bif t185 then (bd (w64 ((t191.length : Int) - (1 : Int))) fun (v193 : Int) => ix v193 t191.length (chk (decide (v193.toNat < t191.length)) (spec_l12DrawStows_k3 n kx0 J bays2 many3 tries184 p186 out187 s188 s189 s190 box192.Name ((t191.getD v193.toNat dSBox).Weight) box192.Class box192.Cold box192.From box192.To))) else spec_l12DrawStows_k4 n kx0 J bays2 many3 tries184 p186 out187 s188 s189 s190 box192)
def spec_l12DrawStows_k6 {R : Type} (n : Nat) (kx0 : List SStow → Sl1Cur → Option R) (J : Int → Sl1Cur → List SStow → Option R) (bays2 : List SHatch) (many3 : Int) (tries174 : Int) (p175 : Sl1Cur) (out176 : List SStow) (s177 : Int) (s178 : Int) (s179 : Int) (t180 : List SBox) (box181 : SBox) : Option R :=
  (bif (decide ((t180.length : Int) > (0 : Int))) then (bd (w64 ((t180.length : Int) - (1 : Int))) fun (v182 : Int) => ix v182 t180.length (chk (decide (v182.toNat < t180.length)) ((bif (decide (box181.Weight > (t180.getD v182.toNat dSBox).Weight)) then (spec_l1Once n p175 (20 : Int)).bind fun r183 => spec_l12DrawStows_k5 n kx0 J bays2 many3 tries174 (!r183.1) r183.2 out176 s177 s178 s179 t180 box181 else spec_l12DrawStows_k4 n kx0 J bays2 many3 tries174 p175 out176 s177 s178 s179 box181)))) else spec_l12DrawStows_k4 n kx0 J bays2 many3 tries174 p175 out176 s177 s178 s179 box181)
def spec_l12DrawStows_k7 {R : Type} (n : Nat) (kx0 : List SStow → Sl1Cur → Option R) (J : Int → Sl1Cur → List SStow → Option R) (bays2 : List SHatch) (many3 : Int) (tries21 : Int) (b22 : Int) (p23 : Sl1Cur) (out24 : List SStow) : Option R :=
  ix b22 bays2.length ((bd (bays2.getD b22.toNat dSHatch) fun (e25 : SHatch) => (spec_l1Below n p23 e25.Rows).bind fun r26 => (spec_l12Stack n out24 b22 r26.1).bind fun r27 => (spec_l11Draw n r26.2).bind fun r28 => (spec_l1Once n r28.2 (12 : Int)).bind fun r29 => (bif (!r29.1) then spec_l12DrawStows_k2 n kx0 J bays2 many3 tries21 r29.2 out24 b22 r26.1 (r27.length : Int) r27 r28.1.Name r28.1.Weight r28.1.Cold r28.1.From r28.1.To else spec_l12DrawStows_k6 n kx0 J bays2 many3 tries21 r29.2 out24 b22 r26.1 (r27.length : Int) r27 r28.1)))
def spec_l12DrawStows_k8 {R : Type} (n : Nat) (kx0 : List SStow → Sl1Cur → Option R) (J : Int → Sl1Cur → List SStow → Option R) (bays2 : List SHatch) (many3 : Int) (tries11 : Int) (p12 : Sl1Cur) (out13 : List SStow) : Option R :=
  (spec_l1Below n p12 (bays2.length : Int)).bind fun r14 => ix r14.1 bays2.length ((bd (bays2.getD r14.1.toNat dSHatch) fun (e15 : SHatch) => (bif (decide (e15.Rows < (1 : Int))) then (bd (w64 (tries11 - (1 : Int))) fun (v20 : Int) => J v20 r14.2 out13) else spec_l12DrawStows_k7 n kx0 J bays2 many3 tries11 r14.1 r14.2 out13)))
def spec_l12DrawStows_L3 {R : Type} (n : Nat) (kx0 : List SStow → Sl1Cur → Option R) (J : Int → Sl1Cur → List SStow → Option R) (bays2 : List SHatch) (many3 : Int) (tries4 : Int) (p5 : Sl1Cur) (out6 : List SStow) : Option R :=
  (bif (decide (tries4 > (0 : Int))) then (bif (decide ((out6.length : Int) < many3)) then (bif (decide ((bays2.length : Int) > (0 : Int))) then spec_l12DrawStows_k8 n kx0 J bays2 many3 tries4 p5 out6 else kx0 out6 p5) else kx0 out6 p5) else kx0 out6 p5)
def spec_l12DrawStows (n : Nat) (c0 : Sl1Cur) (bays1 : List SHatch) (many2 : Int) : Option (List SStow × Sl1Cur) :=
  (bd (w64 ((3 : Int) * many2)) fun (v1 : Int) => loopN (fun (x : Int × Sl1Cur × List SStow) J' => spec_l12DrawStows_L3 n (fun out307 p308 => some (out307, p308)) (fun tries309 p310 out311 => J' (tries309, p310, out311)) bays1 many2 x.1 x.2.1 x.2.2) n (v1, c0, []))
def spec_l11DrawSpot (n : Nat) (c0 : Sl1Cur) : Option (SSpot × Sl1Cur) :=
  (spec_l1Below n c0 (3 : Int)).bind fun r1 => (spec_l1Below n r1.2 (3 : Int)).bind fun r2 => (spec_l1Below n r2.2 (3 : Int)).bind fun r3 => (spec_l1Once n r3.2 (40 : Int)).bind fun r4 => (bif r4.1 then (spec_l1PickInt n r4.2 [(-1 : Int), (19 : Int), (20 : Int)]).bind fun r5 => some ((⟨r1.1, r2.1, r5.1⟩ : SSpot), r5.2) else some ((⟨r1.1, r2.1, r3.1⟩ : SSpot), r4.2))
def spec_l1Pick (n : Nat) (c0 : Sl1Cur) (list1 : List ByteArray) : Option (ByteArray × Sl1Cur) :=
  (spec_l1Below n c0 (list1.length : Int)).bind fun r1 => ix r1.1 list1.length (some ((list1.getD r1.1.toNat (str [])), r1.2))
def spec_l11DrawText (n : Nat) (c0 : Sl1Cur) : Option (ByteArray × Sl1Cur) :=
  (spec_l11DrawName n c0).bind fun r1 => (spec_l1Below n r1.2 ((strb r1.1).length : Int)).bind fun r2 => (spec_l1Below n r2.2 (5 : Int)).bind fun r3 => (bif (decide (r3.1 = (0 : Int))) then (spec_l1Pick n r3.2 [str [97], str [48], str [90], str [32], str [53], str [75]]).bind fun r4 => ix (0 : Int) r4.1.size (ix r2.1 ((strb r1.1).length) (chk (decide (r2.1.toNat < (strb r1.1).length)) ((bd ((strb r1.1).set r2.1.toNat (byteAt r4.1 0)) fun (l5 : List Int) => some ((bstr l5), r4.2))))) else (bif (decide (r3.1 = (1 : Int))) then (bd ((strb r1.1) ++ [(48 : Int)]) fun (l8 : List Int) => chk (decide (l8.length * 1 ≤ 140737488355328)) (some ((bstr l8), r3.2))) else (bif (decide (r3.1 = (2 : Int))) then chk (decide ((0 : Int) ≤ r2.1)) (chk (decide (r2.1 ≤ ((strb r1.1).length : Int))) (chk (decide ((0 + (r2.1.toNat - 0)) ≤ (strb r1.1).length)) (some ((bstr (((strb r1.1).drop 0).take (r2.1.toNat - 0))), r3.2)))) else (bif (decide (r3.1 = (3 : Int))) then (spec_l1Below n r3.2 (10 : Int)).bind fun r14 => (bd (w64 ((48 : Int) + r14.1)) fun (v15 : Int) => ix (10 : Int) ((strb r1.1).length) (chk (decide (10 < (strb r1.1).length)) ((bd ((strb r1.1).set 10 (wu8 v15)) fun (l16 : List Int) => some ((bstr l16), r14.2))))) else some ((bstr (strb r1.1)), r3.2)))))
def spec_l11DrawAny (n : Nat) (c0 : Sl1Cur) : Option (SBox × Sl1Cur) :=
  (spec_l11Draw n c0).bind fun r1 => (spec_l1Below n r1.2 (30 : Int)).bind fun r2 => (bif (decide (r2.1 = (0 : Int))) then (spec_l11DrawText n r2.2).bind fun r3 => some ((⟨r3.1, r1.1.Weight, r1.1.Class, r1.1.Cold, r1.1.From, r1.1.To⟩ : SBox), r3.2) else (bif (decide (r2.1 = (1 : Int))) then (spec_l1PickInt n r2.2 [(0 : Int), (40000 : Int), (40001 : Int), (-1 : Int)]).bind fun r11 => some ((⟨r1.1.Name, r11.1, r1.1.Class, r1.1.Cold, r1.1.From, r1.1.To⟩ : SBox), r11.2) else (bif (decide (r2.1 = (2 : Int))) then (spec_l1PickInt n r2.2 [(-1 : Int), (9 : Int), (10 : Int)]).bind fun r19 => some ((⟨r1.1.Name, r1.1.Weight, r19.1, r1.1.Cold, r1.1.From, r1.1.To⟩ : SBox), r19.2) else (bif (decide (r2.1 = (3 : Int))) then (spec_l1PickInt n r2.2 [(-1 : Int), (18 : Int), (19 : Int)]).bind fun r27 => some ((⟨r1.1.Name, r1.1.Weight, r1.1.Class, r1.1.Cold, r27.1, r1.1.To⟩ : SBox), r27.2) else (bif (decide (r2.1 = (4 : Int))) then (spec_l1PickInt n r2.2 [(0 : Int), (19 : Int), (20 : Int)]).bind fun r35 => some ((⟨r1.1.Name, r1.1.Weight, r1.1.Class, r1.1.Cold, r1.1.From, r35.1⟩ : SBox), r35.2) else some (r1.1, r2.2))))))
def spec_l12Muddle_k0 (n : Nat)  (p7 : Sl1Cur) (p8 : List SStow) : Option (List SStow × Sl1Cur) :=
  (spec_l1Below n p7 (p8.length : Int)).bind fun r9 => (spec_l1Below n r9.2 (6 : Int)).bind fun r10 => (bif (decide (r10.1 = (0 : Int))) then (spec_l11DrawSpot n r10.2).bind fun r11 => ix r9.1 p8.length (chk (decide (r9.1.toNat < p8.length)) ((bd (p8.getD r9.1.toNat dSStow) fun (e12 : SStow) => (bd (p8.set r9.1.toNat (⟨e12.Box, r11.1⟩ : SStow)) fun (l13 : List SStow) => some (l13, r11.2))))) else (bif (decide (r10.1 = (1 : Int))) then (spec_l11DrawAny n r10.2).bind fun r16 => ix r9.1 p8.length (chk (decide (r9.1.toNat < p8.length)) ((bd (p8.getD r9.1.toNat dSStow) fun (e17 : SStow) => (bd (p8.set r9.1.toNat (⟨r16.1, e17.Spot⟩ : SStow)) fun (l18 : List SStow) => some (l18, r16.2))))) else (bif (decide (r10.1 = (2 : Int))) then ix r9.1 p8.length (chk (decide (r9.1.toNat < p8.length)) ((bd (p8.getD r9.1.toNat dSStow) fun (e21 : SStow) => chk (decide ((p8 ++ [e21]).length * 80 ≤ 140737488355328)) (some ((p8 ++ [e21]), r10.2))))) else (bif (decide (r10.1 = (3 : Int))) then ix r9.1 p8.length (chk (decide (r9.1.toNat < p8.length)) ((bd (w64 ((p8.getD r9.1.toNat dSStow).Spot.Tier + (1 : Int))) fun (v24 : Int) => ix r9.1 p8.length (chk (decide (r9.1.toNat < p8.length)) ((bd (p8.getD r9.1.toNat dSStow) fun (e25 : SStow) => (bd (p8.set r9.1.toNat (⟨e25.Box, (⟨e25.Spot.Bay, e25.Spot.Row, v24⟩ : SSpot)⟩ : SStow)) fun (l26 : List SStow) => some (l26, r10.2)))))))) else (bif (decide (r10.1 = (4 : Int))) then ix r9.1 p8.length (chk (decide (r9.1.toNat < p8.length)) ((bd (p8.getD r9.1.toNat dSStow) fun (e29 : SStow) => (bd (p8.set r9.1.toNat (⟨(⟨e29.Box.Name, e29.Box.Weight, e29.Box.Class, true, e29.Box.From, e29.Box.To⟩ : SBox), e29.Spot⟩ : SStow)) fun (l30 : List SStow) => some (l30, r10.2))))) else (bif (decide (r10.1 = (5 : Int))) then chk (decide ((0 : Int) ≤ r9.1)) (chk (decide (r9.1 ≤ (p8.length : Int))) (chk (decide ((r9.1.toNat + (p8.length - r9.1.toNat)) ≤ p8.length)) ((bd ((p8.drop r9.1.toNat).take (p8.length - r9.1.toNat)) fun (l33 : List SStow) => chk (decide (l33.length * 80 ≤ 140737488355328)) (chk (decide ((0 : Int) ≤ r9.1)) (chk (decide (r9.1 ≤ (p8.length : Int))) (chk (decide ((0 + (r9.1.toNat - 0)) ≤ p8.length)) ((bd (l33 ++ ((p8.drop 0).take (r9.1.toNat - 0))) fun (l34 : List SStow) => chk (decide (l34.length * 80 ≤ 140737488355328)) (some (l34, r10.2))))))))))) else some (p8, r10.2)))))))
def spec_l12Muddle (n : Nat) (c0 : Sl1Cur) (list1 : List SStow) : Option (List SStow × Sl1Cur) :=
  (bif (decide ((list1.length : Int) = (0 : Int))) then some (list1, c0) else (spec_l1Once n c0 (4 : Int)).bind fun r3 => (bif (!r3.1) then some (list1, r3.2) else spec_l12Muddle_k0 n  r3.2 list1))
def spec_DrawAtPort_k0 {R : Type} (n : Nat) (kx0 : List SStow → List SStow → Option R) (J : Int → List SStow → List SStow → Option R) (bays6 : List SHatch) (port7 : Int) (i22 : Int) (t9 : Sl1Cur) (list23 : List SStow) (stay24 : List SStow) : Option R :=
  ix i22 list23.length (chk (decide (i22.toNat < list23.length)) ((bif (!(decide ((list23.getD i22.toNat dSStow).Box.To = port7))) then ix i22 list23.length (chk (decide (i22.toNat < list23.length)) ((bd (list23.getD i22.toNat dSStow) fun (e25 : SStow) => chk (decide ((stay24 ++ [e25]).length * 80 ≤ 140737488355328)) (J (w64 (i22 + (1 : Int))) list23 (stay24 ++ [e25]))))) else J (w64 (i22 + (1 : Int))) list23 stay24)))
def spec_DrawAtPort_k1 {R : Type} (n : Nat) (kx0 : List SStow → List SStow → Option R) (J : Int → List SStow → List SStow → Option R) (bays6 : List SHatch) (port7 : Int) (i17 : Int) (t9 : Sl1Cur) (list18 : List SStow) (stay19 : List SStow) : Option R :=
  ix i17 list18.length (chk (decide (i17.toNat < list18.length)) ((bif (decide ((list18.getD i17.toNat dSStow).Box.To < port7)) then ix i17 list18.length (chk (decide (i17.toNat < list18.length)) ((bd (list18.getD i17.toNat dSStow) fun (e20 : SStow) => (bd (list18.set i17.toNat (⟨(⟨e20.Box.Name, e20.Box.Weight, e20.Box.Class, e20.Box.Cold, e20.Box.From, port7⟩ : SBox), e20.Spot⟩ : SStow)) fun (l21 : List SStow) => spec_DrawAtPort_k0 n kx0 J bays6 port7 i17 t9 l21 stay19)))) else spec_DrawAtPort_k0 n kx0 J bays6 port7 i17 t9 list18 stay19)))
def spec_DrawAtPort_k2 {R : Type} (n : Nat) (kx0 : List SStow → List SStow → Option R) (J : Int → List SStow → List SStow → Option R) (bays6 : List SHatch) (port7 : Int) (i12 : Int) (t9 : Sl1Cur) (list13 : List SStow) (stay14 : List SStow) : Option R :=
  ix i12 list13.length (chk (decide (i12.toNat < list13.length)) ((bif (decide ((list13.getD i12.toNat dSStow).Box.From > port7)) then ix i12 list13.length (chk (decide (i12.toNat < list13.length)) ((bd (list13.getD i12.toNat dSStow) fun (e15 : SStow) => (bd (list13.set i12.toNat (⟨(⟨e15.Box.Name, e15.Box.Weight, e15.Box.Class, e15.Box.Cold, (0 : Int), e15.Box.To⟩ : SBox), e15.Spot⟩ : SStow)) fun (l16 : List SStow) => spec_DrawAtPort_k1 n kx0 J bays6 port7 i12 t9 l16 stay14)))) else spec_DrawAtPort_k1 n kx0 J bays6 port7 i12 t9 list13 stay14)))
def spec_DrawAtPort_L7 {R : Type} (n : Nat) (kx0 : List SStow → List SStow → Option R) (J : Int → List SStow → List SStow → Option R) (bays6 : List SHatch) (port7 : Int) (i8 : Int) (t9 : Sl1Cur) (list10 : List SStow) (stay11 : List SStow) : Option R :=
  (bif (decide (i8 < (list10.length : Int))) then spec_DrawAtPort_k2 n kx0 J bays6 port7 i8 t9 list10 stay11 else kx0 list10 stay11)
def spec_DrawAtPort_k3 {R : Type} (n : Nat) (kx2 : Sl1Cur → List SStow → Option R) (J : Int → Sl1Cur → List SStow → Option R) (bays42 : List SHatch) (port43 : Int) (i77 : Int) (t78 : Bool) (t79 : Sl1Cur) (list46 : List SStow) (stay47 : List SStow) (plan80 : List SStow) (more49 : List SStow) (x81 : ByteArray) (x82 : Int) (x83 : Int) (x84 : Bool) (x85 : Int) (x86 : Int) (x87 : Int) (x88 : Int) : Option R :=
  (bif t78 then (bd (plan80 ++ [(⟨(⟨x81, x82, x83, x84, port43, x85⟩ : SBox), (⟨x86, x87, x88⟩ : SSpot)⟩ : SStow)]) fun (l89 : List SStow) => chk (decide (l89.length * 80 ≤ 140737488355328)) (J (w64 (i77 + (1 : Int))) t79 l89)) else J (w64 (i77 + (1 : Int))) t79 plan80)
def spec_DrawAtPort_k4 {R : Type} (n : Nat) (kx2 : Sl1Cur → List SStow → Option R) (J : Int → Sl1Cur → List SStow → Option R) (bays42 : List SHatch) (port43 : Int) (i50 : Int) (t51 : Sl1Cur) (list46 : List SStow) (stay47 : List SStow) (plan52 : List SStow) (more49 : List SStow) : Option R :=
  ix i50 more49.length (chk (decide (i50.toNat < more49.length)) ((bd (more49.getD i50.toNat dSStow) fun (e53 : SStow) => (bd (w64 (port43 + (1 : Int))) fun (v54 : Int) => (spec_l1Below n t51 (3 : Int)).bind fun r55 => (spec_l12At n stay47 e53.Spot).bind fun r56 => (bif (decide (r56 < (0 : Int))) then (bd (plan52 ++ [(⟨(⟨e53.Box.Name, e53.Box.Weight, e53.Box.Class, e53.Box.Cold, port43, (w64 (v54 + r55.1))⟩ : SBox), e53.Spot⟩ : SStow)]) fun (l72 : List SStow) => chk (decide (l72.length * 80 ≤ 140737488355328)) (J (w64 (i50 + (1 : Int))) r55.2 l72)) else (spec_l1Once n r55.2 (12 : Int)).bind fun r76 => spec_DrawAtPort_k3 n kx2 J bays42 port43 i50 r76.1 r76.2 list46 stay47 plan52 more49 e53.Box.Name e53.Box.Weight e53.Box.Class e53.Box.Cold (w64 (v54 + r55.1)) e53.Spot.Bay e53.Spot.Row e53.Spot.Tier)))))
def spec_DrawAtPort_L18 {R : Type} (n : Nat) (kx2 : Sl1Cur → List SStow → Option R) (J : Int → Sl1Cur → List SStow → Option R) (bays42 : List SHatch) (port43 : Int) (i44 : Int) (t45 : Sl1Cur) (list46 : List SStow) (stay47 : List SStow) (plan48 : List SStow) (more49 : List SStow) : Option R :=
  (bif (decide (i44 < (more49.length : Int))) then spec_DrawAtPort_k4 n kx2 J bays42 port43 i44 t45 list46 stay47 plan48 more49 else kx2 t45 plan48)
def spec_DrawAtPort (n : Nat) (code0 : List Int) : Option (List SHatch × List SStow × Int × List SStow) :=
  (spec_l1New n code0).bind fun r1 => (spec_l12DrawBays n r1 false).bind fun r2 => (spec_l1Below n r2.2 (7 : Int)).bind fun r3 => (spec_l12DrawStows n r3.2 r2.1 r3.1).bind fun r4 => (spec_l1Below n r4.2 (4 : Int)).bind fun r5 => loopN (fun (x : Int × List SStow × List SStow) J' => spec_DrawAtPort_L7 n (fun list38 stay39 => (spec_l1Below n r5.2 (6 : Int)).bind fun r40 => (spec_l12DrawStows n r40.2 r2.1 r40.1).bind fun r41 => loopN (fun (x : Int × Sl1Cur × List SStow) J' => spec_DrawAtPort_L18 n (fun t96 plan97 => (spec_l12Muddle n t96 list38).bind fun r98 => (spec_l1Once n r98.2 (25 : Int)).bind fun r99 => (bif r99.1 then (spec_l1PickInt n r99.2 [(-1 : Int), (0 : Int), (19 : Int), (20 : Int)]).bind fun r100 => some (r2.1, r98.1, r100.1, plan97) else some (r2.1, r98.1, (w64 ((1 : Int) + r5.1)), plan97))) (fun i109 t110 plan111 => J' (i109, t110, plan111)) r2.1 (w64 ((1 : Int) + r5.1)) x.1 x.2.1 list38 stay39 x.2.2 r41.1) n ((0 : Int), r41.2, [])) (fun i112 list113 stay114 => J' (i112, list113, stay114)) r2.1 (w64 ((1 : Int) + r5.1)) x.1 r5.2 x.2.1 x.2.2) n ((0 : Int), r4.1, [])
def impl_own_impl_Stow (n : Nat) (l0 : List SStow) : Option (List SStow) :=
  chk (decide ((0 : Int) ≤ (l0.length : Int))) (chk (decide ((l0.length : Int) ≤ 9223372036854775807 ∧ (l0.length : Int) * (80 : Int) ≤ 281474976710656)) (chk (decide (l0.length * 80 ≤ 140737488355328)) (some (l0))))
def impl_in (n : Nat) (n0 : Int) (least1 : Int) (most2 : Int) : Option Bool :=
  (bif (decide (n0 ≥ least1)) then some ((decide (n0 ≤ most2))) else some (false))
def impl_HatchesOk_1 (n : Nat) (h0 : SHatch) : Option Bool :=
  (impl_in n h0.Rows (1 : Int) (6 : Int)).bind fun r1 => (bif (!r1) then some (true) else (impl_in n h0.Tiers (1 : Int) (6 : Int)).bind fun r2 => (bif (!r2) then some (true) else (impl_in n h0.Most (0 : Int) (1000000 : Int)).bind fun r3 => (bif (!r3) then some (true) else (impl_in n h0.Plugs (0 : Int) (36 : Int)).bind fun r4 => some ((!r4)))))
def slices_IndexFunc_impl_Hatch_impl_Hatch__impl_HatchesOk_1_L2 {R : Type} (n : Nat) (kx0 : Option R) (kxr : Int → Option R) (J : Int → Option R) (s1 : List SHatch) (t2 : Int) (t3 : Int) : Option R :=
  (bif (decide (t3 < t2)) then ix t3 s1.length ((bd (s1.getD t3.toNat dSHatch) fun (e8 : SHatch) => (impl_HatchesOk_1 n e8).bind fun r9 => (bif r9 then kxr t3 else J (w64 (t3 + (1 : Int)))))) else kx0)
def slices_IndexFunc_impl_Hatch_impl_Hatch__impl_HatchesOk_1 (n : Nat) (s0 : List SHatch) : Option Int :=
  loopN (fun (x : Int) J' => slices_IndexFunc_impl_Hatch_impl_Hatch__impl_HatchesOk_1_L2 n (some ((-1 : Int))) (fun t11 => some (t11)) J' s0 (s0.length : Int) x) n ((0 : Int))
def slices_ContainsFunc_impl_Hatch_impl_Hatch__impl_HatchesOk_1 (n : Nat) (s0 : List SHatch) : Option Bool :=
  (slices_IndexFunc_impl_Hatch_impl_Hatch__impl_HatchesOk_1 n s0).bind fun r1 => some ((decide (r1 ≥ (0 : Int))))
def impl_HatchesOk (n : Nat) (bays0 : List SHatch) : Option Bool :=
  (impl_in n (bays0.length : Int) (1 : Int) (6 : Int)).bind fun r1 => (bif r1 then (slices_ContainsFunc_impl_Hatch_impl_Hatch__impl_HatchesOk_1 n bays0).bind fun r2 => some ((!r2)) else some (false))
def impl_valueOf_L3 {R : Type} (n : Nat) (kx0 : Int → Option R) (J : Int → Int → Option R) (c1 : Int) (n2 : Int) (k3 : Int) : Option R :=
  (bif (decide (k3 < c1)) then (bd (Int.tmod (w64 (n2 + (1 : Int))) (11 : Int)) fun (v12 : Int) => (bif (decide (v12 = (0 : Int))) then (bd (w64 ((w64 (n2 + (1 : Int))) + (1 : Int))) fun (v13 : Int) => J v13 (wu8 (k3 + (1 : Int)))) else J (w64 (n2 + (1 : Int))) (wu8 (k3 + (1 : Int))))) else kx0 n2)
def impl_valueOf (n : Nat) (c0 : Int) : Option Int :=
  loopN (fun (x : Int × Int) J' => impl_valueOf_L3 n (fun n18 => some (n18)) (fun n19 k20 => J' (n19, k20)) c0 x.1 x.2) n ((10 : Int), (65 : Int))
def impl_CheckDigit_k0 {R : Type} (n : Nat) (kx0 : Int → Option R) (kxr : Int → Option R) (J : Int → Int → Option R) (name1 : ByteArray) (sum6 : Int) (i7 : Int) (c8 : Int) (t9 : Int) (t10 : Bool) : Option R :=
  (bif t10 then (impl_valueOf n c8).bind fun r11 => chk (decide (0 ≤ i7)) ((bd (w64 (r11 * 2 ^ (min i7.toNat 64))) fun (v19 : Int) => J (w64 (sum6 + v19)) (w64 (t9 + (1 : Int))))) else (bif (decide (i7 ≥ (4 : Int))) then (bif (decide (c8 ≥ (48 : Int))) then (bif (decide (c8 ≤ (57 : Int))) then chk (decide (0 ≤ i7)) ((bd (w64 ((w64 (wu8 (c8 - (48 : Int)))) * 2 ^ (min i7.toNat 64))) fun (v38 : Int) => J (w64 (sum6 + v38)) (w64 (t9 + (1 : Int))))) else kxr (-1 : Int)) else kxr (-1 : Int)) else kxr (-1 : Int)))
def impl_CheckDigit_k1 {R : Type} (n : Nat) (kx0 : Int → Option R) (kxr : Int → Option R) (J : Int → Int → Option R) (name1 : ByteArray) (sum49 : Int) (i50 : Int) (c51 : Int) (t52 : Int) : Option R :=
  (bif (decide (i50 ≥ (4 : Int))) then (bif (decide (c51 ≥ (48 : Int))) then (bif (decide (c51 ≤ (57 : Int))) then chk (decide (0 ≤ i50)) ((bd (w64 ((w64 (wu8 (c51 - (48 : Int)))) * 2 ^ (min i50.toNat 64))) fun (v62 : Int) => J (w64 (sum49 + v62)) (w64 (t52 + (1 : Int))))) else kxr (-1 : Int)) else kxr (-1 : Int)) else kxr (-1 : Int))
def impl_CheckDigit_k2 {R : Type} (n : Nat) (kx0 : Int → Option R) (kxr : Int → Option R) (J : Int → Int → Option R) (name1 : ByteArray) (sum4 : Int) (t5 : Int) : Option R :=
  ix t5 name1.size ((bif (decide (t5 < (4 : Int))) then (bif (decide ((byteAt name1 t5.toNat) ≥ (65 : Int))) then impl_CheckDigit_k0 n kx0 kxr J name1 sum4 t5 (byteAt name1 t5.toNat) t5 (decide ((byteAt name1 t5.toNat) ≤ (90 : Int))) else impl_CheckDigit_k1 n kx0 kxr J name1 sum4 t5 (byteAt name1 t5.toNat) t5) else impl_CheckDigit_k1 n kx0 kxr J name1 sum4 t5 (byteAt name1 t5.toNat) t5))
def impl_CheckDigit_L5 {R : Type} (n : Nat) (kx0 : Int → Option R) (kxr : Int → Option R) (J : Int → Int → Option R) (name1 : ByteArray) (sum2 : Int) (t3 : Int) : Option R :=
  (bif (decide (t3 < (10 : Int))) then impl_CheckDigit_k2 n kx0 kxr J name1 sum2 t3 else kx0 sum2)
def impl_CheckDigit_k3 (n : Nat)  (name0 : ByteArray) : Option Int :=
  loopN (fun (x : Int × Int) J' => impl_CheckDigit_L5 n (fun sum77 => (bd (Int.tmod sum77 (11 : Int)) fun (v78 : Int) => (bd (Int.tmod v78 (10 : Int)) fun (v79 : Int) => some (v79)))) (fun t80 => some (t80)) (fun sum81 t82 => J' (sum81, t82)) name0 x.1 x.2) n ((0 : Int), (0 : Int))
def impl_CheckDigit (n : Nat) (name0 : ByteArray) : Option Int :=
  (bif (!(decide ((name0.size : Int) = (10 : Int)))) then some ((-1 : Int)) else impl_CheckDigit_k3 n  name0)
def impl_BoxName (n : Nat) (text0 : ByteArray) : Option Bool :=
  (bif (!(decide ((text0.size : Int) = (11 : Int)))) then some (false) else chk (decide ((10 : Int) ≤ (text0.size : Int))) ((impl_CheckDigit n (text0.extract 0 10)).bind fun r3 => (bif (decide (r3 ≥ (0 : Int))) then ix (10 : Int) text0.size (some ((decide ((byteAt text0 10) = (wu8 (w64 ((48 : Int) + r3))))))) else some (false))))
def impl_portOk (n : Nat) (n0 : Int) : Option Bool :=
  (impl_in n n0 (0 : Int) (19 : Int)).bind fun r1 => some (r1)
def impl_BoxOk (n : Nat) (b0 : SBox) : Option Bool :=
  (impl_BoxName n b0.Name).bind fun r1 => (bif r1 then (impl_in n b0.Weight (1 : Int) (40000 : Int)).bind fun r2 => (bif r2 then (impl_in n b0.Class (0 : Int) (9 : Int)).bind fun r3 => (bif r3 then (impl_portOk n b0.From).bind fun r4 => (bif r4 then (impl_portOk n b0.To).bind fun r5 => (bif r5 then some ((decide (b0.From < b0.To))) else some (false)) else some (false)) else some (false)) else some (false)) else some (false))
def impl_StowCode_1 (n : Nat) (_0 : Int) (s1 : SStow) : Option Bool :=
  (impl_BoxOk n s1.Box).bind fun r1 => some ((!r1))
def impl_StowCode_2_1 (n : Nat) (x0 : SStow) (a1 : SStow) : Option Bool :=
  (bif (decide (x0.Box.Name = a1.Box.Name)) then some (true) else some (((decide (x0.Spot.Bay = a1.Spot.Bay)) && ((decide (x0.Spot.Row = a1.Spot.Row)) && (decide (x0.Spot.Tier = a1.Spot.Tier))))))
def slices_IndexFunc_impl_Stow_impl_Stow__impl_StowCode_2_1_L2 {R : Type} (n : Nat) (kx0 : Option R) (kxr : Int → Option R) (J : Int → Option R) (s1 : List SStow) (f2 : SStow) (t3 : Int) (t4 : Int) : Option R :=
  (bif (decide (t4 < t3)) then ix t4 s1.length ((bd (s1.getD t4.toNat dSStow) fun (e9 : SStow) => (impl_StowCode_2_1 n e9 f2).bind fun r10 => (bif r10 then kxr t4 else J (w64 (t4 + (1 : Int)))))) else kx0)
def slices_IndexFunc_impl_Stow_impl_Stow__impl_StowCode_2_1 (n : Nat) (s0 : List SStow) (f1c0 : SStow) : Option Int :=
  loopN (fun (x : Int) J' => slices_IndexFunc_impl_Stow_impl_Stow__impl_StowCode_2_1_L2 n (some ((-1 : Int))) (fun t12 => some (t12)) J' s0 f1c0 (s0.length : Int) x) n ((0 : Int))
def slices_ContainsFunc_impl_Stow_impl_Stow__impl_StowCode_2_1 (n : Nat) (s0 : List SStow) (f1c0 : SStow) : Option Bool :=
  (slices_IndexFunc_impl_Stow_impl_Stow__impl_StowCode_2_1 n s0 f1c0).bind fun r1 => some ((decide (r1 ≥ (0 : Int))))
def impl_StowCode_2 (n : Nat) (i0 : Int) (s1 : SStow) (a2 : List SStow) : Option Bool :=
  chk (decide ((0 : Int) ≤ i0)) (chk (decide (i0 ≤ (a2.length : Int))) ((slices_ContainsFunc_impl_Stow_impl_Stow__impl_StowCode_2_1 n (a2.take i0.toNat) s1).bind fun r1 => some (r1)))
def impl_StowCode_3 (n : Nat) (_0 : Int) (s1 : SStow) (a2 : List SHatch) : Option Bool :=
  (bd (w64 ((a2.length : Int) - (1 : Int))) fun (v1 : Int) => (impl_in n s1.Spot.Bay (0 : Int) v1).bind fun r2 => (bif (!r2) then some (true) else ix s1.Spot.Bay a2.length ((bd (a2.getD s1.Spot.Bay.toNat dSHatch) fun (e3 : SHatch) => (bd (w64 (e3.Rows - (1 : Int))) fun (v4 : Int) => (impl_in n s1.Spot.Row (0 : Int) v4).bind fun r5 => (bif (!r5) then some (true) else ix s1.Spot.Bay a2.length ((bd (a2.getD s1.Spot.Bay.toNat dSHatch) fun (e6 : SHatch) => (bd (w64 (e6.Tiers - (1 : Int))) fun (v7 : Int) => (impl_in n s1.Spot.Tier (0 : Int) v7).bind fun r8 => some ((!r8)))))))))))
def impl_StowCode_4_1 (n : Nat) (x0 : SStow) (a1 : SSpot) : Option Bool :=
  some (((decide (x0.Spot.Bay = a1.Bay)) && ((decide (x0.Spot.Row = a1.Row)) && (decide (x0.Spot.Tier = a1.Tier)))))
def slices_IndexFunc_impl_Stow_impl_Stow__impl_StowCode_4_1_L2 {R : Type} (n : Nat) (kx0 : Option R) (kxr : Int → Option R) (J : Int → Option R) (s1 : List SStow) (f2 : SSpot) (t3 : Int) (t4 : Int) : Option R :=
  (bif (decide (t4 < t3)) then ix t4 s1.length ((bd (s1.getD t4.toNat dSStow) fun (e9 : SStow) => (impl_StowCode_4_1 n e9 f2).bind fun r10 => (bif r10 then kxr t4 else J (w64 (t4 + (1 : Int)))))) else kx0)
def slices_IndexFunc_impl_Stow_impl_Stow__impl_StowCode_4_1 (n : Nat) (s0 : List SStow) (f1c0 : SSpot) : Option Int :=
  loopN (fun (x : Int) J' => slices_IndexFunc_impl_Stow_impl_Stow__impl_StowCode_4_1_L2 n (some ((-1 : Int))) (fun t12 => some (t12)) J' s0 f1c0 (s0.length : Int) x) n ((0 : Int))
def slices_ContainsFunc_impl_Stow_impl_Stow__impl_StowCode_4_1 (n : Nat) (s0 : List SStow) (f1c0 : SSpot) : Option Bool :=
  (slices_IndexFunc_impl_Stow_impl_Stow__impl_StowCode_4_1 n s0 f1c0).bind fun r1 => some ((decide (r1 ≥ (0 : Int))))
def impl_StowCode_4 (n : Nat) (_0 : Int) (s1 : SStow) (a2 : List SStow) : Option Bool :=
  (bd (w64 (s1.Spot.Tier - (1 : Int))) fun (v1 : Int) => (bif (decide (v1 ≥ (0 : Int))) then (slices_ContainsFunc_impl_Stow_impl_Stow__impl_StowCode_4_1 n a2 (⟨s1.Spot.Bay, s1.Spot.Row, v1⟩ : SSpot)).bind fun r2 => some ((!r2)) else some (false)))
def cmp_isNaN_int (n : Nat) (x0 : Int) : Option Bool :=
  some ((!(decide (x0 = x0))))
def cmp_Compare_int (n : Nat) (x0 : Int) (y1 : Int) : Option Int :=
  (cmp_isNaN_int n x0).bind fun r1 => (cmp_isNaN_int n y1).bind fun r2 => (bif r1 then (bif r2 then some ((0 : Int)) else some ((-1 : Int))) else (bif r2 then some ((1 : Int)) else (bif (decide (x0 < y1)) then some ((-1 : Int)) else (bif (decide (x0 > y1)) then some ((1 : Int)) else some ((0 : Int))))))
def impl_stackOf_1 (n : Nat) (a0 : SStow) (b1 : SStow) : Option Int :=
  (cmp_Compare_int n a0.Spot.Tier b1.Spot.Tier).bind fun r1 => some (r1)
def slices_SortFunc_impl_Stow_impl_Stow__impl_stackOf_1 (n : Nat) (l0 : List SStow) : Option (List SStow) :=
  sortL dSStow (fun a b => impl_stackOf_1 n a b) l0
def impl_stackOf_k0 {R : Type} (n : Nat) (kx0 : List SStow → Option R) (J : Int → List SStow → Option R) (bay1 : Int) (row2 : Int) (t3 : List SStow) (t4 : Int) (t7 : Int) (l8 : List SStow) : Option R :=
  ix t7 t3.length ((bd (t3.getD t7.toNat dSStow) fun (e9 : SStow) => (bif (decide (e9.Spot.Bay = bay1)) then (bif (decide (e9.Spot.Row = row2)) then chk (decide ((l8 ++ [e9]).length * 80 ≤ 140737488355328)) (J (w64 (t7 + (1 : Int))) (l8 ++ [e9])) else J (w64 (t7 + (1 : Int))) l8) else J (w64 (t7 + (1 : Int))) l8)))
def impl_stackOf_L3 {R : Type} (n : Nat) (kx0 : List SStow → Option R) (J : Int → List SStow → Option R) (bay1 : Int) (row2 : Int) (t3 : List SStow) (t4 : Int) (t5 : Int) (l6 : List SStow) : Option R :=
  (bif (decide (t5 < t4)) then impl_stackOf_k0 n kx0 J bay1 row2 t3 t4 t5 l6 else kx0 l6)
def impl_stackOf_L11 {R : Type} (n : Nat) (kx2 : List SBox → Option R) (J : Int → List SBox → Option R) (t31 : Int) (t32 : Int) (out33 : List SBox) (t34 : List SStow) : Option R :=
  (bif (decide (t32 < t31)) then ix t32 t34.length (chk (decide (t32.toNat < t34.length)) ((bd (t34.getD t32.toNat dSStow) fun (e38 : SStow) => chk (decide ((out33 ++ [e38.Box]).length * 56 ≤ 140737488355328)) (J (w64 (t32 + (1 : Int))) (out33 ++ [e38.Box]))))) else kx2 out33)
def impl_stackOf (n : Nat) (list0 : List SStow) (bay1 : Int) (row2 : Int) : Option (List SBox) :=
  loopN (fun (x : Int × List SStow) J' => impl_stackOf_L3 n (fun l29 => (slices_SortFunc_impl_Stow_impl_Stow__impl_stackOf_1 n l29).bind fun r30 => loopN (fun (x : Int × List SBox) J' => impl_stackOf_L11 n (fun out39 => some (out39)) (fun t40 out41 => J' (t40, out41)) (r30.length : Int) x.1 x.2 r30) n ((0 : Int), [])) (fun t42 l43 => J' (t42, l43)) bay1 row2 list0 (list0.length : Int) x.1 x.2) n ((0 : Int), [])
def impl_StackOk_k0 {R : Type} (n : Nat) (kx0 : Int → Option R) (kxr : Bool → Option R) (J : Int → Int → Option R) (boxes3 : List SBox) (most4 : Int) (sum9 : Int) (t6 : List SBox) (t7 : Int) (t10 : Int) : Option R :=
  ix t10 t6.length ((bd (t6.getD t10.toNat dSBox) fun (e11 : SBox) => (impl_BoxOk n e11).bind fun r12 => (bif (!r12) then kxr false else (bif (decide (t10 > (0 : Int))) then ix (w64 (t10 - (1 : Int))) boxes3.length ((bd (boxes3.getD ((w64 (t10 - (1 : Int))).toNat) dSBox) fun (e16 : SBox) => (bif (decide (e11.Weight > e16.Weight)) then kxr false else (bif e11.Cold then (bif (decide (t10 > (1 : Int))) then kxr false else (bd (w64 (sum9 + e11.Weight)) fun (v36 : Int) => J v36 (w64 (t10 + (1 : Int))))) else (bd (w64 (sum9 + e11.Weight)) fun (v51 : Int) => J v51 (w64 (t10 + (1 : Int)))))))) else (bif e11.Cold then (bif (decide (t10 > (1 : Int))) then kxr false else (bd (w64 (sum9 + e11.Weight)) fun (v61 : Int) => J v61 (w64 (t10 + (1 : Int))))) else (bd (w64 (sum9 + e11.Weight)) fun (v70 : Int) => J v70 (w64 (t10 + (1 : Int)))))))))
def impl_StackOk_L5 {R : Type} (n : Nat) (kx0 : Int → Option R) (kxr : Bool → Option R) (J : Int → Int → Option R) (boxes3 : List SBox) (most4 : Int) (sum5 : Int) (t6 : List SBox) (t7 : Int) (t8 : Int) : Option R :=
  (bif (decide (t8 < t7)) then impl_StackOk_k0 n kx0 kxr J boxes3 most4 sum5 t6 t7 t8 else kx0 sum5)
def impl_StackOk (n : Nat) (boxes0 : List SBox) (most1 : Int) : Option Bool :=
  (bif (decide ((boxes0.length : Int) > (20 : Int))) then some (false) else (impl_in n most1 (0 : Int) (1000000 : Int)).bind fun r1 => (bif (!r1) then some (false) else loopN (fun (x : Int × Int) J' => impl_StackOk_L5 n (fun sum81 => some ((decide (sum81 ≤ most1)))) (fun t82 => some (t82)) (fun sum83 t84 => J' (sum83, t84)) boxes0 most1 x.1 boxes0 (boxes0.length : Int) x.2) n ((0 : Int), (0 : Int))))
def impl_StowCode_5 (n : Nat) (_0 : Int) (s1 : SStow) (a2 : List SStow) (a3 : List SHatch) : Option Bool :=
  (impl_stackOf n a2 s1.Spot.Bay s1.Spot.Row).bind fun r1 => ix s1.Spot.Bay a3.length ((bd (a3.getD s1.Spot.Bay.toNat dSHatch) fun (e2 : SHatch) => (impl_StackOk n r1 e2.Most).bind fun r3 => some ((!r3))))
def impl_StowCode_6_L3 {R : Type} (n : Nat) (kx0 : Int → Option R) (J : Int → Int → Option R) (t1 : List SHatch) (n2 : Int) (t3 : List SStow) (t4 : Int) (t5 : Int) (s6 : SStow) : Option R :=
  (bif (decide (t5 < t4)) then ix t5 t3.length ((bd (t3.getD t5.toNat dSStow) fun (e27 : SStow) => (bif e27.Box.Cold then (bif (decide (e27.Spot.Bay = s6.Spot.Bay)) then J (w64 (n2 + (1 : Int))) (w64 (t5 + (1 : Int))) else J n2 (w64 (t5 + (1 : Int)))) else J n2 (w64 (t5 + (1 : Int)))))) else kx0 n2)
def impl_StowCode_6 (n : Nat) (_0 : Int) (s1 : SStow) (a2 : List SStow) (a3 : List SHatch) : Option Bool :=
  loopN (fun (x : Int × Int) J' => impl_StowCode_6_L3 n (fun n39 => (bif s1.Box.Cold then ix s1.Spot.Bay a3.length ((bd (a3.getD s1.Spot.Bay.toNat dSHatch) fun (e40 : SHatch) => some ((decide (n39 > e40.Plugs))))) else some (false))) (fun n42 t43 => J' (n42, t43)) a3 x.1 a2 (a2.length : Int) x.2 s1) n ((0 : Int), (0 : Int))
def impl_spotOk (n : Nat) (s0 : SSpot) : Option Bool :=
  (impl_in n s0.Bay (0 : Int) (19 : Int)).bind fun r1 => (bif r1 then (impl_in n s0.Row (0 : Int) (19 : Int)).bind fun r2 => (bif r2 then (impl_in n s0.Tier (0 : Int) (19 : Int)).bind fun r3 => some (r3) else some (false)) else some (false))
def impl_size (n : Nat) (n0 : Int) : Option Int :=
  (bif (decide (n0 < (0 : Int))) then some ((w64 (0 - n0))) else some (n0))
def impl_Apart_k0 (n : Nat)  (x6 : Int) (y7 : Int) (t8 : Bool) : Option Int :=
  (bif t8 then some ((0 : Int)) else (bif (decide (x6 = (1 : Int))) then some ((3 : Int)) else (bd (Int.tmod (w64 (x6 * y7)) (6 : Int)) fun (v9 : Int) => (bif (decide (v9 = (0 : Int))) then some ((2 : Int)) else (bd (Int.tmod (w64 (x6 + y7)) (2 : Int)) fun (v10 : Int) => (bif (decide (v10 = (1 : Int))) then some ((1 : Int)) else some ((0 : Int))))))))
def impl_Apart_k1 (n : Nat)  (a0 : Int) (b1 : Int) (t3 : Bool) : Option Int :=
  (bif t3 then some ((-1 : Int)) else (bif (decide ((if b1 < a0 then b1 else a0) = (0 : Int))) then some ((0 : Int)) else impl_Apart_k0 n  (if b1 < a0 then b1 else a0) (if b1 > a0 then b1 else a0) (decide ((if b1 < a0 then b1 else a0) = (if b1 > a0 then b1 else a0)))))
def impl_Apart (n : Nat) (a0 : Int) (b1 : Int) : Option Int :=
  (impl_in n a0 (0 : Int) (9 : Int)).bind fun r1 => (bif (!r1) then some ((-1 : Int)) else (impl_in n b1 (0 : Int) (9 : Int)).bind fun r2 => impl_Apart_k1 n  a0 b1 (!r2))
def impl_KeepsApart_k0 (n : Nat)  (a0 : SBox) (sa1 : SSpot) (b2 : SBox) (sb3 : SSpot) : Option Bool :=
  (bd (w64 (sa1.Bay - sb3.Bay)) fun (v6 : Int) => (impl_size n v6).bind fun r7 => (bd (w64 (sa1.Row - sb3.Row)) fun (v8 : Int) => (impl_size n v8).bind fun r9 => (bd (w64 (sa1.Tier - sb3.Tier)) fun (v10 : Int) => (impl_size n v10).bind fun r11 => (impl_Apart n a0.Class b2.Class).bind fun r12 => (bif (decide (r12 = (0 : Int))) then some (true) else (bif (decide (r12 = (1 : Int))) then (bd (w64 ((w64 (r7 + r9)) + r11)) fun (v13 : Int) => some ((!(decide (v13 = (1 : Int)))))) else (bif (decide (r12 = (2 : Int))) then some ((decide (r7 ≥ (2 : Int)))) else some (false)))))))
def impl_KeepsApart (n : Nat) (a0 : SBox) (sa1 : SSpot) (b2 : SBox) (sb3 : SSpot) : Option Bool :=
  (impl_BoxOk n a0).bind fun r1 => (bif (!r1) then some (false) else (impl_BoxOk n b2).bind fun r2 => (bif (!r2) then some (false) else (impl_spotOk n sa1).bind fun r3 => (bif (!r3) then some (false) else (impl_spotOk n sb3).bind fun r4 => (bif (!r4) then some (false) else (bif ((decide (sa1.Bay = sb3.Bay)) && ((decide (sa1.Row = sb3.Row)) && (decide (sa1.Tier = sb3.Tier)))) then some (false) else impl_KeepsApart_k0 n  a0 sa1 b2 sb3)))))
def impl_StowCode_7_1 (n : Nat) (x0 : SStow) (a1 : SStow) : Option Bool :=
  (impl_KeepsApart n x0.Box x0.Spot a1.Box a1.Spot).bind fun r1 => some ((!r1))
def slices_IndexFunc_impl_Stow_impl_Stow__impl_StowCode_7_1_L2 {R : Type} (n : Nat) (kx0 : Option R) (kxr : Int → Option R) (J : Int → Option R) (s1 : List SStow) (f2 : SStow) (t3 : Int) (t4 : Int) : Option R :=
  (bif (decide (t4 < t3)) then ix t4 s1.length ((bd (s1.getD t4.toNat dSStow) fun (e9 : SStow) => (impl_StowCode_7_1 n e9 f2).bind fun r10 => (bif r10 then kxr t4 else J (w64 (t4 + (1 : Int)))))) else kx0)
def slices_IndexFunc_impl_Stow_impl_Stow__impl_StowCode_7_1 (n : Nat) (s0 : List SStow) (f1c0 : SStow) : Option Int :=
  loopN (fun (x : Int) J' => slices_IndexFunc_impl_Stow_impl_Stow__impl_StowCode_7_1_L2 n (some ((-1 : Int))) (fun t12 => some (t12)) J' s0 f1c0 (s0.length : Int) x) n ((0 : Int))
def slices_ContainsFunc_impl_Stow_impl_Stow__impl_StowCode_7_1 (n : Nat) (s0 : List SStow) (f1c0 : SStow) : Option Bool :=
  (slices_IndexFunc_impl_Stow_impl_Stow__impl_StowCode_7_1 n s0 f1c0).bind fun r1 => some ((decide (r1 ≥ (0 : Int))))
def impl_StowCode_7 (n : Nat) (i0 : Int) (s1 : SStow) (a2 : List SStow) : Option Bool :=
  chk (decide ((0 : Int) ≤ i0)) (chk (decide (i0 ≤ (a2.length : Int))) ((slices_ContainsFunc_impl_Stow_impl_Stow__impl_StowCode_7_1 n (a2.take i0.toNat) s1).bind fun r1 => some (r1)))
def impl_StowCode_k0 {R : Type} (n : Nat) (kx2 : Option R) (kxr : Int → Int → Option R) (J : Int → Option R) (list9 : List SStow) (t10 : Int) (t11 : Int) (t12 : List SStow) (t13 : Int) (t17 : Int) (reason15 : SAnon117) (t16 : List SAnon117) : Option R :=
  ix t17 t12.length ((bd (t12.getD t17.toNat dSStow) fun (e18 : SStow) => (bif (Nat.beq reason15.is.ix 0) then (impl_StowCode_1 n t17 e18).bind fun r19 => (bif r19 then kxr reason15.code t17 else J (w64 (t17 + (1 : Int)))) else (bif (Nat.beq reason15.is.ix 1) then (impl_StowCode_2 n t17 e18 reason15.is.a0).bind fun r21 => (bif r21 then kxr reason15.code t17 else J (w64 (t17 + (1 : Int)))) else (bif (Nat.beq reason15.is.ix 2) then (impl_StowCode_3 n t17 e18 reason15.is.a1).bind fun r23 => (bif r23 then kxr reason15.code t17 else J (w64 (t17 + (1 : Int)))) else (bif (Nat.beq reason15.is.ix 3) then (impl_StowCode_4 n t17 e18 reason15.is.a0).bind fun r25 => (bif r25 then kxr reason15.code t17 else J (w64 (t17 + (1 : Int)))) else (bif (Nat.beq reason15.is.ix 4) then (impl_StowCode_5 n t17 e18 reason15.is.a0 reason15.is.a1).bind fun r27 => (bif r27 then kxr reason15.code t17 else J (w64 (t17 + (1 : Int)))) else (bif (Nat.beq reason15.is.ix 5) then (impl_StowCode_6 n t17 e18 reason15.is.a0 reason15.is.a1).bind fun r29 => (bif r29 then kxr reason15.code t17 else J (w64 (t17 + (1 : Int)))) else (bif (Nat.beq reason15.is.ix 6) then (impl_StowCode_7 n t17 e18 reason15.is.a0).bind fun r31 => (bif r31 then kxr reason15.code t17 else J (w64 (t17 + (1 : Int)))) else none)))))))))
def impl_StowCode_L7 {R : Type} (n : Nat) (kx2 : Option R) (kxr : Int → Int → Option R) (J : Int → Option R) (list9 : List SStow) (t10 : Int) (t11 : Int) (t12 : List SStow) (t13 : Int) (t14 : Int) (reason15 : SAnon117) (t16 : List SAnon117) : Option R :=
  (bif (decide (t14 < t13)) then impl_StowCode_k0 n kx2 kxr J list9 t10 t11 t12 t13 t14 reason15 t16 else kx2)
def impl_StowCode_k1 {R : Type} (n : Nat) (kx0 : Option R) (kxr : Int → Int → Option R) (J : Int → Option R) (list3 : List SStow) (t4 : Int) (t7 : Int) (t6 : List SAnon117) : Option R :=
  ix t7 t6.length (chk (decide (t7.toNat < t6.length)) ((bd (t6.getD t7.toNat dSAnon117) fun (e8 : SAnon117) => (bif (decide (t7.toNat < 0)) then loopN (fun (x : Int) J' => impl_StowCode_L7 n (J (w64 (t7 + (1 : Int)))) (fun t33 t34 => kxr t33 t34) J' list3 t4 t7 list3 (list3.length : Int) x e8 t6) n ((0 : Int)) else loopN (fun (x : Int) J' => impl_StowCode_L7 n (J (w64 (t7 + (1 : Int)))) (fun t36 t37 => kxr t36 t37) J' list3 t4 t7 list3 (list3.length : Int) x e8 t6) n ((0 : Int))))))
def impl_StowCode_L4 {R : Type} (n : Nat) (kx0 : Option R) (kxr : Int → Int → Option R) (J : Int → Option R) (list3 : List SStow) (t4 : Int) (t5 : Int) (t6 : List SAnon117) : Option R :=
  (bif (decide (t5 < t4)) then impl_StowCode_k1 n kx0 kxr J list3 t4 t5 t6 else kx0)
def impl_StowCode_k2 (n : Nat)  (bays0 : List SHatch) (list1 : List SStow) : Option (Int × Int) :=
  loopN (fun (x : Int) J' => impl_StowCode_L4 n (some ((0 : Int), (0 : Int))) (fun t39 t40 => some (t39, t40)) J' list1 (7 : Int) x [(⟨(1 : Int), (⟨0, [], []⟩ : SFn116)⟩ : SAnon117), (⟨(2 : Int), (⟨1, list1, []⟩ : SFn116)⟩ : SAnon117), (⟨(3 : Int), (⟨2, [], bays0⟩ : SFn116)⟩ : SAnon117), (⟨(4 : Int), (⟨3, list1, []⟩ : SFn116)⟩ : SAnon117), (⟨(5 : Int), (⟨4, list1, bays0⟩ : SFn116)⟩ : SAnon117), (⟨(6 : Int), (⟨5, list1, bays0⟩ : SFn116)⟩ : SAnon117), (⟨(7 : Int), (⟨6, list1, []⟩ : SFn116)⟩ : SAnon117)]) n ((0 : Int))
def impl_StowCode (n : Nat) (bays0 : List SHatch) (list1 : List SStow) : Option (Int × Int) :=
  (impl_HatchesOk n bays0).bind fun r1 => (bif (!r1) then some ((1 : Int), (0 : Int)) else (bif (decide ((list1.length : Int) > (40 : Int))) then some ((1 : Int), (0 : Int)) else impl_StowCode_k2 n  bays0 list1))
def impl_over (n : Nat) (a0 : SSpot) (b1 : SSpot) : Option Bool :=
  (bif (decide (a0.Bay = b1.Bay)) then (bif (decide (a0.Row = b1.Row)) then some ((decide (a0.Tier > b1.Tier))) else some (false)) else some (false))
def impl_own_int (n : Nat) (l0 : List Int) : Option (List Int) :=
  chk (decide ((0 : Int) ≤ (l0.length : Int))) (chk (decide ((l0.length : Int) ≤ 9223372036854775807 ∧ (l0.length : Int) * (8 : Int) ≤ 281474976710656)) (chk (decide (l0.length * 8 ≤ 140737488355328)) (some (l0))))
def impl_Shifts_k0 {R : Type} (n : Nat) (kx2 : Bool → Option R) (kxr : Bool → List Int → Option R) (J : Bool → Int → Option R) (list12 : List SStow) (port13 : Int) (i14 : Int) (lifted31 : Bool) (t16 : List SStow) (t17 : Int) (t18 : Int) (t19 : List SStow) (t20 : Int) (t32 : Int) (out22 : List Int) (s23 : SStow) (x33 : SStow) : Option R :=
  (bif lifted31 then J true (w64 (t32 + (1 : Int))) else (bif (decide (s23.Box.To > port13)) then (bif (decide (x33.Box.To = port13)) then (impl_over n s23.Spot x33.Spot).bind fun r35 => J r35 (w64 (t32 + (1 : Int))) else J false (w64 (t32 + (1 : Int)))) else J false (w64 (t32 + (1 : Int)))))
def impl_Shifts_k1 {R : Type} (n : Nat) (kx2 : Bool → Option R) (kxr : Bool → List Int → Option R) (J : Bool → Int → Option R) (list12 : List SStow) (port13 : Int) (i14 : Int) (lifted24 : Bool) (t16 : List SStow) (t17 : Int) (t18 : Int) (t19 : List SStow) (t20 : Int) (t25 : Int) (out22 : List Int) (s23 : SStow) : Option R :=
  ix t25 t19.length ((bd (t19.getD t25.toNat dSStow) fun (e26 : SStow) => (bif (decide (t25 < i14)) then (bif ((decide (e26.Spot.Bay = s23.Spot.Bay)) && ((decide (e26.Spot.Row = s23.Spot.Row)) && (decide (e26.Spot.Tier = s23.Spot.Tier)))) then kxr false [] else impl_Shifts_k0 n kx2 kxr J list12 port13 i14 lifted24 t16 t17 t18 t19 t20 t25 out22 s23 e26) else impl_Shifts_k0 n kx2 kxr J list12 port13 i14 lifted24 t16 t17 t18 t19 t20 t25 out22 s23 e26)))
def impl_Shifts_L9 {R : Type} (n : Nat) (kx2 : Bool → Option R) (kxr : Bool → List Int → Option R) (J : Bool → Int → Option R) (list12 : List SStow) (port13 : Int) (i14 : Int) (lifted15 : Bool) (t16 : List SStow) (t17 : Int) (t18 : Int) (t19 : List SStow) (t20 : Int) (t21 : Int) (out22 : List Int) (s23 : SStow) : Option R :=
  (bif (decide (t21 < t20)) then impl_Shifts_k1 n kx2 kxr J list12 port13 i14 lifted15 t16 t17 t18 t19 t20 t21 out22 s23 else kx2 lifted15)
def impl_Shifts_k2 {R : Type} (n : Nat) (kx0 : List Int → Option R) (kxr : Bool → List Int → Option R) (J : Int → List Int → Option R) (list3 : List SStow) (port4 : Int) (t5 : List SStow) (t6 : Int) (t9 : Int) (out10 : List Int) : Option R :=
  ix t9 t5.length ((bd (t5.getD t9.toNat dSStow) fun (e11 : SStow) => loopN (fun (x : Bool × Int) J' => impl_Shifts_L9 n (fun lifted52 => (bif lifted52 then chk (decide ((out10 ++ [t9]).length * 8 ≤ 140737488355328)) (J (w64 (t9 + (1 : Int))) (out10 ++ [t9])) else J (w64 (t9 + (1 : Int))) out10)) (fun t57 t58 => kxr t57 t58) (fun lifted59 t60 => J' (lifted59, t60)) list3 port4 t9 x.1 t5 t6 t9 list3 (list3.length : Int) x.2 out10 e11) n (false, (0 : Int))))
def impl_Shifts_L5 {R : Type} (n : Nat) (kx0 : List Int → Option R) (kxr : Bool → List Int → Option R) (J : Int → List Int → Option R) (list3 : List SStow) (port4 : Int) (t5 : List SStow) (t6 : Int) (t7 : Int) (out8 : List Int) : Option R :=
  (bif (decide (t7 < t6)) then impl_Shifts_k2 n kx0 kxr J list3 port4 t5 t6 t7 out8 else kx0 out8)
def impl_Shifts_k3 (n : Nat)  (list0 : List SStow) (port1 : Int) (t2 : Bool) : Option (List Int × Bool) :=
  (bif t2 then some ([], false) else loopN (fun (x : Int × List Int) J' => impl_Shifts_L5 n (fun out67 => (impl_own_int n out67).bind fun r68 => some (r68, true)) (fun t69 t70 => some (t70, t69)) (fun t71 out72 => J' (t71, out72)) list0 port1 list0 (list0.length : Int) x.1 x.2) n ((0 : Int), []))
def impl_Shifts (n : Nat) (list0 : List SStow) (port1 : Int) : Option (List Int × Bool) :=
  (bif (decide ((list0.length : Int) > (40 : Int))) then some ([], false) else (impl_portOk n port1).bind fun r1 => impl_Shifts_k3 n  list0 port1 (!r1))
def impl_AtPort_k0 {R : Type} (n : Nat) (kx0 : List SStow → Option R) (kxr : Int → Int → Option R) (J : Int → List SStow → Option R) (bays9 : List SHatch) (list10 : List SStow) (port11 : Int) (plan12 : List SStow) (t13 : List SStow) (t14 : Int) (t18 : Int) (was16 : List SStow) (then19 : List SStow) : Option R :=
  ix t18 t13.length ((bd (t13.getD t18.toNat dSStow) fun (e20 : SStow) => (bif (decide (e20.Box.To < port11)) then kxr (0 : Int) (2 : Int) else (bif (decide (e20.Box.From > port11)) then kxr (0 : Int) (2 : Int) else (bif (!(decide (e20.Box.To = port11))) then chk (decide ((then19 ++ [e20]).length * 80 ≤ 140737488355328)) (J (w64 (t18 + (1 : Int))) (then19 ++ [e20])) else J (w64 (t18 + (1 : Int))) then19)))))
def impl_AtPort_L7 {R : Type} (n : Nat) (kx0 : List SStow → Option R) (kxr : Int → Int → Option R) (J : Int → List SStow → Option R) (bays9 : List SHatch) (list10 : List SStow) (port11 : Int) (plan12 : List SStow) (t13 : List SStow) (t14 : Int) (t15 : Int) (was16 : List SStow) (then17 : List SStow) : Option R :=
  (bif (decide (t15 < t14)) then impl_AtPort_k0 n kx0 kxr J bays9 list10 port11 plan12 t13 t14 t15 was16 then17 else kx0 then17)
def impl_AtPort_L15 {R : Type} (n : Nat) (kx2 : List SStow → Option R) (kxr : Int → Int → Option R) (J : Int → List SStow → Option R) (bays47 : List SHatch) (list48 : List SStow) (port49 : Int) (t50 : List SStow) (t51 : Int) (t52 : Int) (was53 : List SStow) (then54 : List SStow) : Option R :=
  (bif (decide (t52 < t51)) then ix t52 t50.length ((bd (t50.getD t52.toNat dSStow) fun (e65 : SStow) => (bif (!(decide (e65.Box.From = port49))) then kxr (0 : Int) (2 : Int) else chk (decide ((then54 ++ [e65]).length * 80 ≤ 140737488355328)) (J (w64 (t52 + (1 : Int))) (then54 ++ [e65]))))) else kx2 then54)
def impl_AtPort_k1 (n : Nat)  (bays0 : List SHatch) (list1 : List SStow) (port2 : Int) (plan3 : List SStow) (t8 : List SStow) : Option (List SStow × Int × Int) :=
  loopN (fun (x : Int × List SStow) J' => impl_AtPort_L7 n (fun then46 => loopN (fun (x : Int × List SStow) J' => impl_AtPort_L15 n (fun then71 => (impl_StowCode n bays0 then71).bind fun r72 => (bif (!(decide (r72.1 = (0 : Int)))) then some (t8, (0 : Int), (3 : Int)) else (impl_Shifts n list1 port2).bind fun r76 => (impl_own_impl_Stow n then71).bind fun r77 => some (r77, (r76.1.length : Int), (0 : Int)))) (fun t78 t79 => some (t8, t78, t79)) (fun t80 then81 => J' (t80, then81)) bays0 list1 port2 plan3 (plan3.length : Int) x.1 t8 x.2) n ((0 : Int), then46)) (fun t82 t83 => some (t8, t82, t83)) (fun t84 then85 => J' (t84, then85)) bays0 list1 port2 plan3 list1 (list1.length : Int) x.1 t8 x.2) n ((0 : Int), [])
def impl_AtPort (n : Nat) (bays0 : List SHatch) (list1 : List SStow) (port2 : Int) (plan3 : List SStow) : Option (List SStow × Int × Int) :=
  (impl_own_impl_Stow n list1).bind fun r1 => (impl_StowCode n bays0 list1).bind fun r2 => (bif (!(decide (r2.1 = (0 : Int)))) then some (r1, (0 : Int), (1 : Int)) else (bif (decide ((plan3.length : Int) > (40 : Int))) then some (r1, (0 : Int), (1 : Int)) else (impl_portOk n port2).bind fun r5 => (bif (!r5) then some (r1, (0 : Int), (1 : Int)) else impl_AtPort_k1 n  bays0 list1 port2 plan3 r1)))
def laws_FnVoyage_L17 {R : Type} (n : Nat) (kx0 : Int → Option R) (J : Int → Int → Option R) (list43 : List SStow) (port44 : Int) (plan45 : List SStow) (stay46 : Int) (i47 : Int) (out48 : List SStow) (shifts49 : List Int) : Option R :=
  (bif (decide (i47 < (list43.length : Int))) then ix i47 list43.length ((bd (list43.getD i47.toNat dSStow) fun (e58 : SStow) => (bif (!(decide (e58.Box.To = port44))) then (bd (w64 (stay46 + (1 : Int))) fun (v59 : Int) => J v59 (w64 (i47 + (1 : Int)))) else J stay46 (w64 (i47 + (1 : Int)))))) else kx0 stay46)
def laws_FnVoyage_k0 {R : Type} (n : Nat) (kx4 : Bool → Option R) (J : Bool → Int → Option R) (list74 : List SStow) (port75 : Int) (plan76 : List SStow) (stay77 : Int) (i78 : Int) (over84 : Bool) (k85 : Int) (out81 : List SStow) (shifts82 : List Int) (s83 : SStow) : Option R :=
  ix k85 list74.length ((bd (list74.getD k85.toNat dSStow) fun (e86 : SStow) => (bif over84 then J true (w64 (k85 + (1 : Int))) else (bif (decide (e86.Box.To = port75)) then (bif (decide (e86.Spot.Bay = s83.Spot.Bay)) then (bif (decide (e86.Spot.Row = s83.Spot.Row)) then J (decide (e86.Spot.Tier < s83.Spot.Tier)) (w64 (k85 + (1 : Int))) else J false (w64 (k85 + (1 : Int)))) else J false (w64 (k85 + (1 : Int)))) else J false (w64 (k85 + (1 : Int)))))))
def laws_FnVoyage_L27 {R : Type} (n : Nat) (kx4 : Bool → Option R) (J : Bool → Int → Option R) (list74 : List SStow) (port75 : Int) (plan76 : List SStow) (stay77 : Int) (i78 : Int) (over79 : Bool) (k80 : Int) (out81 : List SStow) (shifts82 : List Int) (s83 : SStow) : Option R :=
  (bif (decide (k80 < (list74.length : Int))) then laws_FnVoyage_k0 n kx4 J list74 port75 plan76 stay77 i78 over79 k80 out81 shifts82 s83 else kx4 over79)
def laws_FnVoyage_k1 {R : Type} (n : Nat) (kx2 : Option R) (kxr : Bool → Option R) (J : Int → Option R) (list65 : List SStow) (port66 : Int) (plan67 : List SStow) (stay68 : Int) (i72 : Int) (out70 : List SStow) (shifts71 : List Int) : Option R :=
  ix i72 shifts71.length (chk (decide (i72.toNat < shifts71.length)) (ix (shifts71.getD i72.toNat (0 : Int)) list65.length ((bd (list65.getD ((shifts71.getD i72.toNat (0 : Int)).toNat) dSStow) fun (e73 : SStow) => loopN (fun (x : Bool × Int) J' => laws_FnVoyage_L27 n (fun over93 => (bif (!over93) then kxr false else (bif (decide (e73.Box.To ≤ port66)) then kxr false else J (w64 (i72 + (1 : Int)))))) (fun over99 k100 => J' (over99, k100)) list65 port66 plan67 stay68 i72 x.1 x.2 out70 shifts71 e73) n (false, (0 : Int))))))
def laws_FnVoyage_L22 {R : Type} (n : Nat) (kx2 : Option R) (kxr : Bool → Option R) (J : Int → Option R) (list65 : List SStow) (port66 : Int) (plan67 : List SStow) (stay68 : Int) (i69 : Int) (out70 : List SStow) (shifts71 : List Int) : Option R :=
  (bif (decide (i69 < (shifts71.length : Int))) then laws_FnVoyage_k1 n kx2 kxr J list65 port66 plan67 stay68 i69 out70 shifts71 else kx2)
def laws_FnVoyage_L34 {R : Type} (n : Nat) (kx6 : Option R) (kxr : Bool → Option R) (J : Int → Option R) (port101 : Int) (plan102 : List SStow) (stay103 : Int) (i104 : Int) (out105 : List SStow) : Option R :=
  (bif (decide (i104 < (out105.length : Int))) then ix i104 out105.length (chk (decide (i104.toNat < out105.length)) ((bif (decide ((out105.getD i104.toNat dSStow).Box.To = port101)) then kxr false else J (w64 (i104 + (1 : Int)))))) else kx6)
def laws_FnVoyage_k2 (n : Nat)  (list38 : List SStow) (port39 : Int) (plan40 : List SStow) (t41 : List SStow) (t42 : List Int) : Option Bool :=
  loopN (fun (x : Int × Int) J' => laws_FnVoyage_L17 n (fun stay64 => loopN (fun (x : Int) J' => laws_FnVoyage_L22 n (loopN (fun (x : Int) J' => laws_FnVoyage_L34 n ((bd (w64 (stay64 + (plan40.length : Int))) fun (v109 : Int) => some ((decide ((t41.length : Int) = v109))))) (fun t110 => some (t110)) J' port39 plan40 stay64 x t41) n ((0 : Int))) (fun t112 => some (t112)) J' list38 port39 plan40 stay64 x t41 t42) n ((0 : Int))) (fun stay114 i115 => J' (stay114, i115)) list38 port39 plan40 x.1 x.2 t41 t42) n ((0 : Int), (0 : Int))
def laws_FnVoyage_k3 (n : Nat)  (bays14 : List SHatch) (list15 : List SStow) (port16 : Int) (plan17 : List SStow) (many18 : Int) (t19 : List SStow) : Option Bool :=
  (impl_StowCode n bays14 t19).bind fun r20 => (impl_Shifts n list15 port16).bind fun r21 => (bif (!(decide (r20.1 = (0 : Int)))) then some (false) else (bif (!r21.2) then some (false) else (bif (!(decide ((r21.1.length : Int) = many18))) then some (false) else laws_FnVoyage_k2 n  list15 port16 plan17 t19 r21.1)))
def laws_FnVoyage_k4 (n : Nat)  (code0 : List Int) : Option Bool :=
  (spec_DrawAtPort n code0).bind fun r2 => (impl_AtPort n r2.1 r2.2.1 r2.2.2.1 r2.2.2.2).bind fun r3 => (impl_StowCode n r2.1 r2.2.1).bind fun r4 => (spec_StowCode n r2.1 r2.2.1).bind fun r5 => (bif (!(decide (r4.1 = r5.1))) then some (false) else (bif (!(decide (r3.2.2 = (0 : Int)))) then (bif (decide ((r3.1.length : Int) = (r2.2.1.length : Int))) then some ((decide (r3.2.1 = (0 : Int)))) else some (false)) else laws_FnVoyage_k3 n  r2.1 r2.2.1 r2.2.2.1 r2.2.2.2 r3.2.1 r3.1))
def laws_FnVoyage (n : Nat) (code0 : List Int) : Option Bool :=
  (laws_big n code0).bind fun r1 => (bif r1 then some (true) else laws_FnVoyage_k4 n  code0)
def rng (a b x : Int) : Prop := a ≤ x ∧ x ≤ b
def wfSHatch (x : SHatch) : Prop := rng (-9223372036854775808) 9223372036854775807 x.Rows ∧ rng (-9223372036854775808) 9223372036854775807 x.Tiers ∧ rng (-9223372036854775808) 9223372036854775807 x.Most ∧ rng (-9223372036854775808) 9223372036854775807 x.Plugs
def wfSBox (x : SBox) : Prop := x.Name.size ≤ 9223372036854775807 ∧ rng (-9223372036854775808) 9223372036854775807 x.Weight ∧ rng (-9223372036854775808) 9223372036854775807 x.Class ∧ True ∧ rng (-9223372036854775808) 9223372036854775807 x.From ∧ rng (-9223372036854775808) 9223372036854775807 x.To
def wfSSpot (x : SSpot) : Prop := rng (-9223372036854775808) 9223372036854775807 x.Bay ∧ rng (-9223372036854775808) 9223372036854775807 x.Row ∧ rng (-9223372036854775808) 9223372036854775807 x.Tier
def wfSStow (x : SStow) : Prop := wfSBox x.Box ∧ wfSSpot x.Spot
def wfSl1Cur (x : Sl1Cur) : Prop := (x.b.length ≤ 9223372036854775807 ∧ ∀ y ∈ x.b, rng 0 255 y) ∧ rng (-9223372036854775808) 9223372036854775807 x.i ∧ rng (-9223372036854775808) 9223372036854775807 x.h
end Go.Sm

section
set_option linter.unusedSimpArgs false
set_option linter.deprecated false
set_option linter.unusedSectionVars false
set_option linter.unusedVariables false
namespace Go.Sm
/-! ### Of the words that printed functions are made of -/
theorem w64_id {x : Int} (h1 : -9223372036854775808 ≤ x) (h2 : x ≤ 9223372036854775807) : w64 x = x := by
  show (let m := x % (2 ^ 64 : Int); if (true && decide ((2 : Int) ^ 63 ≤ m)) = true then m - 2 ^ 64 else m) = x
  simp only [Bool.true_and, decide_eq_true_eq]
  split <;> omega
theorem w64_rng (x : Int) : -9223372036854775808 ≤ w64 x ∧ w64 x ≤ 9223372036854775807 := by
  show -9223372036854775808 ≤ (let m := x % (2 ^ 64 : Int); if (true && decide ((2 : Int) ^ 63 ≤ m)) = true then m - 2 ^ 64 else m) ∧ (let m := x % (2 ^ 64 : Int); if (true && decide ((2 : Int) ^ 63 ≤ m)) = true then m - 2 ^ 64 else m) ≤ 9223372036854775807
  simp only [Bool.true_and, decide_eq_true_eq]
  split <;> omega
theorem chk_of {R : Type} {b : Bool} {x : Option R} (h : b = true) : chk b x = x := by rw [h]; rfl
theorem chk_true {R : Type} {x : Option R} : chk true x = x := rfl
theorem chk_dec {R : Type} {p : Prop} [Decidable p] {x : Option R} (h : p) : chk (decide p) x = x := chk_of (decide_eq_true h)
theorem ix_of {R : Type} {i : Int} {len : Nat} {x : Option R} (h0 : 0 ≤ i) (h1 : i < (len : Int)) : ix i len x = x := by
  unfold ix
  rw [decide_eq_true h0, decide_eq_true h1]
  rfl
theorem ix_nat {R : Type} {i len : Nat} {x : Option R} (h1 : i < len) : ix (i : Int) len x = x := ix_of (by omega) (by omega)
theorem bif_dec {α : Type} {p : Prop} [Decidable p] {x y : α} : (bif decide p then x else y) = if p then x else y := by
  by_cases h : p <;> simp [h]
theorem bif_not {α : Type} {b : Bool} {x y : α} : (bif !b then x else y) = bif b then y else x := by cases b <;> rfl
theorem bif_and {α : Type} {a b : Bool} {x y : α} : (bif a && b then x else y) = bif a then (bif b then x else y) else y := by cases a <;> rfl
theorem loopN_succ {X R : Type} (b : X → (X → Option R) → Option R) (m : Nat) (x : X) : loopN b (m + 1) x = b x (loopN b m) := rfl
/-- What holds of a loop: by what is left to go. -/
theorem loopN_ind {X R : Type} {b : X → (X → Option R) → Option R} (μ : X → Nat) (I : X → Prop) (Q : X → Option R → Prop)
    (h : ∀ x J, I x → (∀ y, I y → μ y < μ x → Q y (J y)) → Q x (b x J)) : ∀ n x, I x → μ x < n → Q x (loopN b n x)
  | 0, x, hi, hm => absurd hm (Nat.not_lt_zero _)
  | n + 1, x, hi, hm => h x (loopN b n) hi fun y hy hl => loopN_ind μ I Q h n y hy (by omega)
theorem getD_eq {α : Type} {l : List α} {i : Nat} {d : α} (h : i < l.length) : l.getD i d = l[i] := by
  simp [List.getD, h]
theorem w64_succ {k : Nat} (h : k < 9223372036854775807) : w64 ((k : Int) + 1) = ((k + 1 : Nat) : Int) := by
  rw [w64_id (by omega) (by omega)]
  rfl
theorem take_succ_getD {α : Type} {l : List α} {i : Nat} {d : α} (h : i < l.length) : l.take (i + 1) = l.take i ++ [l.getD i d] := by
  rw [List.take_succ, getD_eq h, List.getElem?_eq_getElem h]
  rfl
theorem drop_getD {α : Type} {l : List α} {i : Nat} {d : α} (h : i < l.length) : l.drop i = l.getD i d :: l.drop (i + 1) := by
  rw [getD_eq h]
  exact List.drop_eq_getElem_cons h
theorem bd_eq {α β : Type} (e : α) (f : α → β) : bd e f = f e := rfl
theorem bd_set {α β : Type} {Q : β → Prop} {F : List α → β} {p : List α} {i : Nat} {x : α} (h : ∀ l : List α, l.length = p.length → Q (F l)) : Q (bd (p.set i x) F) := h _ (by simp)
theorem bd_is {α β : Type} {Q : β → Prop} {F : α → β} {e : α} (h : ∀ v : α, v = e → Q (F v)) : Q (bd e F) := h _ rfl
theorem bd_val {α β : Type} {Q : β → Prop} {F : α → β} {e : α} (h : ∀ v : α, Q (F v)) : Q (bd e F) := h _
theorem chk_q {R : Type} {Q : Option R → Prop} {b : Bool} {x : Option R} (h : b = true) (hx : Q x) : Q (chk b x) := by rw [chk_of h]; exact hx
theorem ix_q {R : Type} {Q : Option R → Prop} {i : Int} {len : Nat} {x : Option R} (h0 : 0 ≤ i) (h1 : i < (len : Int)) (hx : Q x) : Q (ix i len x) := by rw [ix_of h0 h1]; exact hx
theorem bd_upd {α β : Type} {Q : β → Prop} {F : List α → β} {p : List α} {i : Nat} {x d : α} (hi : i < p.length) (h : ∀ l : List α, l.length = p.length → l.getD i d = x → (∀ j, j ≠ i → l.getD j d = p.getD j d) → Q (F l)) : Q (bd (p.set i x) F) :=
  h _ (by simp) (by simp [List.getD, hi]) (fun j hj => by simp [List.getD, List.getElem?_set, Ne.symm hj])
/-- A list written from the front. -/
theorem set_take {α : Type} {a : List α} {d : α} {m k : Nat} (h : k < a.length) (hm : m = a.length := by rfl) : (a.take k ++ (List.replicate m d).drop k).set k (a.getD k d) = a.take (k + 1) ++ (List.replicate m d).drop (k + 1) := by
  subst hm
  have h1 : (a.take k).length = k := by simp; omega
  rw [List.set_append_right _ _ (by omega), h1, Nat.sub_self, take_succ_getD h, List.append_assoc]
  congr 1
  rw [List.drop_eq_getElem_cons (by simp; exact h)]
  rfl
/-! ### Loops over 0 .. len, by what is left -/
/-- Steps k, k+1, .. told one after the other; J: what comes behind a step. -/
def forK {S R : Type} (step : Nat → S → (S → Option R) → Option R) (fin : S → Option R) : Nat → Nat → S → Option R
  | 0, _, s => fin s
  | m + 1, k, s => step k s fun s' => forK step fin m (k + 1) s'
theorem loop_forK {X S R : Type} {b : X → (X → Option R) → Option R} {enc : Nat → S → X} {len : Nat} {step : Nat → S → (S → Option R) → Option R} {fin : S → Option R} (I : Nat → S → Prop)
    (hstep : ∀ k s J J', k < len → I k s → (∀ s', I (k + 1) s' → J (enc (k + 1) s') = J' s') → b (enc k s) J = step k s J') (hfin : ∀ s J, I len s → b (enc len s) J = fin s) :
    ∀ m k s n, k + m = len → m < n → I k s → loopN b n (enc k s) = forK step fin m k s
  | 0, k, s, 0, _, h, _ => absurd h (Nat.lt_irrefl _)
  | 0, k, s, n + 1, hk, _, hi => by
    have hk : k = len := by omega
    subst hk
    exact hfin s _ hi
  | m + 1, k, s, 0, _, h, _ => absurd h (Nat.not_lt_zero _)
  | m + 1, k, s, n + 1, hk, hn, hi => by
    show b (enc k s) (loopN b n) = step k s fun s' => forK step fin m (k + 1) s'
    exact hstep k s _ _ (by omega) hi fun s' hi' => loop_forK I hstep hfin m (k + 1) s' n (by omega) (by omega) hi'
/-- The first k at which f answers; at none: z. -/
def scanK {R : Type} (f : Nat → Option (Option R)) (z : Option R) : Nat → Nat → Option R
  | 0, _ => z
  | m + 1, k => match f k with
    | some r => r
    | none => scanK f z m (k + 1)
theorem loop_scan {X R : Type} {b : X → (X → Option R) → Option R} {enc : Nat → X} {len : Nat} {f : Nat → Option (Option R)} {z : Option R}
    (hstep : ∀ k J, k < len → b (enc k) J = match f k with | some r => r | none => J (enc (k + 1))) (hfin : ∀ J, b (enc len) J = z) :
    ∀ m k n, k + m = len → m < n → loopN b n (enc k) = scanK f z m k
  | 0, k, 0, _, h => absurd h (Nat.lt_irrefl _)
  | 0, k, n + 1, hk, _ => by
    have hk : k = len := by omega
    subst hk
    exact hfin _
  | m + 1, k, 0, _, h => absurd h (Nat.not_lt_zero _)
  | m + 1, k, n + 1, hk, hn => by
    show b (enc k) (loopN b n) = _
    rw [hstep k _ (by omega)]
    unfold scanK
    cases f k with
    | some r => rfl
    | none => exact loop_scan hstep hfin m (k + 1) n (by omega) (by omega)
/-- Is p so of all of k, .. k + m - 1? -/
theorem scan_all {R : Type} {p : Nat → Bool} {r z : Option R} : ∀ m k, scanK (fun k => bif p k then none else some r) z m k = bif (List.range' k m).all p then z else r
  | 0, k => rfl
  | m + 1, k => by
    rw [scanK, List.range'_succ, List.all_cons]
    cases h : p k with
    | true => simp only [cond_true, Bool.true_and]; exact scan_all m (k + 1)
    | false => rfl
theorem scan_any {R : Type} {p : Nat → Bool} {r z : Option R} : ∀ m k, scanK (fun k => bif p k then some r else none) z m k = bif (List.range' k m).any p then r else z
  | 0, k => rfl
  | m + 1, k => by
    rw [scanK, List.range'_succ, List.any_cons]
    cases h : p k with
    | false => simp only [cond_false, Bool.false_or]; exact scan_any m (k + 1)
    | true => rfl
theorem mgetI_mputI {β : Type} (l : List (Int × β)) (n m : Int) (v : β) : mgetI (mputI l n v) m = if m = n then some v else mgetI l m := by
  unfold mgetI mputI
  induction l with
  | nil =>
    by_cases h : m = n <;> simp [h]
  | cons a l ih =>
    rw [List.findIdx?_cons]
    by_cases h : n = a.1
    · simp only [h, decide_true, if_true, Option.elim_some, List.set_cons_zero, List.find?_cons]
      by_cases h2 : m = a.1
      · simp [h2]
      · simp [h2]
    · simp only [h, decide_false, Bool.false_eq_true, if_false]
      cases hf : l.findIdx? (fun e => decide (n = e.1)) with
      | none =>
        rw [hf] at ih
        simp only [Option.elim_none] at ih
        simp only [Option.map_none, Option.elim_none, List.cons_append, List.find?_cons]
        by_cases h2 : m = a.1
        · have : m ≠ n := fun e => h (e ▸ h2)
          simp [h2]
          simp [h2] at this
          simp [this]
        · simp only [h2, decide_false]
          exact ih
      | some i =>
        rw [hf] at ih
        simp only [Option.elim_some] at ih
        simp only [Option.map_some, Option.elim_some, List.set_cons_succ, List.find?_cons]
        by_cases h2 : m = a.1
        · have : m ≠ n := fun e => h (e ▸ h2)
          simp [h2]
          simp [h2] at this
          simp [this]
        · simp only [h2, decide_false]
          exact ih
theorem mgetI_nil {β : Type} (m : Int) : mgetI ([] : List (Int × β)) m = none := rfl
/-! ### Chains of tests -/
theorem bif_and' {α : Type} {a b : Bool} {x y : α} : (bif a then (bif b then x else y) else y) = bif a && b then x else y := by cases a <;> rfl
theorem bif_or' {α : Type} {a b : Bool} {x y : α} : (bif a then y else (bif b then x else y)) = bif !a && b then x else y := by cases a <;> rfl
theorem bif_and2 {α : Type} {a b : Bool} {x y : α} : (bif a then (bif b then y else x) else y) = bif a && !b then x else y := by cases a <;> cases b <;> rfl
theorem bif_or2 {α : Type} {a b : Bool} {x y : α} : (bif a then y else (bif b then y else x)) = bif !a && !b then x else y := by cases a <;> cases b <;> rfl
theorem bif_some {α β : Type} {a : Bool} {x y : α} {f : α → Option β} : (bif a then some x else some y).bind f = bif a then f x else f y := by cases a <;> rfl
theorem bif_tf {a : Bool} : (bif a then some true else some false) = some a := by cases a <;> rfl
theorem bif_ft {a : Bool} : (bif a then some false else some true) = some (!a) := by cases a <;> rfl
theorem bif_sf {a b : Bool} : (bif a then some b else some false) = some (a && b) := by cases a <;> rfl
theorem all_range_succ {p : Nat → Bool} {k : Nat} : (List.range (k + 1)).all p = ((List.range k).all p && p k) := by
  rw [List.range_succ, List.all_append]
  simp
theorem any_range_succ {p : Nat → Bool} {k : Nat} : (List.range (k + 1)).any p = ((List.range k).any p || p k) := by
  rw [List.range_succ, List.any_append]
  simp
theorem all_range_not {p : Nat → Bool} {k m : Nat} (hk : k < m) (h : p k = false) : (List.range m).all p = false := by
  rw [Bool.eq_false_iff]
  intro e
  rw [List.all_eq_true] at e
  rw [e k (List.mem_range.2 hk)] at h
  cases h
theorem any_range_of {p : Nat → Bool} {k m : Nat} (hk : k < m) (h : p k = true) : (List.range m).any p = true := by
  rw [List.any_eq_true]
  exact ⟨k, List.mem_range.2 hk, h⟩
/-- A loop that looks at k = 0, 1, .. and leaves at the first that is not so. -/
theorem loop_all {R : Type} {b : Int → (Int → Option R) → Option R} {len : Nat} {p : Nat → Bool} {no yes : Option R} (hlen : len ≤ 9223372036854775807)
    (hstep : ∀ (k : Nat) (J : Int → Option R), k < len → (∀ j, j < k → p j = true) → b (k : Int) J = bif p k then J ((k + 1 : Nat) : Int) else no) (hfin : ∀ J, (∀ j, j < len → p j = true) → b (len : Int) J = yes) {n : Nat} (hn : len < n) :
    loopN b n (0 : Int) = bif (List.range len).all p then yes else no := by
  refine loopN_ind (fun x => len - x.toNat) (fun x => ∃ k : Nat, k ≤ len ∧ x = (k : Int) ∧ (List.range k).all p = true) (fun x r => r = bif (List.range len).all p then yes else no) ?_ n _ ⟨0, by omega, rfl, rfl⟩ (by simp; omega)
  rintro _ J ⟨k, hk, rfl, hb⟩ ih
  have hb' : ∀ j, j < k → p j = true := fun j hj => List.all_eq_true.1 hb j (List.mem_range.2 hj)
  by_cases h : k < len
  · rw [hstep k J h hb']
    cases hp : p k with
    | true => exact ih _ ⟨k + 1, h, rfl, by rw [all_range_succ, hb, hp]; rfl⟩ (by simp; omega)
    | false => rw [all_range_not h hp]; rfl
  · have : k = len := by omega
    subst this
    rw [hfin _ hb', hb]
    rfl
/-- The same, a state turned on the way (its invariant: I). -/
theorem loop_allS {S R : Type} {X : Type} {enc : Int → S → X} {b : X → (X → Option R) → Option R} {len : Nat} {p : Nat → Bool} {I : Nat → S → Prop} {no yes : Option R}
    (hstep : ∀ (k : Nat) (s : S) (J : X → Option R), k < len → I k s → (∀ j, j < k → p j = true) → ∃ s', (p k = true → I (k + 1) s') ∧ b (enc (k : Int) s) J = bif p k then J (enc ((k + 1 : Nat) : Int) s') else no) (hfin : ∀ s J, I len s → (∀ j, j < len → p j = true) → b (enc (len : Int) s) J = yes) {n : Nat} (hn : len < n) {s0 : S} (h0 : I 0 s0) :
    loopN b n (enc (0 : Int) s0) = bif (List.range len).all p then yes else no := by
  have key : ∀ m (k : Nat) (s : S) n, k + m = len → m < n → I k s → (List.range k).all p = true → loopN b n (enc (k : Int) s) = bif (List.range len).all p then yes else no := by
    intro m
    induction m with
    | zero =>
      intro k s n hk hn hi hb
      have hb' : ∀ j, j < k → p j = true := fun j hj => List.all_eq_true.1 hb j (List.mem_range.2 hj)
      have hk : k = len := by omega
      subst hk
      cases n with
      | zero => omega
      | succ n => rw [loopN_succ, hfin s _ hi hb', hb]; rfl
    | succ m ih =>
      intro k s n hk hn hi hb
      have hb' : ∀ j, j < k → p j = true := fun j hj => List.all_eq_true.1 hb j (List.mem_range.2 hj)
      cases n with
      | zero => omega
      | succ n =>
        rw [loopN_succ]
        obtain ⟨s', h1, h2⟩ := hstep k s (loopN b n) (by omega) hi hb'
        rw [h2]
        cases hp : p k with
        | true => exact ih (k + 1) s' n (by omega) (by omega) (h1 hp) (by rw [all_range_succ, hb, hp]; rfl)
        | false => rw [all_range_not (by omega : k < len) hp]; rfl
  exact key len 0 s0 n (by omega) hn h0 rfl
/-- A loop over 0 .. len that never leaves early; its state: I. -/
theorem loop_runS {S R : Type} {X : Type} {enc : Int → S → X} {b : X → (X → Option R) → Option R} {len : Nat} {I : Nat → S → Prop} {Q : Option R → Prop}
    (hstep : ∀ (k : Nat) (s : S) (J : X → Option R), k < len → I k s → ∃ s', I (k + 1) s' ∧ b (enc (k : Int) s) J = J (enc ((k + 1 : Nat) : Int) s')) (hfin : ∀ s J, I len s → Q (b (enc (len : Int) s) J)) {n : Nat} (hn : len < n) {s0 : S} (h0 : I 0 s0) :
    Q (loopN b n (enc (0 : Int) s0)) := by
  have key : ∀ m (k : Nat) (s : S) n, k + m = len → m < n → I k s → Q (loopN b n (enc (k : Int) s)) := by
    intro m
    induction m with
    | zero =>
      intro k s n hk hn hi
      have hk : k = len := by omega
      subst hk
      cases n with
      | zero => omega
      | succ n => rw [loopN_succ]; exact hfin s _ hi
    | succ m ih =>
      intro k s n hk hn hi
      cases n with
      | zero => omega
      | succ n =>
        rw [loopN_succ]
        obtain ⟨s', h1, h2⟩ := hstep k s (loopN b n) (by omega) hi
        rw [h2]
        exact ih (k + 1) s' n (by omega) (by omega) h1
  exact key len 0 s0 n (by omega) hn h0
/-! ### Sums over lists -/
def sumOf {α : Type} (f : α → Nat) : List α → Nat
  | [] => 0
  | a :: l => f a + sumOf f l
theorem sumOf_append {α : Type} (f : α → Nat) : ∀ a b : List α, sumOf f (a ++ b) = sumOf f a + sumOf f b
  | [], b => by simp [sumOf]
  | x :: a, b => by simp only [List.cons_append, sumOf, sumOf_append f a b]; omega
theorem sumOf_take_succ {α : Type} {f : α → Nat} {l : List α} {k : Nat} {d : α} (h : k < l.length) : sumOf f (l.take (k + 1)) = sumOf f (l.take k) + f (l.getD k d) := by
  rw [take_succ_getD (d := d) h, sumOf_append]
  simp [sumOf]
theorem sumOf_take_le {α : Type} (f : α → Nat) (l : List α) (k : Nat) : sumOf f (l.take k) ≤ sumOf f l := by
  have := sumOf_append f (l.take k) (l.drop k)
  rw [List.take_append_drop] at this
  omega
theorem sumOf_mem {α : Type} {f : α → Nat} {l : List α} {k : Nat} {d : α} (h : k < l.length) : f (l.getD k d) ≤ sumOf f l := by
  have h1 := sumOf_take_succ (f := f) (d := d) h
  have h2 := sumOf_take_le f l (k + 1)
  omega
theorem sumOf_lin {α : Type} {f g : α → Nat} {c s : Nat} (h : ∀ y, f y ≤ c * g y + s) : ∀ l : List α, sumOf f l ≤ c * sumOf g l + s * l.length
  | [] => by simp [sumOf]
  | a :: l => by
    have h1 := h a
    have h2 := sumOf_lin h l
    simp only [sumOf, List.length_cons, Nat.mul_add, Nat.mul_succ]
    omega
theorem sumOf_const {α : Type} (c : Nat) : ∀ l : List α, sumOf (fun _ => c) l = c * l.length
  | [] => by simp [sumOf]
  | a :: l => by simp only [sumOf, sumOf_const c l, List.length_cons, Nat.mul_succ]; omega
theorem getD_set {α : Type} {l : List α} {k : Nat} {x d : α} (h : k < l.length) : (l.set k x).getD k d = x := by simp [List.getD, h]
theorem getD_set_ne {α : Type} {l : List α} {k j : Nat} {x d : α} (h : j ≠ k) : (l.set k x).getD j d = l.getD j d := by simp [List.getD, List.getElem?_set, Ne.symm h]
theorem getD_mem {α : Type} {l : List α} {k : Nat} {d : α} (h : k < l.length) : l.getD k d ∈ l := by rw [getD_eq h]; exact List.getElem_mem h
theorem take_drop_set {α : Type} {a : List α} {d : α} {m k : Nat} {x : α} (h : k < a.length) (hm : m = a.length) (hx : x = a.getD k d) : (a.take k ++ (List.replicate m d).drop k).set k x = a.take (k + 1) ++ (List.replicate m d).drop (k + 1) := by
  subst hx
  exact set_take h hm
/-! ### The first that is so -/
def idxOf (p : Nat → Bool) (m : Nat) : Int := match (List.range m).find? p with
  | some k => (k : Int)
  | none => -1
theorem find_range_none {p : Nat → Bool} {m : Nat} (h : ∀ j, j < m → p j = false) : (List.range m).find? p = none := by
  rw [List.find?_eq_none]
  intro x hx
  rw [h x (List.mem_range.1 hx)]
  simp
theorem find_range_some {p : Nat → Bool} {m k : Nat} (hk : k < m) (hp : p k = true) (h : ∀ j, j < k → p j = false) : (List.range m).find? p = some k := by
  have e : m = k + (m - k) := by omega
  rw [e, List.range_add, List.find?_append, find_range_none h, Option.none_or]
  obtain ⟨r, hr⟩ : ∃ r, m - k = r + 1 := ⟨m - k - 1, by omega⟩
  rw [hr, List.range_succ_eq_map]
  simp [hp]
theorem idxOf_ge (p : Nat → Bool) (m : Nat) : decide (idxOf p m ≥ 0) = (List.range m).any p := by
  unfold idxOf
  cases h : (List.range m).find? p with
  | none =>
    rw [List.find?_eq_none] at h
    rw [show (List.range m).any p = false from by rw [List.any_eq_false]; exact h]
    rfl
  | some k =>
    have h1 := List.find?_some h
    rw [show (List.range m).any p = true from List.any_eq_true.2 ⟨k, List.mem_of_find?_eq_some h, h1⟩]
    exact decide_eq_true (by show (0 : Int) ≤ (k : Int); omega)
theorem idxOf_lt (p : Nat → Bool) (m : Nat) : decide (idxOf p m < 0) = !(List.range m).any p := by
  rw [← idxOf_ge]
  by_cases h : idxOf p m < 0
  · rw [decide_eq_true h, decide_eq_false (by omega)]; rfl
  · rw [decide_eq_false h, decide_eq_true (by omega)]; rfl
theorem find_range (p : Nat → Bool) : ∀ m, ((List.range m).find? p = none ∧ ∀ j, j < m → p j = false) ∨ ∃ k, (List.range m).find? p = some k ∧ k < m ∧ p k = true ∧ ∀ j, j < k → p j = false
  | 0 => .inl ⟨rfl, fun j hj => absurd hj (Nat.not_lt_zero _)⟩
  | m + 1 => by
    rcases find_range p m with ⟨h1, h2⟩ | ⟨k, h1, h2, h3, h4⟩
    · cases hp : p m with
      | true => exact .inr ⟨m, find_range_some (by omega) hp h2, by omega, hp, h2⟩
      | false =>
        have : ∀ j, j < m + 1 → p j = false := fun j hj => by
          by_cases e : j = m
          · rw [e]; exact hp
          · exact h2 j (by omega)
        exact .inl ⟨find_range_none this, this⟩
    · exact .inr ⟨k, find_range_some (by omega) h3 h4, by omega, h3, h4⟩
theorem idxOf_spec (p : Nat → Bool) (m : Nat) : (idxOf p m = -1 ∧ ∀ j, j < m → p j = false) ∨ ∃ k : Nat, idxOf p m = (k : Int) ∧ k < m ∧ p k = true ∧ ∀ j, j < k → p j = false := by
  unfold idxOf
  rcases find_range p m with ⟨h1, h2⟩ | ⟨k, h1, h2, h3, h4⟩
  · rw [h1]; exact .inl ⟨rfl, h2⟩
  · rw [h1]; exact .inr ⟨k, rfl, h2, h3, h4⟩
/-- A loop that looks at k = 0, 1, .. and leaves at the first that is so. -/
theorem loop_find {R : Type} {b : Int → (Int → Option R) → Option R} {len : Nat} {p : Nat → Bool} {yes : Nat → Option R} {no : Option R} (hlen : len ≤ 9223372036854775807)
    (hstep : ∀ (k : Nat) (J : Int → Option R), k < len → (∀ j, j < k → p j = false) → b (k : Int) J = bif p k then yes k else J ((k + 1 : Nat) : Int)) (hfin : ∀ J, (∀ j, j < len → p j = false) → b (len : Int) J = no) {n : Nat} (hn : len < n) :
    loopN b n (0 : Int) = match (List.range len).find? p with | some k => yes k | none => no := by
  refine loopN_ind (fun x => len - x.toNat) (fun x => ∃ k : Nat, k ≤ len ∧ x = (k : Int) ∧ ∀ j, j < k → p j = false) (fun x r => r = match (List.range len).find? p with | some k => yes k | none => no) ?_ n _ ⟨0, by omega, rfl, fun j hj => absurd hj (Nat.not_lt_zero _)⟩ (by simp; omega)
  rintro _ J ⟨k, hk, rfl, hb⟩ ih
  by_cases h : k < len
  · rw [hstep k J h hb]
    cases hp : p k with
    | false => exact ih _ ⟨k + 1, h, rfl, fun j hj => by
        by_cases e : j = k
        · rw [e]; exact hp
        · exact hb j (by omega)⟩ (by simp; omega)
    | true => rw [find_range_some h hp hb]; rfl
  · have : k = len := by omega
    subst this
    rw [hfin _ hb, find_range_none hb]
theorem loop_idx {b : Int → (Int → Option Int) → Option Int} {len : Nat} {p : Nat → Bool} (hlen : len ≤ 9223372036854775807)
    (hstep : ∀ (k : Nat) (J : Int → Option Int), k < len → (∀ j, j < k → p j = false) → b (k : Int) J = bif p k then some (k : Int) else J ((k + 1 : Nat) : Int)) (hfin : ∀ J, (∀ j, j < len → p j = false) → b (len : Int) J = some (-1)) {n : Nat} (hn : len < n) :
    loopN b n (0 : Int) = some (idxOf p len) := by
  rw [loop_find (yes := fun k => some (k : Int)) (no := some (-1)) hlen hstep hfin hn]
  unfold idxOf
  cases (List.range len).find? p <;> rfl
theorem byteAt_rng (s : ByteArray) (k : Nat) : 0 ≤ byteAt s k ∧ byteAt s k ≤ 255 := by
  unfold byteAt
  have := (s.data.getD k 0).toNat_lt
  omega
theorem range_any {α : Type} {l : List α} {d : α} {f : α → Bool} : (List.range l.length).any (fun k => f (l.getD k d)) = l.any f := by
  induction l with
  | nil => rfl
  | cons a l ih =>
    rw [List.length_cons, List.range_succ_eq_map, List.any_cons, List.any_map, List.any_cons, ← ih]
    rfl
theorem range_all {α : Type} {l : List α} {d : α} {f : α → Bool} : (List.range l.length).all (fun k => f (l.getD k d)) = l.all f := by
  induction l with
  | nil => rfl
  | cons a l ih =>
    rw [List.length_cons, List.range_succ_eq_map, List.all_cons, List.all_map, List.all_cons, ← ih]
    rfl
theorem all_congr_lt {p q : Nat → Bool} {m : Nat} (h : ∀ k, k < m → p k = q k) : (List.range m).all p = (List.range m).all q := by
  rw [Bool.eq_iff_iff, List.all_eq_true, List.all_eq_true]
  constructor
  · intro g x hx; rw [← h x (List.mem_range.1 hx)]; exact g x hx
  · intro g x hx; rw [h x (List.mem_range.1 hx)]; exact g x hx
theorem any_congr_lt {p q : Nat → Bool} {m : Nat} (h : ∀ k, k < m → p k = q k) : (List.range m).any p = (List.range m).any q := by
  rw [Bool.eq_iff_iff, List.any_eq_true, List.any_eq_true]
  constructor
  · rintro ⟨x, hx, g⟩; exact ⟨x, hx, by rw [← h x (List.mem_range.1 hx)]; exact g⟩
  · rintro ⟨x, hx, g⟩; exact ⟨x, hx, by rw [h x (List.mem_range.1 hx)]; exact g⟩
theorem guard_sz {w : Nat} {x : Option Bool} (h : w ≤ 1048576 → x = some true) : (bif decide ((if (w : Int) ≤ 1048576 then 1048576 - (w : Int) else -1) < 0) then some true else x) = some true := by
  by_cases c : (w : Int) ≤ 1048576
  · rw [if_pos c, decide_eq_false (by omega), cond_false]
    exact h (by omega)
  · rw [if_neg c]
    rfl
end Go.Sm
end

section
set_option linter.unusedSimpArgs false
set_option linter.deprecated false
set_option linter.unusedSectionVars false
set_option linter.unusedVariables false
set_option linter.unusedSimpArgs false
namespace Go.Sm
attribute [local irreducible] bd chk ix loopN
/-! ### Draws -/
structure CurOk (c : Sl1Cur) : Prop where
  i : 0 ≤ c.i ∧ c.i ≤ (c.b.length : Int)
  len : c.b.length ≤ 1048576
theorem and255 (v : Int) : 0 ≤ w64 (((BitVec.ofInt 64 v &&& BitVec.ofInt 64 (255 : Int)).toNat : Nat) : Int) ∧ w64 (((BitVec.ofInt 64 v &&& BitVec.ofInt 64 (255 : Int)).toNat : Nat) : Int) ≤ 255 := by
  have h : (BitVec.ofInt 64 v &&& BitVec.ofInt 64 (255 : Int)).toNat ≤ 255 := by
    rw [BitVec.toNat_and]
    exact Nat.and_le_right
  rw [w64_id (by omega) (by omega)]
  omega
theorem byte_ok {n : Nat} {c : Sl1Cur} (h : CurOk c) : ∃ v c', spec_l1Byte n c = some (v, c') ∧ (0 ≤ v ∧ v ≤ 255) ∧ CurOk c' := by
  have h1 := h.i
  have h2 := h.len
  unfold spec_l1Byte
  simp only [bd_eq]
  by_cases hc : c.i < (c.b.length : Int)
  · rw [decide_eq_true hc, cond_true, ix_of h1.1 hc]
    refine ⟨_, _, rfl, and255 _, ⟨?_, h2⟩⟩
    show 0 ≤ w64 (c.i + 1) ∧ w64 (c.i + 1) ≤ (c.b.length : Int)
    rw [w64_id (by omega) (by omega)]
    omega
  · rw [decide_eq_false hc, cond_false]
    exact ⟨_, _, rfl, and255 _, ⟨h1, h2⟩⟩
theorem below_ok {n : Nat} {c : Sl1Cur} (h : CurOk c) {m : Int} (hm : 1 ≤ m ∧ m ≤ 256) : ∃ v c', spec_l1Below n c m = some (v, c') ∧ (0 ≤ v ∧ v < m) ∧ CurOk c' := by
  obtain ⟨v, c', h1, h2, h3⟩ := byte_ok (n := n) h
  unfold spec_l1Below
  rw [decide_eq_false (show ¬ m ≤ 0 by omega), cond_false, decide_eq_true (show m ≤ 256 by omega), cond_true, h1, Option.bind_some, decide_eq_false (show ¬ m = 0 by omega), cond_false]
  exact ⟨_, _, rfl, ⟨Int.tmod_nonneg _ h2.1, Int.tmod_lt_of_pos _ (by omega)⟩, h3⟩
theorem new_ok {n : Nat} (code : List Int) (hc : code.length ≤ 1048576) (hn : 1000000000 < n) : ∃ c, spec_l1New n code = some c ∧ CurOk c := by
  have hw : w64 ((59059 : Int) + (code.length : Int)) = 59059 + (code.length : Int) := w64_id (by omega) (by omega)
  unfold spec_l1New
  rw [bd_eq]
  have key : ∀ m k h fu, k + m = code.length → m < fu → ∃ c, loopN (fun (x : Int × Int) J' => spec_l1New_L3 n (fun h16 => some ((⟨code, (0 : Int), h16⟩ : Sl1Cur))) (fun h17 i18 => J' (h17, i18)) code x.1 x.2) fu (h, (k : Int)) = some c ∧ CurOk c := by
    intro m
    induction m with
    | zero =>
      intro k h fu hk hfu
      obtain ⟨f, rfl⟩ : ∃ f, fu = f + 1 := ⟨fu - 1, by omega⟩
      rw [loopN_succ]
      refine ⟨⟨code, 0, h⟩, ?_, ⟨by show (0 : Int) ≤ 0 ∧ (0 : Int) ≤ (code.length : Int); omega, hc⟩⟩
      show spec_l1New_L3 n _ _ code h (k : Int) = _
      unfold spec_l1New_L3
      rw [decide_eq_false (by omega), cond_false]
    | succ m ih =>
      intro k h fu hk hfu
      obtain ⟨f, rfl⟩ : ∃ f, fu = f + 1 := ⟨fu - 1, by omega⟩
      rw [loopN_succ]
      have hstep : ∀ J : Int → Int → Option Sl1Cur, ∃ h', spec_l1New_L3 n (fun h16 => some ((⟨code, (0 : Int), h16⟩ : Sl1Cur))) J code h (k : Int) = J h' ((k + 1 : Nat) : Int) ∨ spec_l1New_L3 n (fun h16 => some ((⟨code, (0 : Int), h16⟩ : Sl1Cur))) J code h (k : Int) = some ⟨code, 0, h⟩ := by
        intro J
        unfold spec_l1New_L3 spec_l1New_k0
        rw [decide_eq_true (show (k : Int) < (code.length : Int) by omega), cond_true]
        cases decide ((k : Int) < 4000) with
        | true =>
          rw [cond_true, ix_nat (by omega), bd_eq, bd_eq, w64_succ (show k < 9223372036854775807 by omega)]
          exact ⟨_, .inl rfl⟩
        | false => exact ⟨0, .inr rfl⟩
      obtain ⟨h', e | e⟩ := hstep (fun h17 i18 => loopN (fun (x : Int × Int) J' => spec_l1New_L3 n (fun h16 => some ((⟨code, (0 : Int), h16⟩ : Sl1Cur))) (fun h17 i18 => J' (h17, i18)) code x.1 x.2) f (h17, i18))
      · obtain ⟨c, g1, g2⟩ := ih (k + 1) h' f (by omega) (by omega)
        exact ⟨c, e.trans g1, g2⟩
      · exact ⟨⟨code, 0, h⟩, e, ⟨by show (0 : Int) ≤ 0 ∧ (0 : Int) ≤ (code.length : Int); omega, hc⟩⟩
  exact key code.length 0 _ n (by omega) (by omega)
theorem wu8_id {x : Int} (h1 : 0 ≤ x) (h2 : x ≤ 255) : wu8 x = x := by
  show (let m := x % (2 ^ 8 : Int); if (false && decide ((2 : Int) ^ 7 ≤ m)) = true then m - 2 ^ 8 else m) = x
  simp only [Bool.false_and, Bool.false_eq_true, if_false]
  omega
theorem in_specB (n : Nat) (x a b : Int) : spec_l1In n x a b = some (decide (a ≤ x ∧ x ≤ b)) := by
  unfold spec_l1In
  by_cases h0 : a ≤ x <;> by_cases h1 : x ≤ b <;> simp [h0, h1]
theorem in_implB (n : Nat) (x a b : Int) : impl_in n x a b = some (decide (a ≤ x ∧ x ≤ b)) := by
  unfold impl_in
  by_cases h0 : a ≤ x <;> by_cases h1 : x ≤ b <;> simp [h0, h1]
/-! ### What a letter counts -/
def letU : Nat → Int
  | 0 => 10
  | k + 1 => if Int.tmod (letU k + 1) 11 = 0 then letU k + 2 else letU k + 1
theorem letU_rng : ∀ k, 0 ≤ letU k ∧ letU k ≤ 10 + 2 * (k : Int)
  | 0 => ⟨by decide, by decide⟩
  | k + 1 => by
    have := letU_rng k
    unfold letU
    split <;> omega
theorem letter_spec {n : Nat} (K : Nat) (hK : K ≤ 1000) (hn : 1000000000 < n) : spec_l11Letter n (K : Int) = some (letU K) := by
  unfold spec_l11Letter
  refine loopN_ind (fun x => x.1.toNat) (fun x => ∃ j : Nat, x.1 = (j : Int) ∧ j ≤ K ∧ x.2 = letU (K - j)) (fun x r => r = some (letU K)) ?_ n _ ⟨K, rfl, Nat.le_refl _, by simp; rfl⟩ (by simp; omega)
  rintro ⟨_, _⟩ J ⟨j, rfl, hj, rfl⟩ ih
  show spec_l11Letter_L2 n _ _ (j : Int) (letU (K - j)) = _
  unfold spec_l11Letter_L2
  cases j with
  | zero => rw [decide_eq_false (by omega), cond_false]; rfl
  | succ j =>
    have hb := letU_rng (K - (j + 1))
    have e : letU (K - j) = if Int.tmod (letU (K - (j + 1)) + 1) 11 = 0 then letU (K - (j + 1)) + 2 else letU (K - (j + 1)) + 1 := by
      rw [show K - j = (K - (j + 1)) + 1 from by omega]; rfl
    rw [decide_eq_true (by omega), cond_true]
    simp only [bd_eq]
    rw [w64_id (x := letU (K - (j + 1)) + 1) (by omega) (by omega), show w64 (((j + 1 : Nat) : Int) - 1) = (j : Int) from by rw [w64_id (by omega) (by omega)]; omega, w64_id (x := letU (K - (j + 1)) + 1 + 1) (by omega) (by omega), bif_dec]
    split
    · rename_i h0
      rw [if_pos h0] at e
      exact ih _ ⟨j, rfl, by omega, by rw [e]; dsimp only; omega⟩ (by simp)
    · rename_i h0
      rw [if_neg h0] at e
      exact ih _ ⟨j, rfl, by omega, by rw [e]⟩ (by simp)
theorem value_impl {n : Nat} {c : Int} (hc : 65 ≤ c ∧ c ≤ 255) (hn : 1000000000 < n) : impl_valueOf n c = some (letU (c - 65).toNat) := by
  unfold impl_valueOf
  refine loopN_ind (fun x => (c - x.2).toNat) (fun x => ∃ j : Nat, x.2 = 65 + (j : Int) ∧ 65 + (j : Int) ≤ c ∧ x.1 = letU j) (fun x r => r = some (letU (c - 65).toNat)) ?_ n _ ⟨0, rfl, by omega, rfl⟩ (by dsimp only; omega)
  rintro ⟨_, _⟩ J ⟨j, rfl, hj, rfl⟩ ih
  show impl_valueOf_L3 n _ _ c (letU j) (65 + (j : Int)) = _
  unfold impl_valueOf_L3
  have hb := letU_rng j
  by_cases h : 65 + (j : Int) < c
  · have e : letU (j + 1) = if Int.tmod (letU j + 1) 11 = 0 then letU j + 2 else letU j + 1 := rfl
    have hu : wu8 (65 + (j : Int) + 1) = 65 + ((j + 1 : Nat) : Int) := by
      rw [wu8_id (by omega) (by omega)]; omega
    rw [decide_eq_true h, cond_true]
    simp only [bd_eq]
    rw [w64_id (x := letU j + 1) (by omega) (by omega), w64_id (x := letU j + 1 + 1) (by omega) (by omega), bif_dec, hu]
    split
    · rename_i h0
      rw [if_pos h0] at e
      exact ih _ ⟨j + 1, rfl, by omega, by rw [e]; dsimp only; omega⟩ (by dsimp only; omega)
    · rename_i h0
      rw [if_neg h0] at e
      exact ih _ ⟨j + 1, rfl, by omega, by rw [e]⟩ (by dsimp only; omega)
  · rw [decide_eq_false h, cond_false]
    rw [show (c - 65).toNat = j from by omega]
/-! ### The check digit -/
def chV (s : ByteArray) (i : Nat) : Option Int :=
  if i < 4 then (if 65 ≤ byteAt s i ∧ byteAt s i ≤ 90 then some (letU (byteAt s i - 65).toNat) else none)
  else if 48 ≤ byteAt s i ∧ byteAt s i ≤ 57 then some (byteAt s i - 48) else none
def cdStep (a v : Int) (i : Nat) : Int := w64 (a + w64 (v * 2 ^ (min i 64)))
def cdU (s : ByteArray) : Nat → Option Int
  | 0 => some 0
  | i + 1 => match cdU s i, chV s i with
    | some a, some v => some (cdStep a v i)
    | _, _ => none
def cdR (s : ByteArray) : Int := if (s.size : Int) = 10 then (match cdU s 10 with
  | some a => Int.tmod (Int.tmod a 11) 10
  | none => -1) else -1
theorem cdR_rng (s : ByteArray) : -9 ≤ cdR s ∧ cdR s ≤ 9 := by
  have key : ∀ a : Int, -9 ≤ Int.tmod a 10 ∧ Int.tmod a 10 ≤ 9 := fun a => by
    have h1 := Int.tmod_lt_of_pos a (show (0 : Int) < 10 by omega)
    have h2 := Int.tmod_lt_of_pos (-a) (show (0 : Int) < 10 by omega)
    rw [Int.neg_tmod] at h2
    omega
  unfold cdR
  split
  · split
    · exact key _
    · omega
  · omega
theorem cdU_none {s : ByteArray} {i : Nat} (h : cdU s i = none) : ∀ j, cdU s (i + j) = none
  | 0 => h
  | j + 1 => by
    show (match cdU s (i + j), chV s (i + j) with | some a, some v => some (cdStep a v (i + j)) | _, _ => none) = none
    rw [cdU_none h j]
theorem cdR_stop {s : ByteArray} (hs : (s.size : Int) = 10) {i : Nat} (hi : i < 10) (h : chV s i = none) : cdR s = -1 := by
  have h1 : cdU s (i + 1) = none := by
    show (match cdU s i, chV s i with | some a, some v => some (cdStep a v i) | _, _ => none) = none
    rw [h]
    split
    · rename_i h2; cases h2
    · rfl
  have h2 := cdU_none h1 (10 - (i + 1))
  rw [show i + 1 + (10 - (i + 1)) = 10 from by omega] at h2
  unfold cdR
  rw [if_pos hs, h2]
theorem cdU_succ {s : ByteArray} {i : Nat} {a v : Int} (h : cdU s i = some a) (hv : chV s i = some v) : cdU s (i + 1) = some (cdStep a v i) := by
  show (match cdU s i, chV s i with | some a, some v => some (cdStep a v i) | _, _ => none) = _
  rw [h, hv]
theorem check_spec {n : Nat} (s : ByteArray) (hn : 1000000000 < n) : spec_CheckDigit n s = some (cdR s) := by
  unfold spec_CheckDigit
  by_cases hs : (s.size : Int) = 10
  · rw [decide_eq_true hs, Bool.not_true, cond_false]
    unfold spec_CheckDigit_k3
    refine loopN_ind (fun x => 10 - x.2.toNat) (fun x => ∃ i : Nat, x.2 = (i : Int) ∧ i ≤ 10 ∧ cdU s i = some x.1) (fun x r => r = some (cdR s)) ?_ n _ ⟨0, rfl, by omega, rfl⟩ (by simp; omega)
    rintro ⟨a, _⟩ J ⟨i, rfl, hi, ha⟩ ih
    dsimp only at ha
    show spec_CheckDigit_L5 n _ _ _ s a (i : Int) = _
    unfold spec_CheckDigit_L5
    by_cases h : i < 10
    · rw [decide_eq_true (by omega), cond_true]
      unfold spec_CheckDigit_k2
      have hb := byteAt_rng s i
      have hw : w64 (byteAt s i) = byteAt s i := w64_id (by omega) (by omega)
      have go : ∀ v, chV s i = some v → J (w64 (a + w64 (v * 2 ^ (min i 64))), ((i + 1 : Nat) : Int)) = some (cdR s) := fun v hv => ih _ ⟨i + 1, rfl, by omega, cdU_succ ha hv⟩ (by simp; omega)
      have stop : chV s i = none → some (-1) = some (cdR s) := fun hv => by rw [cdR_stop hs h hv]
      have digit : ¬ i < 4 → spec_CheckDigit_k1 n (fun sum58 => (bd (Int.tmod sum58 (11 : Int)) fun (v59 : Int) => (bd (Int.tmod v59 (10 : Int)) fun (v60 : Int) => some (v60)))) (fun t61 => some (t61)) (fun sum62 i63 => J (sum62, i63)) s a (i : Int) (byteAt s i) = some (cdR s) := fun h4 => by
        unfold spec_CheckDigit_k1
        rw [decide_eq_true (by omega), cond_true, in_specB, Option.bind_some]
        have e : chV s i = if 48 ≤ byteAt s i ∧ byteAt s i ≤ 57 then some (byteAt s i - 48) else none := by unfold chV; rw [if_neg h4]
        by_cases hd : 48 ≤ byteAt s i ∧ byteAt s i ≤ 57
        · rw [if_pos hd] at e
          rw [decide_eq_true hd, cond_true, chk_dec (by omega), bd_eq, w64_succ (show i < 9223372036854775807 by omega), Int.toNat_natCast, w64_id (x := byteAt s i - 48) (by omega) (by omega)]
          exact go _ e
        · rw [if_neg hd] at e
          rw [decide_eq_false hd, cond_false]
          exact stop e
      rw [ix_of (by omega) (by omega), Int.toNat_natCast, hw]
      by_cases h4 : i < 4
      · have e : chV s i = if 65 ≤ byteAt s i ∧ byteAt s i ≤ 90 then some (letU (byteAt s i - 65).toNat) else none := by unfold chV; rw [if_pos h4]
        rw [decide_eq_true (by omega), cond_true, in_specB, Option.bind_some]
        unfold spec_CheckDigit_k0
        by_cases hd : 65 ≤ byteAt s i ∧ byteAt s i ≤ 90
        · rw [if_pos hd] at e
          obtain ⟨m, hm⟩ : ∃ m : Nat, byteAt s i - 65 = (m : Int) := ⟨(byteAt s i - 65).toNat, by omega⟩
          rw [decide_eq_true hd, cond_true, w64_id (x := byteAt s i - 65) (by omega) (by omega), hm, letter_spec m (by omega) hn, Option.bind_some, chk_dec (by omega), bd_eq, w64_succ (show i < 9223372036854775807 by omega), Int.toNat_natCast]
          rw [hm, Int.toNat_natCast] at e
          exact go _ e
        · rw [if_neg hd] at e
          rw [decide_eq_false hd, cond_false, decide_eq_false (show ¬ (i : Int) ≥ 4 by omega), cond_false]
          exact stop e
      · rw [decide_eq_false (by omega), cond_false]
        exact digit h4
    · have : i = 10 := by omega
      subst this
      rw [decide_eq_false (by omega), cond_false]
      simp only [bd_eq]
      unfold cdR
      rw [if_pos hs, ha]
  · rw [decide_eq_false hs, Bool.not_false, cond_true]
    unfold cdR
    rw [if_neg hs]
theorem check_impl {n : Nat} (s : ByteArray) (hn : 1000000000 < n) : impl_CheckDigit n s = some (cdR s) := by
  unfold impl_CheckDigit
  by_cases hs : (s.size : Int) = 10
  · rw [decide_eq_true hs, Bool.not_true, cond_false]
    unfold impl_CheckDigit_k3
    refine loopN_ind (fun x => 10 - x.2.toNat) (fun x => ∃ i : Nat, x.2 = (i : Int) ∧ i ≤ 10 ∧ cdU s i = some x.1) (fun x r => r = some (cdR s)) ?_ n _ ⟨0, rfl, by omega, rfl⟩ (by simp; omega)
    rintro ⟨a, _⟩ J ⟨i, rfl, hi, ha⟩ ih
    dsimp only at ha
    show impl_CheckDigit_L5 n _ _ _ s a (i : Int) = _
    unfold impl_CheckDigit_L5
    by_cases h : i < 10
    · rw [decide_eq_true (by omega), cond_true]
      unfold impl_CheckDigit_k2
      have hb := byteAt_rng s i
      have go : ∀ v, chV s i = some v → J (w64 (a + w64 (v * 2 ^ (min i 64))), ((i + 1 : Nat) : Int)) = some (cdR s) := fun v hv => ih _ ⟨i + 1, rfl, by omega, cdU_succ ha hv⟩ (by simp; omega)
      have stop : chV s i = none → some (-1) = some (cdR s) := fun hv => by rw [cdR_stop hs h hv]
      have digit : (¬ i < 4 ∨ chV s i = none) → impl_CheckDigit_k1 n (fun sum77 => (bd (Int.tmod sum77 (11 : Int)) fun (v78 : Int) => (bd (Int.tmod v78 (10 : Int)) fun (v79 : Int) => some (v79)))) (fun t80 => some (t80)) (fun sum81 t82 => J (sum81, t82)) s a (i : Int) (byteAt s i) (i : Int) = some (cdR s) := fun h4 => by
        unfold impl_CheckDigit_k1
        by_cases h5 : i < 4
        · rw [decide_eq_false (by omega), cond_false]
          exact stop (h4.resolve_left (fun x => x h5))
        · rw [decide_eq_true (by omega), cond_true]
          have e : chV s i = if 48 ≤ byteAt s i ∧ byteAt s i ≤ 57 then some (byteAt s i - 48) else none := by unfold chV; rw [if_neg h5]
          by_cases hd : 48 ≤ byteAt s i ∧ byteAt s i ≤ 57
          · rw [if_pos hd] at e
            rw [decide_eq_true (show byteAt s i ≥ 48 from hd.1), cond_true, decide_eq_true hd.2, cond_true, chk_dec (by omega), bd_eq, w64_succ (show i < 9223372036854775807 by omega), Int.toNat_natCast, wu8_id (x := byteAt s i - 48) (by omega) (by omega), w64_id (x := byteAt s i - 48) (by omega) (by omega)]
            exact go _ e
          · rw [if_neg hd] at e
            by_cases h6 : byteAt s i ≥ 48
            · rw [decide_eq_true h6, cond_true, decide_eq_false (show ¬ byteAt s i ≤ 57 by omega), cond_false]
              exact stop e
            · rw [decide_eq_false h6, cond_false]
              exact stop e
      rw [ix_of (by omega) (by omega), Int.toNat_natCast]
      by_cases h4 : i < 4
      · have e : chV s i = if 65 ≤ byteAt s i ∧ byteAt s i ≤ 90 then some (letU (byteAt s i - 65).toNat) else none := by unfold chV; rw [if_pos h4]
        rw [decide_eq_true (by omega), cond_true]
        by_cases hd : 65 ≤ byteAt s i ∧ byteAt s i ≤ 90
        · rw [if_pos hd] at e
          unfold impl_CheckDigit_k0
          rw [decide_eq_true (show byteAt s i ≥ 65 from hd.1), cond_true, decide_eq_true hd.2, cond_true, value_impl ⟨hd.1, hb.2⟩ hn, Option.bind_some, chk_dec (by omega), bd_eq, w64_succ (show i < 9223372036854775807 by omega), Int.toNat_natCast]
          exact go _ e
        · rw [if_neg hd] at e
          by_cases h6 : byteAt s i ≥ 65
          · unfold impl_CheckDigit_k0
            rw [decide_eq_true h6, cond_true, decide_eq_false (show ¬ byteAt s i ≤ 90 by omega), cond_false, decide_eq_false (show ¬ (i : Int) ≥ 4 by omega), cond_false]
            exact stop e
          · rw [decide_eq_false h6, cond_false]
            exact digit (.inr e)
      · rw [decide_eq_false (by omega), cond_false]
        exact digit (.inl h4)
    · have : i = 10 := by omega
      subst this
      rw [decide_eq_false (by omega), cond_false]
      simp only [bd_eq]
      unfold cdR
      rw [if_pos hs, ha]
  · rw [decide_eq_false hs, Bool.not_false, cond_true]
    unfold cdR
    rw [if_neg hs]
/-! ### Boxes -/
def nameB (s : ByteArray) : Bool := decide ((s.size : Int) = 11) && (decide (cdR (s.extract 0 10) ≥ 0) && decide (byteAt s 10 = 48 + cdR (s.extract 0 10)))
theorem nameB_spec {n : Nat} (s : ByteArray) (hn : 1000000000 < n) : spec_BoxName n s = some (nameB s) := by
  unfold spec_BoxName nameB
  by_cases h : (s.size : Int) = 11
  · have hr := cdR_rng (s.extract 0 10)
    have hb := byteAt_rng s 10
    rw [decide_eq_true h, Bool.not_true, cond_false, chk_dec (by omega), check_spec _ hn, Option.bind_some, ix_of (by omega) (by omega), w64_id (x := byteAt s 10) (by omega) (by omega), w64_id (x := 48 + cdR (s.extract 0 10)) (by omega) (by omega)]
    cases decide (cdR (s.extract 0 10) ≥ 0) <;> rfl
  · rw [decide_eq_false h]; rfl
theorem nameB_impl {n : Nat} (s : ByteArray) (hn : 1000000000 < n) : impl_BoxName n s = some (nameB s) := by
  unfold impl_BoxName nameB
  by_cases h : (s.size : Int) = 11
  · have hr := cdR_rng (s.extract 0 10)
    have hb := byteAt_rng s 10
    rw [decide_eq_true h, Bool.not_true, cond_false, chk_dec (by omega), check_impl _ hn, Option.bind_some, ix_of (by omega) (by omega), w64_id (x := 48 + cdR (s.extract 0 10)) (by omega) (by omega)]
    by_cases h0 : cdR (s.extract 0 10) ≥ 0
    · rw [decide_eq_true h0, cond_true, wu8_id (by omega) (by omega)]; rfl
    · rw [decide_eq_false h0]; rfl
  · rw [decide_eq_false h]; rfl
def boxB (b : SBox) : Bool := nameB b.Name && (decide (1 ≤ b.Weight ∧ b.Weight ≤ 40000) && (decide (0 ≤ b.Class ∧ b.Class ≤ 9) && (decide (0 ≤ b.From ∧ b.From ≤ 19) && decide (b.From < b.To ∧ b.To ≤ 19))))
theorem boxB_spec {n : Nat} (b : SBox) (hn : 1000000000 < n) : spec_BoxOk n b = some (boxB b) := by
  unfold spec_BoxOk boxB
  rw [nameB_spec _ hn]
  simp only [in_specB, Option.bind_some, bd_eq]
  cases nameB b.Name with
  | false => rfl
  | true =>
    cases decide (1 ≤ b.Weight ∧ b.Weight ≤ 40000) with
    | false => rfl
    | true =>
      cases decide (0 ≤ b.Class ∧ b.Class ≤ 9) with
      | false => rfl
      | true =>
        by_cases h : 0 ≤ b.From ∧ b.From ≤ 19
        · rw [decide_eq_true h, w64_id (by omega) (by omega)]
          simp only [cond_true, Bool.true_and, Option.some.injEq, decide_eq_decide]
          omega
        · rw [decide_eq_false h]; rfl
theorem boxB_impl {n : Nat} (b : SBox) (hn : 1000000000 < n) : impl_BoxOk n b = some (boxB b) := by
  unfold impl_BoxOk boxB impl_portOk
  rw [nameB_impl _ hn]
  simp only [in_implB, Option.bind_some]
  cases nameB b.Name with
  | false => rfl
  | true =>
    cases decide (1 ≤ b.Weight ∧ b.Weight ≤ 40000) with
    | false => rfl
    | true =>
      cases decide (0 ≤ b.Class ∧ b.Class ≤ 9) with
      | false => rfl
      | true =>
        by_cases h : 0 ≤ b.From ∧ b.From ≤ 19
        · rw [decide_eq_true h]
          by_cases h2 : 0 ≤ b.To ∧ b.To ≤ 19
          · rw [decide_eq_true h2]
            simp only [cond_true, Bool.true_and, Option.some.injEq, decide_eq_decide]
            omega
          · rw [decide_eq_false h2]
            simp only [cond_true, cond_false, Bool.true_and, Option.some.injEq]
            exact (decide_eq_false (by omega)).symm
        · rw [decide_eq_false h]; rfl
theorem boxB_w {b : SBox} (h : boxB b = true) : 1 ≤ b.Weight ∧ b.Weight ≤ 40000 := by
  unfold boxB at h
  simp only [Bool.and_eq_true, decide_eq_true_eq] at h
  exact h.2.1
/-! ### Stacks -/
abbrev bx (l : List SBox) (i : Nat) : SBox := l.getD i dSBox
def wU (l : List SBox) : Nat → Int
  | 0 => 0
  | k + 1 => w64 (wU l k + (bx l k).Weight)
def okAt (l : List SBox) (i : Nat) : Bool := boxB (bx l i) && ((bif decide ((i : Int) > 0) then !decide ((bx l i).Weight > (bx l (i - 1)).Weight) else true) && (bif (bx l i).Cold then !decide ((i : Int) > 1) else true))
def stackB (l : List SBox) (most : Int) : Bool := decide ((l.length : Int) ≤ 20) && ((List.range l.length).all (okAt l) && (decide (0 ≤ most ∧ most ≤ 1000000) && decide (wU l l.length ≤ most)))
theorem stack_step {α : Type} {l : List SBox} {k : Nat} (hk : k < l.length) (hl : l.length ≤ 1000) {no : Option α} {J : Int → Int → Option α} (s : Int) :
    (bif !boxB (bx l k) then no else (bif decide ((k : Int) > 0) then ix (w64 ((k : Int) - 1)) l.length (bif decide ((bx l k).Weight > (l.getD (w64 ((k : Int) - 1)).toNat dSBox).Weight) then no else (bif (bx l k).Cold then (bif decide ((k : Int) > 1) then no else J (w64 (s + (bx l k).Weight)) (w64 ((k : Int) + 1))) else J (w64 (s + (bx l k).Weight)) (w64 ((k : Int) + 1)))) else (bif (bx l k).Cold then (bif decide ((k : Int) > 1) then no else J (w64 (s + (bx l k).Weight)) (w64 ((k : Int) + 1))) else J (w64 (s + (bx l k).Weight)) (w64 ((k : Int) + 1))))) =
    bif okAt l k then J (w64 (s + (bx l k).Weight)) ((k + 1 : Nat) : Int) else no := by
  unfold okAt
  rw [w64_succ (show k < 9223372036854775807 by omega)]
  cases boxB (bx l k) with
  | false => rfl
  | true =>
    cases k with
    | zero => cases (bx l 0).Cold <;> rfl
    | succ k =>
      have e1 : w64 (((k + 1 : Nat) : Int) - 1) = (k : Int) := by rw [w64_id (by omega) (by omega)]; omega
      rw [e1, ix_nat (show k < l.length by omega), Int.toNat_natCast, decide_eq_true (show ((k + 1 : Nat) : Int) > 0 by omega)]
      simp only [Bool.not_true, cond_false, cond_true, Nat.add_sub_cancel, Bool.true_and]
      cases decide ((bx l (k + 1)).Weight > (bx l k).Weight) <;> cases (bx l (k + 1)).Cold <;> cases decide (((k + 1 : Nat) : Int) > 1) <;> rfl
theorem stack_impl {n : Nat} (l : List SBox) (most : Int) (hl : l.length ≤ 1000) (hn : 1000000000 < n) : impl_StackOk n l most = some (stackB l most) := by
  unfold impl_StackOk stackB
  by_cases h20 : (l.length : Int) ≤ 20
  · rw [decide_eq_false (show ¬ (l.length : Int) > 20 by omega), cond_false, decide_eq_true h20, Bool.true_and, in_implB, Option.bind_some]
    cases hm : decide (0 ≤ most ∧ most ≤ 1000000) with
    | false => cases (List.range l.length).all (okAt l) <;> rfl
    | true =>
      rw [Bool.not_true, cond_false, Bool.true_and]
      refine loopN_ind (fun x : Int × Int => l.length - x.2.toNat) (fun x => ∃ k : Nat, x.2 = (k : Int) ∧ k ≤ l.length ∧ x.1 = wU l k ∧ ∀ i, i < k → okAt l i = true) (fun x r => r = some ((List.range l.length).all (okAt l) && decide (wU l l.length ≤ most))) ?_ n _ ⟨0, rfl, by omega, rfl, fun i hi => absurd hi (Nat.not_lt_zero _)⟩ (by simp; omega)
      rintro ⟨_, _⟩ J ⟨k, rfl, hk, rfl, hg⟩ ih
      show impl_StackOk_L5 n _ _ _ l most (wU l k) l (l.length : Int) (k : Int) = _
      unfold impl_StackOk_L5
      by_cases h : k < l.length
      · rw [decide_eq_true (by omega), cond_true]
        unfold impl_StackOk_k0
        rw [ix_nat h, bd_eq, Int.toNat_natCast, boxB_impl _ hn, Option.bind_some]
        simp only [bd_eq]
        refine (stack_step (J := fun a b => J (a, b)) h hl (wU l k)).trans ?_
        cases ho : okAt l k with
        | true => exact ih _ ⟨k + 1, rfl, h, rfl, fun i hi => by
            by_cases e : i = k
            · rw [e]; exact ho
            · exact hg i (by omega)⟩ (by simp; omega)
        | false =>
          rw [all_range_not h ho]
          rfl
      · have : k = l.length := by omega
        subst this
        rw [decide_eq_false (by omega), cond_false, show (List.range l.length).all (okAt l) = true from by rw [List.all_eq_true]; exact fun i hi => hg i (List.mem_range.1 hi)]
        rfl
  · rw [decide_eq_true (show (l.length : Int) > 20 by omega), cond_true, decide_eq_false h20]
    rfl
theorem stack_spec {n : Nat} (l : List SBox) (most : Int) (hl : l.length ≤ 1000) (hn : 1000000000 < n) : spec_StackOk n l most = some (stackB l most) := by
  unfold spec_StackOk
  by_cases h20 : (l.length : Int) ≤ 20
  · unfold stackB
    rw [decide_eq_true h20, Bool.true_and]
    refine loopN_ind (fun x : Int × Int => l.length - x.2.toNat) (fun x => ∃ k : Nat, x.2 = (k : Int) ∧ k ≤ l.length ∧ x.1 = wU l k ∧ ∀ i, i < k → okAt l i = true) (fun x r => r = some ((List.range l.length).all (okAt l) && (decide (0 ≤ most ∧ most ≤ 1000000) && decide (wU l l.length ≤ most)))) ?_ n _ ⟨0, rfl, by omega, rfl, fun i hi => absurd hi (Nat.not_lt_zero _)⟩ (by simp; omega)
    rintro ⟨_, _⟩ J ⟨k, rfl, hk, rfl, hg⟩ ih
    show spec_StackOk_L3 n _ _ _ l most (wU l k) (k : Int) = _
    unfold spec_StackOk_L3
    by_cases h : k < l.length
    · rw [decide_eq_true (by omega), cond_true]
      unfold spec_StackOk_k0
      rw [ix_nat h, bd_eq, Int.toNat_natCast, decide_eq_false (show ¬ (l.length : Int) > 20 by omega), cond_false, boxB_spec _ hn, Option.bind_some]
      simp only [bd_eq]
      refine (stack_step (J := fun a b => J (a, b)) h hl (wU l k)).trans ?_
      cases ho : okAt l k with
      | true => exact ih _ ⟨k + 1, rfl, h, rfl, fun i hi => by
          by_cases e : i = k
          · rw [e]; exact ho
          · exact hg i (by omega)⟩ (by simp; omega)
      | false =>
        rw [all_range_not h ho]
        rfl
    · have : k = l.length := by omega
      subst this
      rw [decide_eq_false (by omega), cond_false, show (List.range l.length).all (okAt l) = true from by rw [List.all_eq_true]; exact fun i hi => hg i (List.mem_range.1 hi), in_specB]
      dsimp only
      rw [Option.bind_some, Bool.true_and]
      cases decide (0 ≤ most ∧ most ≤ 1000000) <;> rfl
  · obtain ⟨m, rfl⟩ : ∃ m, n = m + 1 := ⟨n - 1, by omega⟩
    rw [loopN_succ]
    unfold spec_StackOk_L3 spec_StackOk_k0 stackB
    rw [decide_eq_true (show (0 : Int) < (l.length : Int) by omega), cond_true, ix_of (by omega) (by omega), bd_eq, decide_eq_true (show (l.length : Int) > 20 by omega), cond_true, decide_eq_false h20]
    rfl
theorem wU_rng {l : List SBox} (h : ∀ i, i < l.length → boxB (bx l i) = true) (hl : l.length ≤ 1000) : ∀ k, k ≤ l.length → (k : Int) ≤ wU l k ∧ wU l k ≤ 40000 * (k : Int)
  | 0, _ => ⟨Int.le_refl _, Int.le_refl _⟩
  | k + 1, hk => by
    have h1 := wU_rng h hl k (by omega)
    have h2 := boxB_w (h k (by omega))
    show ((k + 1 : Nat) : Int) ≤ w64 (wU l k + (bx l k).Weight) ∧ w64 (wU l k + (bx l k).Weight) ≤ _
    rw [w64_id (by omega) (by omega)]
    omega
theorem bx_take {l : List SBox} {m i : Nat} (h : i < m) : bx (l.take m) i = bx l i := by
  unfold bx
  simp [List.getD_eq_getElem?_getD, List.getElem?_take, h]
theorem wU_take {l : List SBox} {m : Nat} : ∀ k, k ≤ m → wU (l.take m) k = wU l k
  | 0, _ => rfl
  | k + 1, hk => by
    show w64 (wU (l.take m) k + (bx (l.take m) k).Weight) = w64 (wU l k + (bx l k).Weight)
    rw [wU_take k (by omega), bx_take (by omega)]
theorem okAt_box {l : List SBox} {i : Nat} (h : okAt l i = true) : boxB (bx l i) = true := by
  unfold okAt at h
  rw [Bool.and_eq_true] at h
  exact h.1
theorem stack_less {l : List SBox} {most : Int} {m : Nat} (hm : l.length = m + 1) (hl : l.length ≤ 1000) (h : stackB l most = true) : stackB (l.take m) most = true := by
  unfold stackB at h ⊢
  simp only [Bool.and_eq_true, decide_eq_true_eq, List.all_eq_true, List.mem_range] at h ⊢
  obtain ⟨h1, h2, h3, h4⟩ := h
  have hlen : (l.take m).length = m := by rw [List.length_take]; omega
  have hr := wU_rng (fun i hi => okAt_box (h2 i hi)) hl
  refine ⟨by rw [hlen]; omega, fun i hi => ?_, h3, ?_⟩
  · rw [hlen] at hi
    have := h2 i (by omega)
    unfold okAt at this ⊢
    rw [bx_take hi, bx_take (show i - 1 < m by omega)]
    exact this
  · rw [hlen, wU_take m (Nat.le_refl _)]
    rw [hm] at h4
    have e : wU l (m + 1) = w64 (wU l m + (bx l m).Weight) := rfl
    have r1 := hr m (by omega)
    have r2 := boxB_w (okAt_box (h2 m (by omega)))
    rw [e, w64_id (by omega) (by omega)] at h4
    omega
theorem onceB_ok {n : Nat} {c : Sl1Cur} (h : CurOk c) {m : Int} (hm : 1 ≤ m ∧ m ≤ 256) : ∃ v c', spec_l1Once n c m = some (v, c') ∧ CurOk c' := by
  obtain ⟨v, c', h1, h2, h3⟩ := below_ok (n := n) h hm
  unfold spec_l1Once
  rw [h1, Option.bind_some]
  exact ⟨_, _, rfl, h3⟩
theorem pickB_ok {n : Nat} {c : Sl1Cur} (h : CurOk c) {l : List ByteArray} (hl : 1 ≤ l.length ∧ l.length ≤ 256) : ∃ v c', spec_l1Pick n c l = some (v, c') ∧ v ∈ l ∧ CurOk c' := by
  obtain ⟨v, c', h1, h2, h3⟩ := below_ok (n := n) h (m := (l.length : Int)) (by omega)
  unfold spec_l1Pick
  rw [h1, Option.bind_some, ix_of h2.1 h2.2]
  exact ⟨_, _, rfl, getD_mem (by omega), h3⟩
theorem pickIntB_ok {n : Nat} {c : Sl1Cur} (h : CurOk c) {l : List Int} (hl : 1 ≤ l.length ∧ l.length ≤ 256) : ∃ v c', spec_l1PickInt n c l = some (v, c') ∧ CurOk c' := by
  obtain ⟨v, c', h1, h2, h3⟩ := below_ok (n := n) h (m := (l.length : Int)) (by omega)
  unfold spec_l1PickInt
  rw [h1, Option.bind_some, ix_of h2.1 h2.2]
  exact ⟨_, _, rfl, h3⟩
theorem bstr_size (l : List Int) : (bstr l).size = l.length := by
  show (List.map _ l).toArray.size = _
  simp
theorem strb_length (s : ByteArray) : (strb s).length = s.size := by
  unfold strb
  rw [List.length_map]
  rfl
theorem drawName_ok {n : Nat} {c : Sl1Cur} (hc : CurOk c) (hn : 1000000000 < n) : ∃ s c', spec_l11DrawName n c = some (s, c') ∧ s.size = 11 ∧ CurOk c' := by
  unfold spec_l11DrawName
  refine loop_runS (S := Sl1Cur × List Int) (X := Int × Sl1Cur × List Int) (enc := fun k s => (k, s.1, s.2)) (len := 4) (I := fun k s => CurOk s.1 ∧ s.2.length = k)
    (Q := fun r => ∃ (s : ByteArray) (c' : Sl1Cur), r = some (s, c') ∧ s.size = 11 ∧ CurOk c') (fun k s J hk hI => ?_) (fun s J hI => ?_) (by omega) (s0 := (c, [])) ⟨hc, rfl⟩
  · obtain ⟨i1, i2⟩ := hI
    obtain ⟨a, p1, e4, a4, q4⟩ := below_ok (n := n) i1 (m := 26) (by omega)
    refine ⟨(p1, s.2 ++ [wu8 (w64 (65 + a))]), ⟨q4, by rw [List.length_append, List.length_singleton, i2]⟩, ?_⟩
    show spec_l11DrawName_L3 n _ _ (k : Int) s.1 s.2 = _
    unfold spec_l11DrawName_L3
    rw [decide_eq_true (by omega), cond_true, e4, Option.bind_some, bd_eq, chk_dec (by rw [List.length_append, List.length_singleton, i2]; omega), w64_succ (by omega)]
  · obtain ⟨i1, i2⟩ := hI
    show ∃ s' c', spec_l11DrawName_L3 n _ _ ((4 : Nat) : Int) s.1 s.2 = some (s', c') ∧ _
    unfold spec_l11DrawName_L3
    rw [decide_eq_false (by omega), cond_false]
    refine loop_runS (S := Sl1Cur × List Int) (X := Int × Sl1Cur × List Int) (enc := fun k s => (k, s.1, s.2)) (len := 6) (I := fun k s => CurOk s.1 ∧ s.2.length = 4 + k)
      (Q := fun r => ∃ (s : ByteArray) (c' : Sl1Cur), r = some (s, c') ∧ s.size = 11 ∧ CurOk c') (fun k s J hk hI => ?_) (fun s J hI => ?_) (by omega) (s0 := (s.1, s.2)) ⟨i1, i2⟩
    · obtain ⟨i1, i2⟩ := hI
      obtain ⟨a, p1, e4, a4, q4⟩ := below_ok (n := n) i1 (m := 10) (by omega)
      refine ⟨(p1, s.2 ++ [wu8 (w64 (48 + a))]), ⟨q4, by rw [List.length_append, List.length_singleton, i2]; omega⟩, ?_⟩
      show spec_l11DrawName_L7 n _ _ (k : Int) s.1 s.2 = _
      unfold spec_l11DrawName_L7
      rw [decide_eq_true (by omega), cond_true, e4, Option.bind_some, bd_eq, chk_dec (by rw [List.length_append, List.length_singleton, i2]; omega), w64_succ (by omega)]
    · obtain ⟨i1, i2⟩ := hI
      show ∃ s' c', spec_l11DrawName_L7 n _ _ ((6 : Nat) : Int) s.1 s.2 = some (s', c') ∧ _
      unfold spec_l11DrawName_L7
      rw [decide_eq_false (by omega), cond_false]
      dsimp only
      rw [check_spec _ hn, Option.bind_some, bd_eq, chk_dec (by rw [List.length_append, List.length_singleton, i2]; omega)]
      exact ⟨_, _, rfl, by rw [bstr_size, List.length_append, List.length_singleton, i2], i1⟩
theorem drawB_ok {n : Nat} {c : Sl1Cur} (hc : CurOk c) (hn : 1000000000 < n) : ∃ b c', spec_l11Draw n c = some (b, c') ∧ CurOk c' := by
  obtain ⟨v1, c1, e1, a1, q1⟩ := below_ok (n := n) hc (m := 4) (by omega)
  obtain ⟨s, c2, e2, a2, q2⟩ := drawName_ok (n := n) q1 hn
  obtain ⟨v3, c3, e3, a3, q3⟩ := below_ok (n := n) q2 (m := 30) (by omega)
  obtain ⟨v4, c4, e4, a4, q4⟩ := below_ok (n := n) q3 (m := 4) (by omega)
  obtain ⟨v5, c5, e5, q5⟩ := onceB_ok (n := n) q4 (m := 4) (by omega)
  unfold spec_l11Draw
  simp only [e1, e2, e3, e4, e5, Option.bind_some, bd_eq]
  cases v5 with
  | true =>
    obtain ⟨v6, c6, e6, a6, q6⟩ := below_ok (n := n) q5 (m := 10) (by omega)
    obtain ⟨v7, c7, e7, q7⟩ := onceB_ok (n := n) q6 (m := 8) (by omega)
    simp only [cond_true, e6, e7, Option.bind_some]
    exact ⟨_, _, rfl, q7⟩
  | false =>
    obtain ⟨v7, c7, e7, q7⟩ := onceB_ok (n := n) q5 (m := 8) (by omega)
    simp only [cond_false, e7, Option.bind_some]
    exact ⟨_, _, rfl, q7⟩
theorem drawText_ok {n : Nat} {c : Sl1Cur} (hc : CurOk c) (hn : 1000000000 < n) : ∃ s c', spec_l11DrawText n c = some (s, c') ∧ CurOk c' := by
  obtain ⟨s, c1, e1, a1, q1⟩ := drawName_ok (n := n) hc hn
  obtain ⟨k, c2, e2, a2, q2⟩ := below_ok (n := n) q1 (m := ((strb s).length : Int)) (by rw [strb_length, a1]; omega)
  obtain ⟨v, c3, e3, a3, q3⟩ := below_ok (n := n) q2 (m := 5) (by omega)
  have hl : (strb s).length = 11 := by rw [strb_length, a1]
  unfold spec_l11DrawText
  rw [e1, Option.bind_some]
  dsimp only
  rw [e2, Option.bind_some]
  dsimp only
  rw [e3, Option.bind_some]
  dsimp only
  cases decide (v = 0) with
  | true =>
    rw [cond_true]
    obtain ⟨t, c4, e4, m4, q4⟩ := pickB_ok (n := n) q3 (l := [str [97], str [48], str [90], str [32], str [53], str [75]]) (by simp)
    have ht : t.size = 1 := by
      simp only [List.mem_cons, List.not_mem_nil, or_false] at m4
      rcases m4 with rfl | rfl | rfl | rfl | rfl | rfl <;> rfl
    rw [e4, Option.bind_some]
    dsimp only
    rw [ix_of (by omega) (by omega), ix_of a2.1 a2.2, chk_dec (by omega), bd_eq]
    exact ⟨_, _, rfl, q4⟩
  | false =>
    rw [cond_false]
    cases decide (v = 1) with
    | true =>
      rw [cond_true, bd_eq, chk_dec (by rw [List.length_append, List.length_singleton, hl]; omega)]
      exact ⟨_, _, rfl, q3⟩
    | false =>
      rw [cond_false]
      cases decide (v = 2) with
      | true =>
        rw [cond_true, chk_dec (by omega), chk_dec (by omega), chk_dec (by omega)]
        exact ⟨_, _, rfl, q3⟩
      | false =>
        rw [cond_false]
        cases decide (v = 3) with
        | true =>
          rw [cond_true]
          obtain ⟨t, c4, e4, m4, q4⟩ := below_ok (n := n) q3 (m := 10) (by omega)
          rw [e4, Option.bind_some, bd_eq]
          dsimp only
          rw [ix_of (by omega) (by omega), chk_dec (by omega), bd_eq]
          exact ⟨_, _, rfl, q4⟩
        | false => exact ⟨_, _, rfl, q3⟩
theorem drawAnyB_ok {n : Nat} {c : Sl1Cur} (hc : CurOk c) (hn : 1000000000 < n) : ∃ b c', spec_l11DrawAny n c = some (b, c') ∧ CurOk c' := by
  obtain ⟨b, c1, e1, q1⟩ := drawB_ok (n := n) hc hn
  obtain ⟨v, c2, e2, a2, q2⟩ := below_ok (n := n) q1 (m := 30) (by omega)
  unfold spec_l11DrawAny
  rw [e1, Option.bind_some]
  dsimp only
  rw [e2, Option.bind_some]
  dsimp only
  cases decide (v = 0) with
  | true =>
    rw [cond_true]
    obtain ⟨t, c3, e3, q3⟩ := drawText_ok (n := n) q2 hn
    rw [e3, Option.bind_some]
    exact ⟨_, _, rfl, q3⟩
  | false =>
    rw [cond_false]
    cases decide (v = 1) with
    | true =>
      rw [cond_true]
      obtain ⟨t, c3, e3, q3⟩ := pickIntB_ok (n := n) q2 (l := [(0 : Int), (40000 : Int), (40001 : Int), (-1 : Int)]) (by simp)
      rw [e3, Option.bind_some]
      exact ⟨_, _, rfl, q3⟩
    | false =>
      rw [cond_false]
      cases decide (v = 2) with
      | true =>
        rw [cond_true]
        obtain ⟨t, c3, e3, q3⟩ := pickIntB_ok (n := n) q2 (l := [(-1 : Int), (9 : Int), (10 : Int)]) (by simp)
        rw [e3, Option.bind_some]
        exact ⟨_, _, rfl, q3⟩
      | false =>
        rw [cond_false]
        cases decide (v = 3) with
        | true =>
          rw [cond_true]
          obtain ⟨t, c3, e3, q3⟩ := pickIntB_ok (n := n) q2 (l := [(-1 : Int), (18 : Int), (19 : Int)]) (by simp)
          rw [e3, Option.bind_some]
          exact ⟨_, _, rfl, q3⟩
        | false =>
          rw [cond_false]
          cases decide (v = 4) with
          | true =>
            rw [cond_true]
            obtain ⟨t, c3, e3, q3⟩ := pickIntB_ok (n := n) q2 (l := [(0 : Int), (19 : Int), (20 : Int)]) (by simp)
            rw [e3, Option.bind_some]
            exact ⟨_, _, rfl, q3⟩
          | false => exact ⟨_, _, rfl, q2⟩
def spEq (b s : SSpot) : Bool := (decide (b.Bay = s.Bay)) && ((decide (b.Row = s.Row)) && (decide (b.Tier = s.Tier)))
theorem spEq_self (s : SSpot) : spEq s s = true := by simp [spEq]
def dupAt (l : List SStow) (i : Nat) : Bool := (l.take i).any fun b => spEq b.Spot (l.getD i dSStow).Spot
def liftBy (port : Int) (a b : SStow) : Bool := (decide (a.Box.To > port)) && ((decide (b.Box.To = port)) && ((decide (b.Spot.Bay = a.Spot.Bay)) && ((decide (b.Spot.Row = a.Spot.Row)) && (decide (b.Spot.Tier < a.Spot.Tier)))))
def liftAt (l : List SStow) (port : Int) (i : Nat) : Bool := l.any (liftBy port (l.getD i dSStow))
def lifts (l : List SStow) (port : Int) (k : Nat) : List Int := ((List.range k).filter (liftAt l port)).map fun (i : Nat) => (i : Int)
theorem lifts_succ (l : List SStow) (port : Int) (k : Nat) : lifts l port (k + 1) = if liftAt l port k = true then lifts l port k ++ [(k : Int)] else lifts l port k := by
  unfold lifts
  rw [List.range_succ, List.filter_append]
  by_cases h : liftAt l port k = true <;> simp [h]
theorem lifts_len (l : List SStow) (port : Int) (k : Nat) : (lifts l port k).length ≤ k := by
  unfold lifts
  rw [List.length_map]
  have := List.length_filter_le (liftAt l port) (List.range k)
  simpa using this
def noDup (l : List SStow) : Prop := ∀ i, i < l.length → dupAt l i = false
instance (l : List SStow) : Decidable (noDup l) := Nat.decidableBallLT _ _
def shiftsR (l : List SStow) (port : Int) : List Int × Bool :=
  if l.length ≤ 40 ∧ 0 ≤ port ∧ port ≤ 19 ∧ noDup l then (lifts l port l.length, true) else ([], false)
theorem any_take_succ {α : Type} {l : List α} {k : Nat} {d : α} (f : α → Bool) (h : k < l.length) : (l.take (k + 1)).any f = ((l.take k).any f || f (l.getD k d)) := by
  rw [take_succ_getD (d := d) h, List.any_append]
  simp
theorem l12At_eq {n : Nat} (l : List SStow) (i : Nat) (hi : i < l.length) (hl : l.length ≤ 40) (hn : 1048576 < n) : ∃ r : Int, spec_l12At n l (l.getD i dSStow).Spot = some r ∧ (decide (r = (i : Int)) = !(dupAt l i)) := by
  unfold spec_l12At
  refine loopN_ind (fun x => l.length - x.toNat) (fun x => ∃ k : Nat, k ≤ i ∧ x = (k : Int) ∧ (l.take k).any (fun b => spEq b.Spot (l.getD i dSStow).Spot) = false)
    (fun x r => ∃ r' : Int, r = some r' ∧ (decide (r' = (i : Int)) = !(dupAt l i))) ?_ n _ ⟨0, by omega, rfl, rfl⟩ (by simp; omega)
  rintro _ J ⟨k, hk, rfl, ha⟩ ih
  unfold spec_l12At_L2
  have h : k < l.length := by omega
  simp only [Int.ofNat_lt, h, decide_true, cond_true, ix_nat h, Int.toNat_natCast, bd_eq]
  rw [← spEq]
  cases he : spEq (l.getD k dSStow).Spot (l.getD i dSStow).Spot with
  | true =>
    refine ⟨k, rfl, ?_⟩
    by_cases e : k = i
    · subst e
      rw [dupAt, ha]
      simp
    · have : dupAt l i = true := by
        unfold dupAt
        rw [List.any_eq_true]
        refine ⟨l.getD k dSStow, ?_, he⟩
        rw [List.mem_iff_getElem]
        exact ⟨k, by simp; omega, by rw [List.getElem_take, getD_eq h]⟩
      rw [this]
      simp
      omega
  | false =>
    have e : k ≠ i := fun e => by subst e; rw [spEq_self] at he; cases he
    rw [cond_false, w64_succ (by omega)]
    exact ih _ ⟨k + 1, by omega, rfl, by rw [any_take_succ _ h, ha, he]; rfl⟩ (by simp; omega)
theorem in_spec (n : Nat) (p : Int) : spec_l1In n p 0 19 = some (decide (0 ≤ p ∧ p ≤ 19)) := by
  unfold spec_l1In
  by_cases h0 : 0 ≤ p <;> by_cases h1 : p ≤ 19 <;> simp [h0, h1]
theorem liftAt_eq (l : List SStow) (port : Int) (i : Nat) : liftAt l port i = ((decide ((l.getD i dSStow).Box.To > port)) && l.any fun b => (decide (b.Box.To = port)) && ((decide (b.Spot.Bay = (l.getD i dSStow).Spot.Bay)) && ((decide (b.Spot.Row = (l.getD i dSStow).Spot.Row)) && (decide (b.Spot.Tier < (l.getD i dSStow).Spot.Tier))))) := by
  unfold liftAt liftBy
  cases decide ((l.getD i dSStow).Box.To > port) with
  | true => simp
  | false => simp
theorem over_eq (n : Nat) (a b : SSpot) : impl_over n a b = some ((decide (a.Bay = b.Bay)) && ((decide (a.Row = b.Row)) && (decide (a.Tier > b.Tier)))) := by
  unfold impl_over
  cases decide (a.Bay = b.Bay) <;> cases decide (a.Row = b.Row) <;> rfl
theorem own_int_eq (n : Nat) (l : List Int) (h : l.length ≤ 1048576) : impl_own_int n l = some l := by
  unfold impl_own_int
  rw [chk_dec (by omega), chk_dec (by omega), chk_dec (by omega)]
theorem portOk_eq (n : Nat) (p : Int) : impl_portOk n p = some (decide (0 ≤ p ∧ p ≤ 19)) := by
  unfold impl_portOk impl_in
  by_cases h0 : 0 ≤ p <;> by_cases h1 : p ≤ 19 <;> simp [h0, h1]
theorem liftBy_eq (port : Int) (a b : SStow) : liftBy port a b = ((decide (a.Box.To > port)) && ((decide (b.Box.To = port)) && ((decide (a.Spot.Bay = b.Spot.Bay)) && ((decide (a.Spot.Row = b.Spot.Row)) && (decide (a.Spot.Tier > b.Spot.Tier)))))) := by
  unfold liftBy
  rw [decide_eq_decide.2 (⟨Eq.symm, Eq.symm⟩ : b.Spot.Bay = a.Spot.Bay ↔ a.Spot.Bay = b.Spot.Bay), decide_eq_decide.2 (⟨Eq.symm, Eq.symm⟩ : b.Spot.Row = a.Spot.Row ↔ a.Spot.Row = b.Spot.Row)]
theorem lift_impl (n : Nat) (kx : Bool → Option (List Int × Bool)) (kr : Bool → List Int → Option (List Int × Bool)) (l : List SStow) (port : Int) (i : Nat) (t17 out) (hi : i < l.length) (hl : l.length ≤ 40) (hn : 1048576 < n) :
    loopN (fun (x : Bool × Int) J' => impl_Shifts_L9 n kx (fun t57 t58 => kr t57 t58) (fun o k => J' (o, k)) l port (i : Int) x.1 l t17 (i : Int) l (l.length : Int) x.2 out (l.getD i dSStow)) n (false, (0 : Int)) =
      if dupAt l i = true then kr false [] else kx (liftAt l port i) := by
  have hdup : dupAt l i = (l.take i).any fun b => spEq b.Spot (l.getD i dSStow).Spot := rfl
  refine loopN_ind (fun x => l.length - x.2.toNat) (fun x => ∃ k : Nat, k ≤ l.length ∧ x = ((l.take k).any (liftBy port (l.getD i dSStow)), (k : Int)) ∧ ((l.take k).take i).any (fun b => spEq b.Spot (l.getD i dSStow).Spot) = false)
    (fun x r => r = if dupAt l i = true then kr false [] else kx (liftAt l port i)) ?_ n _ ⟨0, by omega, rfl, by simp⟩ (by simp; omega)
  rintro _ J ⟨k, hk, rfl, hd⟩ ih
  unfold impl_Shifts_L9
  by_cases h : k < l.length
  · have hcore : ∀ e, e = l.getD k dSStow → (((l.take (k + 1)).take i).any (fun b => spEq b.Spot (l.getD i dSStow).Spot) = false) →
        impl_Shifts_k0 n kx (fun t57 t58 => kr t57 t58) (fun o k => J (o, k)) l port (i : Int) ((l.take k).any (liftBy port (l.getD i dSStow))) l t17 (i : Int) l (l.length : Int) (k : Int) out (l.getD i dSStow) e = if dupAt l i = true then kr false [] else kx (liftAt l port i) := by
      rintro _ rfl hd'
      have key := ih ((l.take (k + 1)).any (liftBy port (l.getD i dSStow)), ((k + 1 : Nat) : Int)) ⟨k + 1, h, rfl, hd'⟩ (by simp; omega)
      rw [any_take_succ (d := dSStow) _ h, liftBy_eq] at key
      rw [← key]
      unfold impl_Shifts_k0
      rw [w64_succ (by omega), over_eq]
      cases (l.take k).any (liftBy port (l.getD i dSStow)) with
      | true => rfl
      | false =>
        cases decide ((l.getD i dSStow).Box.To > port) <;> cases decide ((l.getD k dSStow).Box.To = port) <;> rfl
    simp only [Int.ofNat_lt, h, decide_true, cond_true]
    unfold impl_Shifts_k1
    simp only [ix_nat h, Int.toNat_natCast, bd_eq, Int.ofNat_lt]
    by_cases hki : k < i
    · simp only [hki, decide_true, cond_true]
      rw [← spEq]
      have e1 : (l.take k).take i = l.take k := by rw [List.take_take, Nat.min_eq_right (by omega)]
      have e2 : (l.take (k + 1)).take i = l.take (k + 1) := by rw [List.take_take, Nat.min_eq_right (by omega)]
      cases he : spEq (l.getD k dSStow).Spot (l.getD i dSStow).Spot with
      | true =>
        have : dupAt l i = true := by
          unfold dupAt
          rw [List.any_eq_true]
          refine ⟨l.getD k dSStow, ?_, he⟩
          rw [List.mem_iff_getElem]
          exact ⟨k, by simp; omega, by rw [List.getElem_take, getD_eq h]⟩
        rw [if_pos this]
        rfl
      | false =>
        rw [cond_false]
        refine hcore _ rfl ?_
        rw [e2, any_take_succ (d := dSStow) _ h, he, ← e1, hd]
        rfl
    · simp only [hki, decide_false, cond_false]
      refine hcore _ rfl ?_
      rw [List.take_take, Nat.min_eq_left (by omega)] at hd ⊢
      exact hd
  · have : k = l.length := by omega
    subst this
    rw [List.take_length] at hd ⊢
    simp only [Int.lt_irrefl, decide_false, cond_false]
    rw [if_neg (by rw [hdup, hd]; simp)]
    rfl
theorem impl_Shifts_eq {n : Nat} (l : List SStow) (port : Int) (hn : 1048576 < n) : impl_Shifts n l port = some (shiftsR l port) := by
  unfold impl_Shifts
  rw [bif_dec]
  split
  · rw [shiftsR, if_neg (by omega)]
  · rename_i hl
    have hl : l.length ≤ 40 := by omega
    rw [portOk_eq, Option.bind_some]
    unfold impl_Shifts_k3
    by_cases hp : 0 ≤ port ∧ port ≤ 19
    · rw [decide_eq_true hp]
      simp only [Bool.not_true, cond_false]
      refine loopN_ind (fun x => l.length - x.1.toNat) (fun x => ∃ k : Nat, k ≤ l.length ∧ x = ((k : Int), lifts l port k) ∧ ∀ i, i < k → dupAt l i = false) (fun x r => r = some (shiftsR l port)) ?_ n _ ⟨0, by omega, rfl, by omega⟩ (by simp; omega)
      rintro _ J ⟨k, hk, rfl, hd⟩ ih
      unfold impl_Shifts_L5
      by_cases h : k < l.length
      · simp only [Int.ofNat_lt, h, decide_true, cond_true]
        unfold impl_Shifts_k2
        simp only [ix_nat h, Int.toNat_natCast, bd_eq]
        rw [lift_impl n _ (fun t69 t70 => some (t70, t69)) l port k _ _ h hl hn]
        cases hdk : dupAt l k with
        | true =>
          rw [if_pos rfl, shiftsR, if_neg]
          intro hh
          have := hh.2.2.2 k h
          rw [hdk] at this
          cases this
        | false =>
          rw [if_neg (by simp), w64_succ (by omega)]
          have key := ih (((k + 1 : Nat) : Int), lifts l port (k + 1)) ⟨k + 1, h, rfl, fun i hi => by
            by_cases e : i = k
            · rw [e, hdk]
            · exact hd i (by omega)⟩ (by simp; omega)
          have hlen := lifts_len l port k
          rw [lifts_succ] at key
          rw [chk_dec (by simp; omega)]
          revert key
          cases liftAt l port k <;> exact id
      · have : k = l.length := by omega
        subst this
        have hlen := lifts_len l port l.length
        simp only [Int.lt_irrefl, decide_false, cond_false]
        rw [own_int_eq n _ (by omega), shiftsR, if_pos ⟨hl, hp.1, hp.2, hd⟩]
        rfl
    · rw [decide_eq_false hp]
      simp only [Bool.not_false, cond_true]
      rw [shiftsR, if_neg (by omega)]
theorem shiftsR_len (l : List SStow) (port : Int) : (shiftsR l port).1.length ≤ 40 := by
  unfold shiftsR
  split
  · rename_i h
    have := lifts_len l port l.length
    exact Nat.le_trans this h.1
  · exact Nat.zero_le _
end Go.Sm
end

section
set_option linter.unusedSimpArgs false
set_option linter.deprecated false
set_option linter.unusedSectionVars false
set_option linter.unusedVariables false
set_option linter.unusedSimpArgs false
namespace Go.Sm
attribute [local irreducible] bd chk ix loopN
theorem loop_findS {S R X : Type} {enc : Nat → S → X} {b : X → (X → Option R) → Option R} {len : Nat} {p : Nat → Bool} {I : Nat → S → Prop} {yes : Nat → Option R} {no : Option R}
    (hstep : ∀ (k : Nat) (s : S) (J : X → Option R), k < len → I k s → ∃ s', I (k + 1) s' ∧ b (enc k s) J = bif p k then yes k else J (enc (k + 1) s')) (hfin : ∀ s J, I len s → b (enc len s) J = no) {n : Nat} (hn : len < n) {s0 : S} (h0 : I 0 s0) :
    loopN b n (enc 0 s0) = ((List.range len).find? p).elim no yes := by
  have key : ∀ m (k : Nat) (s : S) n, k + m = len → m < n → I k s → (∀ j, j < k → p j = false) → loopN b n (enc k s) = ((List.range len).find? p).elim no yes := by
    intro m
    induction m with
    | zero =>
      intro k s n hk hn hi hp
      have hk : k = len := by omega
      subst hk
      cases n with
      | zero => omega
      | succ n => rw [loopN_succ, hfin s _ hi, find_range_none hp]; rfl
    | succ m ih =>
      intro k s n hk hn hi hp
      cases n with
      | zero => omega
      | succ n =>
        rw [loopN_succ]
        obtain ⟨s', h1, h2⟩ := hstep k s (loopN b n) (by omega) hi
        rw [h2]
        cases hpk : p k with
        | true => rw [find_range_some (by omega) hpk hp]; rfl
        | false =>
          refine ih (k + 1) s' n (by omega) (by omega) h1 fun j hj => ?_
          by_cases e : j = k
          · rw [e]; exact hpk
          · exact hp j (by omega)
  exact key len 0 s0 n (by omega) hn h0 fun j hj => absurd hj (Nat.not_lt_zero _)
/-- The same, no state: what came before did not hold. -/
theorem loop_findE {R X : Type} {enc : Nat → X} {b : X → (X → Option R) → Option R} {len : Nat} {p : Nat → Bool} {yes : Nat → Option R} {no : Option R}
    (hstep : ∀ (k : Nat) (J : X → Option R), k < len → (∀ j, j < k → p j = false) → b (enc k) J = bif p k then yes k else J (enc (k + 1))) (hfin : ∀ J, b (enc len) J = no) {n : Nat} (hn : len < n) :
    loopN b n (enc 0) = ((List.range len).find? p).elim no yes := by
  have key : ∀ m (k : Nat) n, k + m = len → m < n → (∀ j, j < k → p j = false) → loopN b n (enc k) = ((List.range len).find? p).elim no yes := by
    intro m
    induction m with
    | zero =>
      intro k n hk hn hp
      have hk : k = len := by omega
      subst hk
      cases n with
      | zero => omega
      | succ n => rw [loopN_succ, hfin, find_range_none hp]; rfl
    | succ m ih =>
      intro k n hk hn hp
      cases n with
      | zero => omega
      | succ n =>
        rw [loopN_succ, hstep k (loopN b n) (by omega) hp]
        cases hpk : p k with
        | true => rw [find_range_some (by omega) hpk hp]; rfl
        | false =>
          refine ih (k + 1) n (by omega) (by omega) fun j hj => ?_
          by_cases e : j = k
          · rw [e]; exact hpk
          · exact hp j (by omega)
  exact key len 0 n (by omega) hn fun j hj => absurd hj (Nat.not_lt_zero _)
/-! ### Hatches -/
def hatchB (h : SHatch) : Bool := decide (1 ≤ h.Rows ∧ h.Rows ≤ 6) && (decide (1 ≤ h.Tiers ∧ h.Tiers ≤ 6) && (decide (0 ≤ h.Most ∧ h.Most ≤ 1000000) && decide (0 ≤ h.Plugs ∧ h.Plugs ≤ 36)))
def hatchesB (l : List SHatch) : Bool := decide (1 ≤ (l.length : Int) ∧ (l.length : Int) ≤ 6) && (List.range l.length).all fun k => hatchB (l.getD k dSHatch)
theorem hatches_spec {n : Nat} (l : List SHatch) (hl : l.length ≤ 100000000) (hn : 1000000000 < n) : spec_HatchesOk n l = some (hatchesB l) := by
  unfold spec_HatchesOk
  rw [loop_all (len := l.length) (p := fun k => hatchB (l.getD k dSHatch)) (no := some false) (yes := some (decide (1 ≤ (l.length : Int) ∧ (l.length : Int) ≤ 6))) (by omega) (fun i J hi _ => ?_) (fun J _ => ?_) (by omega)]
  · unfold hatchesB
    generalize decide (1 ≤ (l.length : Int) ∧ (l.length : Int) ≤ 6) = a
    generalize (List.range l.length).all _ = b
    cases a <;> cases b <;> rfl
  · have e : w64 ((i : Int) + 1) = ((i + 1 : Nat) : Int) := w64_succ (by omega)
    unfold spec_HatchesOk_L2 spec_HatchesOk_k0
    rw [decide_eq_true (by omega), cond_true, ix_nat hi, bd_eq, Int.toNat_natCast, e]
    simp only [in_specB, Option.bind_some]
    unfold hatchB
    generalize l.getD i dSHatch = h
    generalize decide (1 ≤ h.Rows ∧ h.Rows ≤ 6) = a
    generalize decide (1 ≤ h.Tiers ∧ h.Tiers ≤ 6) = b
    generalize decide (0 ≤ h.Most ∧ h.Most ≤ 1000000) = c
    generalize decide (0 ≤ h.Plugs ∧ h.Plugs ≤ 36) = d
    cases a <;> cases b <;> cases c <;> cases d <;> rfl
  · unfold spec_HatchesOk_L2
    rw [decide_eq_false (by omega), cond_false, in_specB]; rfl
theorem hatches_impl {n : Nat} (l : List SHatch) (hl : l.length ≤ 100000000) (hn : 1000000000 < n) : impl_HatchesOk n l = some (hatchesB l) := by
  have hc : slices_ContainsFunc_impl_Hatch_impl_Hatch__impl_HatchesOk_1 n l = some (!((List.range l.length).all fun k => hatchB (l.getD k dSHatch))) := by
    unfold slices_ContainsFunc_impl_Hatch_impl_Hatch__impl_HatchesOk_1 slices_IndexFunc_impl_Hatch_impl_Hatch__impl_HatchesOk_1
    rw [loop_idx (len := l.length) (p := fun k => !hatchB (l.getD k dSHatch)) (by omega) (fun k J hk _ => ?_) (fun J _ => ?_) (by omega), Option.bind_some, idxOf_ge, List.not_all_eq_any_not]
    · have e2 : w64 ((k : Int) + 1) = ((k + 1 : Nat) : Int) := w64_succ (by omega)
      unfold slices_IndexFunc_impl_Hatch_impl_Hatch__impl_HatchesOk_1_L2 impl_HatchesOk_1
      rw [decide_eq_true (by omega), cond_true, ix_nat hk, bd_eq, Int.toNat_natCast, e2]
      simp only [in_implB, Option.bind_some]
      unfold hatchB
      generalize l.getD k dSHatch = h
      generalize decide (1 ≤ h.Rows ∧ h.Rows ≤ 6) = a
      generalize decide (1 ≤ h.Tiers ∧ h.Tiers ≤ 6) = b
      generalize decide (0 ≤ h.Most ∧ h.Most ≤ 1000000) = c
      generalize decide (0 ≤ h.Plugs ∧ h.Plugs ≤ 36) = d
      cases a <;> cases b <;> cases c <;> cases d <;> rfl
    · unfold slices_IndexFunc_impl_Hatch_impl_Hatch__impl_HatchesOk_1_L2
      rw [decide_eq_false (by omega), cond_false]
  unfold impl_HatchesOk
  rw [in_implB, Option.bind_some, hc, Option.bind_some, Bool.not_not]
  unfold hatchesB
  generalize decide (1 ≤ (l.length : Int) ∧ (l.length : Int) ≤ 6) = a
  cases a <;> simp
theorem hatchesB_at {l : List SHatch} (h : hatchesB l = true) : l.length ≤ 6 ∧ 1 ≤ l.length ∧ ∀ k, k < l.length → (1 ≤ (l.getD k dSHatch).Rows ∧ (l.getD k dSHatch).Rows ≤ 6) ∧ (1 ≤ (l.getD k dSHatch).Tiers ∧ (l.getD k dSHatch).Tiers ≤ 6) := by
  unfold hatchesB at h
  rw [Bool.and_eq_true, decide_eq_true_eq] at h
  refine ⟨by omega, by omega, fun k hk => ?_⟩
  have := List.all_eq_true.1 h.2 k (List.mem_range.2 hk)
  unfold hatchB at this
  rw [Bool.and_eq_true, Bool.and_eq_true, decide_eq_true_eq, decide_eq_true_eq] at this
  exact ⟨this.1, this.2.1⟩
/-! ### Apart -/
theorem apart_all : ∀ a : Fin 10, ∀ b : Fin 10, spec_Apart 0 ((a.val : Nat) : Int) ((b.val : Nat) : Int) = impl_Apart 0 ((a.val : Nat) : Int) ((b.val : Nat) : Int) ∧ ((spec_Apart 0 ((a.val : Nat) : Int) ((b.val : Nat) : Int)).any fun r => decide (0 ≤ r ∧ r ≤ 3)) = true := by decide +kernel
theorem apart_both (n : Nat) {a b : Int} (ha : 0 ≤ a ∧ a ≤ 9) (hb : 0 ≤ b ∧ b ≤ 9) : ∃ r, spec_Apart n a b = some r ∧ impl_Apart n a b = some r ∧ 0 ≤ r ∧ r ≤ 3 := by
  have h := apart_all ⟨a.toNat, by omega⟩ ⟨b.toNat, by omega⟩
  have ea : ((a.toNat : Nat) : Int) = a := by omega
  have eb : ((b.toNat : Nat) : Int) = b := by omega
  dsimp only at h
  rw [ea, eb] at h
  obtain ⟨h1, h2⟩ := h
  cases hr : spec_Apart 0 a b with
  | none => rw [hr] at h2; cases h2
  | some r =>
    rw [hr] at h1 h2
    refine ⟨r, hr, h1.symm, ?_⟩
    have : decide (0 ≤ r ∧ r ≤ 3) = true := h2
    simpa using this
theorem k0_both (n : Nat) {a b : SBox} (sa sb : SSpot) (ha : 0 ≤ a.Class ∧ a.Class ≤ 9) (hb : 0 ≤ b.Class ∧ b.Class ≤ 9) : ∃ r, spec_KeepsApart_k0 n a sa b sb = some r ∧ impl_KeepsApart_k0 n a sa b sb = some r := by
  obtain ⟨r, r1, r2, r3, r4⟩ := apart_both n ha hb
  have s1 : ∀ x, ∃ z, spec_l3Size n x = some z ∧ impl_size n x = some z := fun x => by
    unfold spec_l3Size impl_size
    by_cases hx : x < 0
    · rw [decide_eq_true hx]; exact ⟨_, rfl, rfl⟩
    · rw [decide_eq_false hx]; exact ⟨_, rfl, rfl⟩
  obtain ⟨z1, y1, y2⟩ := s1 (w64 (sa.Bay - sb.Bay))
  obtain ⟨z2, y3, y4⟩ := s1 (w64 (sa.Row - sb.Row))
  obtain ⟨z3, y5, y6⟩ := s1 (w64 (sa.Tier - sb.Tier))
  unfold spec_KeepsApart_k0 impl_KeepsApart_k0
  simp only [bd_eq, y1, y2, y3, y4, y5, y6, r1, r2, Option.bind_some]
  by_cases h0 : r = 0
  · subst h0; exact ⟨_, rfl, rfl⟩
  · by_cases h1 : r = 1
    · subst h1; exact ⟨_, rfl, rfl⟩
    · by_cases h2 : r = 2
      · subst h2; exact ⟨_, rfl, rfl⟩
      · have h3 : r = 3 := by omega
        subst h3; exact ⟨_, rfl, rfl⟩
def spotB (s : SSpot) : Bool := decide (0 ≤ s.Bay ∧ s.Bay ≤ 19) && (decide (0 ≤ s.Row ∧ s.Row ≤ 19) && decide (0 ≤ s.Tier ∧ s.Tier ≤ 19))
theorem spot_spec (n : Nat) (s : SSpot) : spec_l11Spot n s = some (spotB s) := by
  unfold spec_l11Spot spotB
  simp only [in_specB, Option.bind_some, bif_sf]
theorem spot_impl (n : Nat) (s : SSpot) : impl_spotOk n s = some (spotB s) := by
  unfold impl_spotOk spotB
  simp only [in_implB, Option.bind_some, bif_sf]
def keepsV (a : SBox) (sa : SSpot) (b : SBox) (sb : SSpot) : Bool := boxB a && (boxB b && (spotB sa && (spotB sb && (!spEq sa sb && (spec_KeepsApart_k0 0 a sa b sb).getD false))))
theorem boxB_c {b : SBox} (h : boxB b = true) : 0 ≤ b.Class ∧ b.Class ≤ 9 := by
  unfold boxB at h
  simp only [Bool.and_eq_true, decide_eq_true_eq] at h
  exact h.2.2.1
theorem keeps_spec {n : Nat} (a : SBox) (sa : SSpot) (b : SBox) (sb : SSpot) (hn : 1000000000 < n) : spec_KeepsApart n a sa b sb = some (keepsV a sa b sb) ∧ impl_KeepsApart n a sa b sb = some (keepsV a sa b sb) := by
  unfold spec_KeepsApart impl_KeepsApart keepsV
  rw [boxB_spec a hn, boxB_spec b hn, boxB_impl a hn, boxB_impl b hn, spot_spec, spot_spec, spot_impl, spot_impl]
  simp only [Option.bind_some]
  cases ha : boxB a with
  | false => exact ⟨rfl, rfl⟩
  | true =>
    cases hb : boxB b with
    | false => exact ⟨rfl, rfl⟩
    | true =>
      obtain ⟨r, r1, r2⟩ := k0_both n sa sb (boxB_c ha) (boxB_c hb)
      have r0 : spec_KeepsApart_k0 0 a sa b sb = some r := r1
      rw [r0, r1, r2, ← spEq]
      generalize spotB sa = p
      generalize spotB sb = q
      generalize spEq sa sb = s
      cases p <;> cases q <;> cases s <;> exact ⟨rfl, rfl⟩
end Go.Sm
end

section
set_option linter.unusedSimpArgs false
set_option linter.deprecated false
set_option linter.unusedSectionVars false
set_option linter.unusedVariables false
set_option linter.unusedSimpArgs false
namespace Go.Sm
attribute [local irreducible] bd chk ix loopN
/-! ### The stack at a place -/
def nd (l : List SStow) : Prop := ∀ i k, i < l.length → k < i → spEq (l.getD k dSStow).Spot (l.getD i dSStow).Spot = false
theorem spEq_iff {a b : SSpot} : spEq a b = true ↔ a.Bay = b.Bay ∧ a.Row = b.Row ∧ a.Tier = b.Tier := by
  unfold spEq; simp only [Bool.and_eq_true, decide_eq_true_eq]
theorem nd_eq {l : List SStow} (h : nd l) {i j : Nat} (hi : i < l.length) (hj : j < l.length) (he : spEq (l.getD i dSStow).Spot (l.getD j dSStow).Spot = true) : i = j := by
  by_cases c1 : i < j
  · rw [h j i hj c1] at he; cases he
  · by_cases c2 : j < i
    · have := h i j hi c2
      have he' := spEq_iff.1 he
      rw [spEq_iff.2 ⟨he'.1.symm, he'.2.1.symm, he'.2.2.symm⟩] at this
      cases this
    · omega
theorem mem_getS {l : List SStow} {x : SStow} (h : x ∈ l) : ∃ u, u < l.length ∧ l.getD u dSStow = x := by
  obtain ⟨u, hu, he⟩ := List.getElem_of_mem h
  exact ⟨u, hu, by rw [getD_eq hu]; exact he⟩
theorem nd_mem {l : List SStow} (h : nd l) {x y : SStow} (hx : x ∈ l) (hy : y ∈ l) (he : spEq x.Spot y.Spot = true) : x = y := by
  obtain ⟨i, i1, i2⟩ := mem_getS hx
  obtain ⟨j, j1, j2⟩ := mem_getS hy
  rw [← i2, ← j2] at he
  rw [← i2, ← j2, nd_eq h i1 j1 he]
theorem l12At_idx {n : Nat} (l : List SStow) (s : SSpot) (hl : l.length ≤ 100000000) (hn : 1000000000 < n) : spec_l12At n l s = some (idxOf (fun k => spEq (l.getD k dSStow).Spot s) l.length) := by
  unfold spec_l12At
  refine loop_idx (len := l.length) (by omega) (fun k J hk _ => ?_) (fun J _ => ?_) (by omega)
  · have e2 : w64 ((k : Int) + 1) = ((k + 1 : Nat) : Int) := w64_succ (by omega)
    unfold spec_l12At_L2
    rw [decide_eq_true (by omega), cond_true, ix_nat hk, bd_eq, Int.toNat_natCast, ← spEq, e2]
  · unfold spec_l12At_L2
    rw [decide_eq_false (by omega), cond_false]
abbrev tLt (a b : SStow) : Prop := a.Spot.Tier < b.Spot.Tier
/-- One sorted list has these members. -/
theorem sorted_uni : ∀ (a b : List SStow), a.Pairwise tLt → b.Pairwise tLt → (∀ x, x ∈ a ↔ x ∈ b) → a = b
  | [], [], _, _, _ => rfl
  | [], y :: b, _, _, h => absurd ((h y).2 List.mem_cons_self) List.not_mem_nil
  | x :: a, [], _, _, h => absurd ((h x).1 List.mem_cons_self) List.not_mem_nil
  | x :: a, y :: b, ha, hb, h => by
    rw [List.pairwise_cons] at ha hb
    have hxy : x = y := by
      rcases List.mem_cons.1 ((h x).1 List.mem_cons_self) with e | e
      · exact e
      · rcases List.mem_cons.1 ((h y).2 List.mem_cons_self) with e2 | e2
        · exact e2.symm
        · have h1 := hb.1 x e
          have h2 := ha.1 y e2
          unfold tLt at h1 h2
          omega
    subst hxy
    rw [sorted_uni a b ha.2 hb.2 fun z => ?_]
    constructor
    · intro hz
      rcases List.mem_cons.1 ((h z).1 (List.mem_cons_of_mem _ hz)) with e | e
      · have := ha.1 z hz
        rw [e] at this; unfold tLt at this; omega
      · exact e
    · intro hz
      rcases List.mem_cons.1 ((h z).2 (List.mem_cons_of_mem _ hz)) with e | e
      · have := hb.1 z hz
        rw [e] at this; unfold tLt at this; omega
      · exact e
theorem stack_walk {n : Nat} {l : List SStow} (h : nd l) (bay row : Int) (hl : l.length ≤ 40) (ht : ∀ x ∈ l, 0 ≤ x.Spot.Tier ∧ x.Spot.Tier < 20) (hn : 1000000000 < n) :
    ∃ L : List SStow, spec_l12Stack n l bay row = some (L.map SStow.Box) ∧ L.Pairwise tLt ∧ L.length ≤ 20 ∧ ∀ x, x ∈ L ↔ (x ∈ l ∧ x.Spot.Bay = bay ∧ x.Spot.Row = row) := by
  unfold spec_l12Stack
  refine loop_runS (enc := fun k (s : List SBox) => (k, s)) (I := fun k s => ∃ L : List SStow, s = L.map SStow.Box ∧ L.Pairwise tLt ∧ L.length ≤ k ∧ ∀ x, x ∈ L ↔ (x ∈ l ∧ x.Spot.Bay = bay ∧ x.Spot.Row = row ∧ x.Spot.Tier < (k : Int))) (Q := fun r => ∃ L : List SStow, r = some (L.map SStow.Box) ∧ L.Pairwise tLt ∧ L.length ≤ 20 ∧ ∀ x, x ∈ L ↔ (x ∈ l ∧ x.Spot.Bay = bay ∧ x.Spot.Row = row)) (len := 20) (fun k s J hk hI => ?_) (fun s J hI => ?_) (by omega) ⟨[], rfl, List.Pairwise.nil, Nat.le_refl _, fun x => ⟨fun hh => absurd hh List.not_mem_nil, fun hh => by have := (ht x hh.1).1; omega⟩⟩
  · obtain ⟨L, i1, i2, i3, i4⟩ := hI
    have e : w64 ((k : Int) + 1) = ((k + 1 : Nat) : Int) := w64_succ (by omega)
    have hst : spec_l12Stack_L3 n (fun out14 => some (out14)) (fun t15 out16 => J (t15, out16)) l bay row (k : Int) s = (bif decide (idxOf (fun j => spEq (l.getD j dSStow).Spot ⟨bay, row, (k : Int)⟩) l.length ≥ 0) then ix (idxOf (fun j => spEq (l.getD j dSStow).Spot ⟨bay, row, (k : Int)⟩) l.length) l.length (bd (l.getD (idxOf (fun j => spEq (l.getD j dSStow).Spot ⟨bay, row, (k : Int)⟩) l.length).toNat dSStow) fun (e9 : SStow) => chk (decide ((s ++ [e9.Box]).length * 56 ≤ 140737488355328)) (J (((k + 1 : Nat) : Int), (s ++ [e9.Box])))) else J (((k + 1 : Nat) : Int), s)) := by
      unfold spec_l12Stack_L3 spec_l12Stack_k0
      rw [decide_eq_true (show (k : Int) < 20 by omega), cond_true, l12At_idx l _ (by omega) hn, Option.bind_some, e]
    rcases idxOf_spec (fun j => spEq (l.getD j dSStow).Spot ⟨bay, row, (k : Int)⟩) l.length with ⟨h1, h2⟩ | ⟨u, h1, h2, h3, h4⟩
    · refine ⟨s, ⟨L, i1, i2, by omega, fun x => ?_⟩, ?_⟩
      · rw [i4]
        refine ⟨fun hh => ⟨hh.1, hh.2.1, hh.2.2.1, by omega⟩, fun hh => ⟨hh.1, hh.2.1, hh.2.2.1, ?_⟩⟩
        obtain ⟨v, v1, v2⟩ := mem_getS hh.1
        by_cases c : x.Spot.Tier = (k : Int)
        · have := h2 v v1
          rw [v2, spEq_iff.2 ⟨hh.2.1, hh.2.2.1, c⟩] at this
          cases this
        · have := hh.2.2.2
          omega
      · refine hst.trans ?_
        rw [h1, decide_eq_false (by omega), cond_false]
    · have h3 := spEq_iff.1 h3
      dsimp only at h3
      refine ⟨s ++ [(l.getD u dSStow).Box], ⟨L ++ [l.getD u dSStow], by rw [i1, List.map_append]; rfl, ?_, by rw [List.length_append]; simp; omega, fun x => ?_⟩, ?_⟩
      · rw [List.pairwise_append]
        refine ⟨i2, List.pairwise_singleton _ _, fun x hx y hy => ?_⟩
        rw [List.mem_singleton.1 hy]
        have := ((i4 x).1 hx).2.2.2
        unfold tLt
        omega
      · rw [List.mem_append, List.mem_singleton, i4]
        constructor
        · rintro (hh | hh)
          · exact ⟨hh.1, hh.2.1, hh.2.2.1, by omega⟩
          · rw [hh]; exact ⟨getD_mem h2, h3.1, h3.2.1, by omega⟩
        · rintro ⟨a1, a2, a3, a4⟩
          by_cases c : x.Spot.Tier = (k : Int)
          · exact .inr (nd_mem h a1 (getD_mem h2) (spEq_iff.2 ⟨by omega, by omega, by omega⟩))
          · exact .inl ⟨a1, a2, a3, by omega⟩
      · refine hst.trans ?_
        have hlen : s.length ≤ 20 := by rw [i1, List.length_map]; omega
        rw [h1, decide_eq_true (by omega), cond_true, ix_nat h2, bd_eq, Int.toNat_natCast, chk_dec (by rw [List.length_append]; simp; omega)]
  · obtain ⟨L, i1, i2, i3, i4⟩ := hI
    refine ⟨L, ?_, i2, i3, fun x => ?_⟩
    · show spec_l12Stack_L3 n _ (fun t15 out16 => J (t15, out16)) l bay row ((20 : Nat) : Int) s = _
      unfold spec_l12Stack_L3
      rw [decide_eq_false (by omega), cond_false, i1]
    · rw [i4]
      exact ⟨fun hh => ⟨hh.1, hh.2.1, hh.2.2.1⟩, fun hh => ⟨hh.1, hh.2.1, hh.2.2, (ht x hh.1).2⟩⟩
theorem cmp_int12 (n : Nat) (x y : Int) : cmp_Compare_int n x y = some (if x < y then -1 else if x > y then 1 else 0) := by
  unfold cmp_Compare_int cmp_isNaN_int
  simp only [decide_true, Bool.not_true, Option.bind_some, cond_false]
  by_cases h : x < y
  · simp [h]
  · by_cases h2 : x > y <;> simp [h, h2]
def cmpT (a b : SStow) : Int := if a.Spot.Tier < b.Spot.Tier then -1 else if a.Spot.Tier > b.Spot.Tier then 1 else 0
theorem cmpT_lt {a b : SStow} : cmpT a b < 0 ↔ a.Spot.Tier < b.Spot.Tier := by
  unfold cmpT
  split
  · omega
  · split <;> omega
def atPlace (bay row : Int) (x : SStow) : Bool := decide (x.Spot.Bay = bay) && decide (x.Spot.Row = row)
theorem pw_idx {R : SStow → SStow → Prop} {l : List SStow} (h : ∀ i k, i < l.length → k < i → R (l.getD k dSStow) (l.getD i dSStow)) : l.Pairwise R :=
  List.pairwise_iff_getElem.2 fun i j hi hj hij => by
    have := h j i hj hij
    rw [getD_eq hi, getD_eq hj] at this; exact this
theorem stackOf_walk {n : Nat} {l : List SStow} (h : nd l) (bay row : Int) (hl : l.length ≤ 40) (hn : 1000000000 < n) :
    ∃ L : List SStow, impl_stackOf n l bay row = some (L.map SStow.Box) ∧ L.Pairwise tLt ∧ ∀ x, x ∈ L ↔ (x ∈ l ∧ x.Spot.Bay = bay ∧ x.Spot.Row = row) := by
  unfold impl_stackOf
  refine loop_runS (enc := fun k (s : List SStow) => (k, s)) (I := fun k s => s = (l.take k).filter (atPlace bay row)) (Q := fun r => ∃ L : List SStow, r = some (L.map SStow.Box) ∧ L.Pairwise tLt ∧ ∀ x, x ∈ L ↔ (x ∈ l ∧ x.Spot.Bay = bay ∧ x.Spot.Row = row)) (len := l.length) (fun k s J hk hI => ?_) (fun s J hI => ?_) (by omega) rfl
  · have e : w64 ((k : Int) + 1) = ((k + 1 : Nat) : Int) := w64_succ (by omega)
    have hs : s.length ≤ 40 := by
      rw [hI]
      exact Nat.le_trans (List.length_filter_le _ _) (by rw [List.length_take]; omega)
    have hn' : (l.take (k + 1)).filter (atPlace bay row) = if atPlace bay row (l.getD k dSStow) = true then s ++ [l.getD k dSStow] else s := by
      rw [take_succ_getD (d := dSStow) hk, List.filter_append, ← hI]
      by_cases c : atPlace bay row (l.getD k dSStow) = true
      · rw [if_pos c, List.filter_cons_of_pos c]; rfl
      · rw [if_neg c, List.filter_cons_of_neg c]; simp
    refine ⟨_, hn'.symm, ?_⟩
    show impl_stackOf_L3 n _ (fun t42 l43 => J (t42, l43)) bay row l (l.length : Int) (k : Int) s = _
    unfold impl_stackOf_L3 impl_stackOf_k0
    rw [decide_eq_true (by omega), cond_true, ix_nat hk, bd_eq, Int.toNat_natCast, e, chk_dec (by rw [List.length_append]; simp; omega)]
    unfold atPlace
    by_cases c1 : (l.getD k dSStow).Spot.Bay = bay
    · by_cases c2 : (l.getD k dSStow).Spot.Row = row
      · rw [decide_eq_true c1, decide_eq_true c2]; rfl
      · rw [decide_eq_true c1, decide_eq_false c2]; rfl
    · rw [decide_eq_false c1]; rfl
  · rw [List.take_length] at hI
    have hmem : ∀ x, x ∈ s ↔ (x ∈ l ∧ x.Spot.Bay = bay ∧ x.Spot.Row = row) := fun x => by
      rw [hI, List.mem_filter]
      unfold atPlace
      simp only [Bool.and_eq_true, decide_eq_true_eq]
    have hs : s.length ≤ 40 := by
      rw [hI]
      exact Nat.le_trans (List.length_filter_le _ _) hl
    have hne : s.Pairwise fun x y => x.Spot.Tier ≠ y.Spot.Tier := by
      have h0 : s.Pairwise fun x y => spEq x.Spot y.Spot = false := by
        rw [hI]; exact (pw_idx (R := fun x y => spEq x.Spot y.Spot = false) (l := l) h).filter _
      refine List.Pairwise.imp_of_mem (fun {a b} ha hb hab hT => ?_) h0
      have ha := (hmem a).1 ha
      have hb := (hmem b).1 hb
      rw [spEq_iff.2 ⟨by omega, by omega, hT⟩] at hab
      cases hab
    obtain ⟨o, o1, o2, o3⟩ := sortL_ok (d := dSStow) (cmp := fun a b => impl_stackOf_1 n a b) (cf := cmpT) (l := s) (fun x _ y _ => by
      unfold impl_stackOf_1
      rw [cmp_int12, Option.bind_some]; rfl) (fun x _ => by rw [cmpT_lt]; omega) (fun x _ y _ z _ h1 h2 => by
      rw [cmpT_lt] at h1 h2 ⊢; omega) (fun x _ y _ z _ h1 h2 => by
      rw [cmpT_lt] at h1 h2 ⊢; omega) (by omega)
    have hol : o.length = s.length := o2.length_eq
    show ∃ L : List SStow, impl_stackOf_L3 n _ (fun t42 l43 => J (t42, l43)) bay row l (l.length : Int) (l.length : Int) s = some (L.map SStow.Box) ∧ _
    refine ⟨o, ?_, ?_, fun x => by rw [o2.mem_iff]; exact hmem x⟩
    · unfold impl_stackOf_L3 slices_SortFunc_impl_Stow_impl_Stow__impl_stackOf_1
      rw [decide_eq_false (by omega), cond_false]
      show (sortL dSStow (fun a b => impl_stackOf_1 n a b) s).bind _ = _
      rw [o1, Option.bind_some]
      refine loop_runS (enc := fun k (s : List SBox) => (k, s)) (I := fun k x => x = (o.take k).map SStow.Box) (Q := fun r => r = some (o.map SStow.Box)) (len := o.length) (fun k x J' hk hI' => ?_) (fun x J' hI' => ?_) (by omega) rfl
      · have e : w64 ((k : Int) + 1) = ((k + 1 : Nat) : Int) := w64_succ (by omega)
        have hx : x.length ≤ 40 := by rw [hI', List.length_map, List.length_take]; omega
        refine ⟨x ++ [(o.getD k dSStow).Box], by rw [take_succ_getD (d := dSStow) hk, List.map_append, hI']; rfl, ?_⟩
        show impl_stackOf_L11 n _ (fun t40 out41 => J' (t40, out41)) (o.length : Int) (k : Int) x o = _
        unfold impl_stackOf_L11
        rw [decide_eq_true (by omega), cond_true, ix_nat hk, Int.toNat_natCast, chk_dec hk, bd_eq, chk_dec (by rw [List.length_append]; simp; omega), e]
      · show impl_stackOf_L11 n _ (fun t40 out41 => J' (t40, out41)) (o.length : Int) (o.length : Int) x o = _
        unfold impl_stackOf_L11
        rw [decide_eq_false (by omega), cond_false, hI', List.take_length]
    · have hne' : o.Pairwise fun x y => x.Spot.Tier ≠ y.Spot.Tier := (o2.pairwise_iff (fun {a b} hab => Ne.symm hab)).2 hne
      refine (o3.and hne').imp fun {a b} hab => ?_
      have h1 := hab.1
      rw [cmpT_lt] at h1
      have h2 := hab.2
      unfold tLt
      omega
theorem stacks_same {n : Nat} {l : List SStow} (h : nd l) (bay row : Int) (hl : l.length ≤ 40) (ht : ∀ x ∈ l, 0 ≤ x.Spot.Tier ∧ x.Spot.Tier < 20) (hn : 1000000000 < n) : ∃ B : List SBox, spec_l12Stack n l bay row = some B ∧ impl_stackOf n l bay row = some B ∧ B.length ≤ 20 := by
  obtain ⟨L, a1, a2, a3, a4⟩ := stack_walk h bay row hl ht hn
  obtain ⟨M, b1, b2, b3⟩ := stackOf_walk h bay row hl hn
  have : M = L := sorted_uni M L b2 a2 fun x => by rw [b3, a4]
  rw [this] at b1
  exact ⟨_, a1, b1, by rw [List.length_map]; exact a3⟩
end Go.Sm
end

section
set_option linter.unusedSimpArgs false
set_option linter.deprecated false
set_option linter.unusedSectionVars false
set_option linter.unusedVariables false
set_option linter.unusedSimpArgs false
namespace Go.Sm
attribute [local irreducible] bd chk ix loopN
/-! ### What fails -/
def insideB (bays : List SHatch) (s : SSpot) : Bool := decide (0 ≤ s.Bay ∧ s.Bay ≤ w64 ((bays.length : Int) - 1)) && (decide (0 ≤ s.Row ∧ s.Row ≤ w64 ((bays.getD s.Bay.toNat dSHatch).Rows - 1)) && decide (0 ≤ s.Tier ∧ s.Tier ≤ w64 ((bays.getD s.Bay.toNat dSHatch).Tiers - 1)))
def coldU (l : List SStow) (bay : Int) : Nat → Int
  | 0 => 0
  | k + 1 => bif decide ((l.getD k dSStow).Spot.Bay = bay) && (l.getD k dSStow).Box.Cold then w64 (coldU l bay k + 1) else coldU l bay k
def fl (n : Nat) (bays : List SHatch) (l : List SStow) : Nat → Nat → Bool
  | 0, i => !boxB (l.getD i dSStow).Box
  | 1, i => (List.range i).any fun k => decide ((l.getD k dSStow).Box.Name = (l.getD i dSStow).Box.Name) || spEq (l.getD k dSStow).Spot (l.getD i dSStow).Spot
  | 2, i => !insideB bays (l.getD i dSStow).Spot
  | 3, i => decide ((l.getD i dSStow).Spot.Tier > 0) && !((List.range l.length).any fun k => spEq (l.getD k dSStow).Spot ⟨(l.getD i dSStow).Spot.Bay, (l.getD i dSStow).Spot.Row, w64 ((l.getD i dSStow).Spot.Tier - 1)⟩)
  | 4, i => !stackB ((spec_l12Stack n l (l.getD i dSStow).Spot.Bay (l.getD i dSStow).Spot.Row).getD []) (bays.getD (l.getD i dSStow).Spot.Bay.toNat dSHatch).Most
  | 5, i => (l.getD i dSStow).Box.Cold && decide (coldU l (l.getD i dSStow).Spot.Bay l.length > (bays.getD (l.getD i dSStow).Spot.Bay.toNat dSHatch).Plugs)
  | 6, i => (List.range i).any fun k => !keepsV (l.getD k dSStow).Box (l.getD k dSStow).Spot (l.getD i dSStow).Box (l.getD i dSStow).Spot
  | _, _ => false
theorem any_all {m : Nat} {c : Nat → Bool} : (bif (List.range m).all (fun k => !c k) then (some false : Option Bool) else some true) = some ((List.range m).any c) := by
  rw [← List.not_any_eq_all_not]
  cases (List.range m).any c <;> rfl
theorem take_any {α : Type} {l : List SStow} {i : Nat} (hi : i ≤ l.length) {c : SStow → Bool} : ((List.range (l.take i).length).any fun k => c ((l.take i).getD k dSStow)) = (List.range i).any fun k => c (l.getD k dSStow) := by
  have ht : (l.take i).length = i := by rw [List.length_take]; omega
  rw [ht]
  refine any_congr_lt fun k hk => ?_
  rw [getD_eq (by omega), getD_eq (by omega), List.getElem_take]
theorem inside_at {bays : List SHatch} (hb : hatchesB bays = true) {s : SSpot} (h : insideB bays s = true) : 0 ≤ s.Bay ∧ s.Bay < (bays.length : Int) ∧ 0 ≤ s.Tier ∧ s.Tier < 20 := by
  obtain ⟨b1, b2, b3⟩ := hatchesB_at hb
  unfold insideB at h
  simp only [Bool.and_eq_true, decide_eq_true_eq] at h
  have e1 : w64 ((bays.length : Int) - 1) = (bays.length : Int) - 1 := w64_id (by omega) (by omega)
  rw [e1] at h
  have h3 := b3 s.Bay.toNat (by omega)
  have e2 : w64 ((bays.getD s.Bay.toNat dSHatch).Tiers - 1) = (bays.getD s.Bay.toNat dSHatch).Tiers - 1 := w64_id (by omega) (by omega)
  rw [e2] at h
  omega
/-- What the earlier ones left. -/
def Past (n : Nat) (bays : List SHatch) (l : List SStow) (k : Nat) : Prop := ∀ j, j < k → ∀ i, i < l.length → fl n bays l j i = false
theorem Past.nd {n : Nat} {bays : List SHatch} {l : List SStow} {k : Nat} (h : Past n bays l k) (hk : 1 < k) : nd l := fun i k' hi hk' => by
  have h1 := h 1 hk i hi
  have h2 : ∀ x, x ∈ List.range i → ¬ (decide ((l.getD x dSStow).Box.Name = (l.getD i dSStow).Box.Name) || spEq (l.getD x dSStow).Spot (l.getD i dSStow).Spot) = true := List.any_eq_false.1 h1
  have h3 := h2 k' (List.mem_range.2 hk')
  cases hc : spEq (l.getD k' dSStow).Spot (l.getD i dSStow).Spot with
  | false => rfl
  | true => rw [hc, Bool.or_true] at h3; exact absurd rfl h3
theorem Past.ins {n : Nat} {bays : List SHatch} {l : List SStow} {k : Nat} (h : Past n bays l k) (hk : 2 < k) {i : Nat} (hi : i < l.length) : insideB bays (l.getD i dSStow).Spot = true := by
  have h1 := h 2 hk i hi
  have h2 : (!insideB bays (l.getD i dSStow).Spot) = false := h1
  cases hc : insideB bays (l.getD i dSStow).Spot with
  | true => rfl
  | false => rw [hc] at h2; cases h2
theorem Past.tiers {n : Nat} {bays : List SHatch} {l : List SStow} {k : Nat} (hb : hatchesB bays = true) (h : Past n bays l k) (hk : 2 < k) : ∀ x ∈ l, 0 ≤ x.Spot.Tier ∧ x.Spot.Tier < 20 := fun x hx => by
  obtain ⟨i, i1, i2⟩ := mem_getS hx
  have := inside_at hb (h.ins hk i1)
  rw [i2] at this
  exact this.2.2
theorem cold_spec {n : Nat} (l : List SStow) (bay : Int) (hl : l.length ≤ 100000000) (hn : 1000000000 < n) : spec_l12Cold n l bay = some (coldU l bay l.length) := by
  unfold spec_l12Cold
  refine loop_runS (enc := fun k (s : Int) => (s, k)) (I := fun k s => s = coldU l bay k) (Q := fun r => r = some (coldU l bay l.length)) (len := l.length) (fun k s J hk hI => ⟨_, rfl, ?_⟩) (fun s J hI => ?_) (by omega) rfl
  · have e : w64 ((k : Int) + 1) = ((k + 1 : Nat) : Int) := w64_succ (by omega)
    show spec_l12Cold_L3 n _ (fun n27 i28 => J (n27, i28)) l bay s (k : Int) = _
    unfold spec_l12Cold_L3 spec_l12Cold_k0
    rw [decide_eq_true (by omega), cond_true, ix_nat hk, bd_eq, Int.toNat_natCast, ix_nat hk, bd_eq, e, hI]
    show _ = J (bif decide ((l.getD k dSStow).Spot.Bay = bay) && (l.getD k dSStow).Box.Cold then w64 (coldU l bay k + 1) else coldU l bay k, ((k + 1 : Nat) : Int))
    generalize decide ((l.getD k dSStow).Spot.Bay = bay) = a
    cases a <;> cases (l.getD k dSStow).Box.Cold <;> rfl
  · show spec_l12Cold_L3 n _ (fun n27 i28 => J (n27, i28)) l bay s (l.length : Int) = _
    unfold spec_l12Cold_L3
    rw [decide_eq_false (by omega), cond_false, hI]
theorem spec_fl {n : Nat} {bays : List SHatch} {l : List SStow} (hb : hatchesB bays = true) (hl : l.length ≤ 40) (hn : 1000000000 < n) {k : Nat} (hk : k < 7) (hp : Past n bays l k) {i : Nat} (hi : i < l.length) : spec_l12Fails n bays l (i : Int) ((k + 1 : Nat) : Int) = some (fl n bays l k i) := by
  unfold spec_l12Fails
  rw [ix_nat hi, bd_eq, Int.toNat_natCast]
  rcases (show k = 0 ∨ k = 1 ∨ k = 2 ∨ k = 3 ∨ k = 4 ∨ k = 5 ∨ k = 6 by omega) with e | e | e | e | e | e | e <;> subst e
  · rw [decide_eq_true (by omega), cond_true, boxB_spec _ hn]; rfl
  · rw [decide_eq_false (by omega), cond_false, decide_eq_true (by omega), cond_true]
    rw [loop_all (len := i) (p := fun k => !(decide ((l.getD k dSStow).Box.Name = (l.getD i dSStow).Box.Name) || spEq (l.getD k dSStow).Spot (l.getD i dSStow).Spot)) (no := some true) (yes := some false) (by omega) (fun k J hk' _ => ?_) (fun J _ => ?_) (by omega)]
    · exact any_all
    · have e2 : w64 ((k : Int) + 1) = ((k + 1 : Nat) : Int) := w64_succ (by omega)
      have hk2 : k < l.length := by omega
      unfold spec_l12Fails_L8 spec_l12Fails_k0
      rw [decide_eq_true (by omega), cond_true, ix_nat hk2, bd_eq, Int.toNat_natCast, ix_nat hk2, bd_eq, ← spEq, e2]
      generalize decide ((l.getD k dSStow).Box.Name = (l.getD i dSStow).Box.Name) = a
      generalize spEq (l.getD k dSStow).Spot (l.getD i dSStow).Spot = b
      cases a <;> cases b <;> rfl
    · unfold spec_l12Fails_L8
      rw [decide_eq_false (by omega), cond_false]
  · rw [decide_eq_false (by omega), cond_false, decide_eq_false (by omega), cond_false, decide_eq_true (by omega), cond_true, bd_eq, in_specB, Option.bind_some]
    show _ = some (!insideB bays (l.getD i dSStow).Spot)
    obtain ⟨b1, b2, b3⟩ := hatchesB_at hb
    have e1 : w64 ((bays.length : Int) - 1) = (bays.length : Int) - 1 := w64_id (by omega) (by omega)
    unfold insideB
    by_cases c : 0 ≤ (l.getD i dSStow).Spot.Bay ∧ (l.getD i dSStow).Spot.Bay ≤ w64 ((bays.length : Int) - 1)
    · rw [decide_eq_true c, Bool.not_true, cond_false, Bool.true_and]
      rw [e1] at c
      rw [ix_of c.1 (by omega), bd_eq, bd_eq, in_specB, Option.bind_some, ix_of c.1 (by omega), bd_eq, bd_eq, in_specB, Option.bind_some]
      generalize decide (0 ≤ (l.getD i dSStow).Spot.Row ∧ (l.getD i dSStow).Spot.Row ≤ w64 ((bays.getD (l.getD i dSStow).Spot.Bay.toNat dSHatch).Rows - 1)) = a
      cases a <;> rfl
    · rw [decide_eq_false c]; rfl
  · rw [decide_eq_false (by omega), cond_false, decide_eq_false (by omega), cond_false, decide_eq_false (by omega), cond_false, decide_eq_true (by omega), cond_true, bd_eq, l12At_idx l _ (by omega) hn, Option.bind_some, idxOf_lt]
    show _ = some (decide _ && _)
    generalize decide ((l.getD i dSStow).Spot.Tier > 0) = a
    cases a <;> rfl
  · rw [decide_eq_false (by omega), cond_false, decide_eq_false (by omega), cond_false, decide_eq_false (by omega), cond_false, decide_eq_false (by omega), cond_false, decide_eq_true (by omega), cond_true]
    obtain ⟨B, s1, s2, s3⟩ := stacks_same (n := n) (hp.nd (by omega)) (l.getD i dSStow).Spot.Bay (l.getD i dSStow).Spot.Row hl (hp.tiers hb (by omega)) hn
    have hin := inside_at hb (hp.ins (by omega) hi)
    show _ = some (!stackB ((spec_l12Stack n l (l.getD i dSStow).Spot.Bay (l.getD i dSStow).Spot.Row).getD []) (bays.getD (l.getD i dSStow).Spot.Bay.toNat dSHatch).Most)
    rw [s1, Option.bind_some, ix_of hin.1 hin.2.1, bd_eq, stack_spec _ _ (by omega) hn, Option.bind_some, Option.getD_some]
  · rw [decide_eq_false (by omega), cond_false, decide_eq_false (by omega), cond_false, decide_eq_false (by omega), cond_false, decide_eq_false (by omega), cond_false, decide_eq_false (by omega), cond_false, decide_eq_true (by omega), cond_true]
    have hin := inside_at hb (hp.ins (by omega) hi)
    rw [cold_spec l _ (by omega) hn, Option.bind_some, ix_of hin.1 hin.2.1, bd_eq]
    show _ = some ((l.getD i dSStow).Box.Cold && _)
    cases (l.getD i dSStow).Box.Cold <;> rfl
  · rw [decide_eq_false (by omega), cond_false, decide_eq_false (by omega), cond_false, decide_eq_false (by omega), cond_false, decide_eq_false (by omega), cond_false, decide_eq_false (by omega), cond_false, decide_eq_false (by omega), cond_false]
    rw [loop_all (len := i) (p := fun k => !(!keepsV (l.getD k dSStow).Box (l.getD k dSStow).Spot (l.getD i dSStow).Box (l.getD i dSStow).Spot)) (no := some true) (yes := some false) (by omega) (fun k J hk' _ => ?_) (fun J _ => ?_) (by omega)]
    · exact any_all
    · have e2 : w64 ((k : Int) + 1) = ((k + 1 : Nat) : Int) := w64_succ (by omega)
      have hk2 : k < l.length := by omega
      unfold spec_l12Fails_L22 spec_l12Fails_k1
      rw [decide_eq_true (by omega), cond_true, ix_nat hk2, bd_eq, Int.toNat_natCast, ix_nat hk2, bd_eq, (keeps_spec _ _ _ _ hn).1, Option.bind_some, e2]
      cases keepsV (l.getD k dSStow).Box (l.getD k dSStow).Spot (l.getD i dSStow).Box (l.getD i dSStow).Spot <;> rfl
    · unfold spec_l12Fails_L22
      rw [decide_eq_false (by omega), cond_false]
/-! ### The same, told by the built one -/
theorem contains2 {n : Nat} (l : List SStow) (s : SStow) (hl : l.length ≤ 100000000) (hn : 1000000000 < n) : slices_ContainsFunc_impl_Stow_impl_Stow__impl_StowCode_2_1 n l s = some ((List.range l.length).any fun k => decide ((l.getD k dSStow).Box.Name = s.Box.Name) || spEq (l.getD k dSStow).Spot s.Spot) := by
  unfold slices_ContainsFunc_impl_Stow_impl_Stow__impl_StowCode_2_1 slices_IndexFunc_impl_Stow_impl_Stow__impl_StowCode_2_1
  rw [loop_idx (len := l.length) (p := fun k => decide ((l.getD k dSStow).Box.Name = s.Box.Name) || spEq (l.getD k dSStow).Spot s.Spot) (by omega) (fun k J hk _ => ?_) (fun J _ => ?_) (by omega), Option.bind_some, idxOf_ge]
  · have e2 : w64 ((k : Int) + 1) = ((k + 1 : Nat) : Int) := w64_succ (by omega)
    unfold slices_IndexFunc_impl_Stow_impl_Stow__impl_StowCode_2_1_L2 impl_StowCode_2_1
    rw [decide_eq_true (by omega), cond_true, ix_nat hk, bd_eq, Int.toNat_natCast, ← spEq, e2]
    generalize decide ((l.getD k dSStow).Box.Name = s.Box.Name) = a
    generalize spEq (l.getD k dSStow).Spot s.Spot = b
    cases a <;> cases b <;> rfl
  · unfold slices_IndexFunc_impl_Stow_impl_Stow__impl_StowCode_2_1_L2
    rw [decide_eq_false (by omega), cond_false]
theorem contains4 {n : Nat} (l : List SStow) (s : SSpot) (hl : l.length ≤ 100000000) (hn : 1000000000 < n) : slices_ContainsFunc_impl_Stow_impl_Stow__impl_StowCode_4_1 n l s = some ((List.range l.length).any fun k => spEq (l.getD k dSStow).Spot s) := by
  unfold slices_ContainsFunc_impl_Stow_impl_Stow__impl_StowCode_4_1 slices_IndexFunc_impl_Stow_impl_Stow__impl_StowCode_4_1
  rw [loop_idx (len := l.length) (p := fun k => spEq (l.getD k dSStow).Spot s) (by omega) (fun k J hk _ => ?_) (fun J _ => ?_) (by omega), Option.bind_some, idxOf_ge]
  · have e2 : w64 ((k : Int) + 1) = ((k + 1 : Nat) : Int) := w64_succ (by omega)
    unfold slices_IndexFunc_impl_Stow_impl_Stow__impl_StowCode_4_1_L2 impl_StowCode_4_1
    rw [decide_eq_true (by omega), cond_true, ix_nat hk, bd_eq, Int.toNat_natCast, ← spEq, e2, Option.bind_some]
  · unfold slices_IndexFunc_impl_Stow_impl_Stow__impl_StowCode_4_1_L2
    rw [decide_eq_false (by omega), cond_false]
theorem contains7 {n : Nat} (l : List SStow) (s : SStow) (hl : l.length ≤ 100000000) (hn : 1000000000 < n) : slices_ContainsFunc_impl_Stow_impl_Stow__impl_StowCode_7_1 n l s = some ((List.range l.length).any fun k => !keepsV (l.getD k dSStow).Box (l.getD k dSStow).Spot s.Box s.Spot) := by
  unfold slices_ContainsFunc_impl_Stow_impl_Stow__impl_StowCode_7_1 slices_IndexFunc_impl_Stow_impl_Stow__impl_StowCode_7_1
  rw [loop_idx (len := l.length) (p := fun k => !keepsV (l.getD k dSStow).Box (l.getD k dSStow).Spot s.Box s.Spot) (by omega) (fun k J hk _ => ?_) (fun J _ => ?_) (by omega), Option.bind_some, idxOf_ge]
  · have e2 : w64 ((k : Int) + 1) = ((k + 1 : Nat) : Int) := w64_succ (by omega)
    unfold slices_IndexFunc_impl_Stow_impl_Stow__impl_StowCode_7_1_L2 impl_StowCode_7_1
    rw [decide_eq_true (by omega), cond_true, ix_nat hk, bd_eq, Int.toNat_natCast, (keeps_spec _ _ _ _ hn).2, Option.bind_some, Option.bind_some, e2]
  · unfold slices_IndexFunc_impl_Stow_impl_Stow__impl_StowCode_7_1_L2
    rw [decide_eq_false (by omega), cond_false]
theorem cold_impl {n : Nat} (l : List SStow) (bays : List SHatch) (s : SStow) (i : Int) (hl : l.length ≤ 100000000) (hn : 1000000000 < n) (hs : 0 ≤ s.Spot.Bay ∧ s.Spot.Bay < (bays.length : Int)) : impl_StowCode_6 n i s l bays = some (s.Box.Cold && decide (coldU l s.Spot.Bay l.length > (bays.getD s.Spot.Bay.toNat dSHatch).Plugs)) := by
  unfold impl_StowCode_6
  refine loop_runS (enc := fun k (s : Int) => (s, k)) (I := fun k x => x = coldU l s.Spot.Bay k) (Q := fun r => r = some (s.Box.Cold && decide (coldU l s.Spot.Bay l.length > (bays.getD s.Spot.Bay.toNat dSHatch).Plugs))) (len := l.length) (fun k x J hk hI => ⟨_, rfl, ?_⟩) (fun x J hI => ?_) (by omega) rfl
  · have e : w64 ((k : Int) + 1) = ((k + 1 : Nat) : Int) := w64_succ (by omega)
    show impl_StowCode_6_L3 n _ (fun n42 t43 => J (n42, t43)) bays x l (l.length : Int) (k : Int) s = _
    unfold impl_StowCode_6_L3
    rw [decide_eq_true (by omega), cond_true, ix_nat hk, bd_eq, Int.toNat_natCast, e, hI]
    show _ = J (bif decide ((l.getD k dSStow).Spot.Bay = s.Spot.Bay) && (l.getD k dSStow).Box.Cold then w64 (coldU l s.Spot.Bay k + 1) else coldU l s.Spot.Bay k, ((k + 1 : Nat) : Int))
    generalize decide ((l.getD k dSStow).Spot.Bay = s.Spot.Bay) = a
    cases a <;> cases (l.getD k dSStow).Box.Cold <;> rfl
  · show impl_StowCode_6_L3 n _ (fun n42 t43 => J (n42, t43)) bays x l (l.length : Int) (l.length : Int) s = _
    unfold impl_StowCode_6_L3
    rw [decide_eq_false (by omega), cond_false, hI]
    dsimp only
    rw [ix_of hs.1 hs.2, bd_eq]
    cases s.Box.Cold <;> rfl
end Go.Sm
end

section
set_option linter.unusedSimpArgs false
set_option linter.deprecated false
set_option linter.unusedSectionVars false
set_option linter.unusedVariables false
set_option linter.unusedSimpArgs false
namespace Go.Sm
attribute [local irreducible] bd chk ix loopN
theorem impl_f1 (n : Nat) (l : List SStow) (i : Nat) (hn : 1000000000 < n) : impl_StowCode_1 n (i : Int) (l.getD i dSStow) = some (!boxB (l.getD i dSStow).Box) := by
  unfold impl_StowCode_1
  rw [boxB_impl _ hn]; rfl
theorem impl_f2 (n : Nat) (l : List SStow) {i : Nat} (hi : i < l.length) (hl : l.length ≤ 40) (hn : 1000000000 < n) : impl_StowCode_2 n (i : Int) (l.getD i dSStow) l = some ((List.range i).any fun k => decide ((l.getD k dSStow).Box.Name = (l.getD i dSStow).Box.Name) || spEq (l.getD k dSStow).Spot (l.getD i dSStow).Spot) := by
  unfold impl_StowCode_2
  rw [chk_dec (by omega), chk_dec (by omega), Int.toNat_natCast, contains2 _ _ (by rw [List.length_take]; omega) hn, Option.bind_some, take_any (α := Nat) (by omega) (c := fun x => decide (x.Box.Name = (l.getD i dSStow).Box.Name) || spEq x.Spot (l.getD i dSStow).Spot)]
theorem impl_f3 (n : Nat) {bays : List SHatch} (hb : hatchesB bays = true) (l : List SStow) (i : Nat) : impl_StowCode_3 n (i : Int) (l.getD i dSStow) bays = some (!insideB bays (l.getD i dSStow).Spot) := by
  obtain ⟨b1, b2, b3⟩ := hatchesB_at hb
  have e1 : w64 ((bays.length : Int) - 1) = (bays.length : Int) - 1 := w64_id (by omega) (by omega)
  unfold impl_StowCode_3 insideB
  rw [bd_eq, in_implB, Option.bind_some]
  by_cases c : 0 ≤ (l.getD i dSStow).Spot.Bay ∧ (l.getD i dSStow).Spot.Bay ≤ w64 ((bays.length : Int) - 1)
  · rw [decide_eq_true c, Bool.not_true, cond_false, Bool.true_and]
    rw [e1] at c
    rw [ix_of c.1 (by omega), bd_eq, bd_eq, in_implB, Option.bind_some, ix_of c.1 (by omega), bd_eq, bd_eq, in_implB, Option.bind_some]
    generalize decide (0 ≤ (l.getD i dSStow).Spot.Row ∧ (l.getD i dSStow).Spot.Row ≤ w64 ((bays.getD (l.getD i dSStow).Spot.Bay.toNat dSHatch).Rows - 1)) = a
    cases a <;> rfl
  · rw [decide_eq_false c]; rfl
theorem impl_f4 (n : Nat) (l : List SStow) (i : Nat) (ht : 0 ≤ (l.getD i dSStow).Spot.Tier ∧ (l.getD i dSStow).Spot.Tier < 20) (hl : l.length ≤ 40) (hn : 1000000000 < n) : impl_StowCode_4 n (i : Int) (l.getD i dSStow) l = some (decide ((l.getD i dSStow).Spot.Tier > 0) && !((List.range l.length).any fun k => spEq (l.getD k dSStow).Spot ⟨(l.getD i dSStow).Spot.Bay, (l.getD i dSStow).Spot.Row, w64 ((l.getD i dSStow).Spot.Tier - 1)⟩)) := by
  unfold impl_StowCode_4
  have e1 : w64 ((l.getD i dSStow).Spot.Tier - 1) = (l.getD i dSStow).Spot.Tier - 1 := w64_id (by omega) (by omega)
  have e2 : decide (w64 ((l.getD i dSStow).Spot.Tier - 1) ≥ 0) = decide ((l.getD i dSStow).Spot.Tier > 0) := by
    rw [e1, decide_eq_decide]; omega
  rw [bd_eq, e2, contains4 l _ (by omega) hn, Option.bind_some]
  generalize decide ((l.getD i dSStow).Spot.Tier > 0) = a
  cases a <;> rfl
theorem impl_f5 {n : Nat} {bays : List SHatch} {l : List SStow} (hnd : nd l) (hl : l.length ≤ 40) (ht : ∀ x ∈ l, 0 ≤ x.Spot.Tier ∧ x.Spot.Tier < 20) {i : Nat} (hs : 0 ≤ (l.getD i dSStow).Spot.Bay ∧ (l.getD i dSStow).Spot.Bay < (bays.length : Int)) (hn : 1000000000 < n) : impl_StowCode_5 n (i : Int) (l.getD i dSStow) l bays = some (!stackB ((spec_l12Stack n l (l.getD i dSStow).Spot.Bay (l.getD i dSStow).Spot.Row).getD []) (bays.getD (l.getD i dSStow).Spot.Bay.toNat dSHatch).Most) := by
  obtain ⟨B, s1, s2, s3⟩ := stacks_same (n := n) hnd (l.getD i dSStow).Spot.Bay (l.getD i dSStow).Spot.Row hl ht hn
  unfold impl_StowCode_5
  rw [s1, s2, Option.bind_some, ix_of hs.1 hs.2, bd_eq, stack_impl _ _ (by omega) hn, Option.bind_some, Option.getD_some]
theorem impl_f7 (n : Nat) (l : List SStow) {i : Nat} (hi : i < l.length) (hl : l.length ≤ 40) (hn : 1000000000 < n) : impl_StowCode_7 n (i : Int) (l.getD i dSStow) l = some ((List.range i).any fun k => !keepsV (l.getD k dSStow).Box (l.getD k dSStow).Spot (l.getD i dSStow).Box (l.getD i dSStow).Spot) := by
  unfold impl_StowCode_7
  rw [chk_dec (by omega), chk_dec (by omega), Int.toNat_natCast, contains7 _ _ (by rw [List.length_take]; omega) hn, Option.bind_some, take_any (α := Nat) (by omega) (c := fun x => !keepsV x.Box x.Spot (l.getD i dSStow).Box (l.getD i dSStow).Spot)]
def tab (bays : List SHatch) (l : List SStow) : List SAnon117 := [(⟨(1 : Int), (⟨0, [], []⟩ : SFn116)⟩ : SAnon117), (⟨(2 : Int), (⟨1, l, []⟩ : SFn116)⟩ : SAnon117), (⟨(3 : Int), (⟨2, [], bays⟩ : SFn116)⟩ : SAnon117), (⟨(4 : Int), (⟨3, l, []⟩ : SFn116)⟩ : SAnon117), (⟨(5 : Int), (⟨4, l, bays⟩ : SFn116)⟩ : SAnon117), (⟨(6 : Int), (⟨5, l, bays⟩ : SFn116)⟩ : SAnon117), (⟨(7 : Int), (⟨6, l, []⟩ : SFn116)⟩ : SAnon117)]
theorem impl_fl {R : Type} {n : Nat} {bays : List SHatch} {l : List SStow} (kx : Option R) (kxr : Int → Int → Option R) (J : Int → Option R) (t10 t11 t13 : Int) (hb : hatchesB bays = true) (hl : l.length ≤ 40) (hn : 1000000000 < n) {k : Nat} (hk : k < 7) (hp : Past n bays l k) {i : Nat} (hi : i < l.length) :
    impl_StowCode_k0 n kx kxr J l t10 t11 l t13 (i : Int) ((tab bays l).getD k dSAnon117) (tab bays l) = bif fl n bays l k i then kxr ((k + 1 : Nat) : Int) (i : Int) else J ((i + 1 : Nat) : Int) := by
  have e : w64 ((i : Int) + 1) = ((i + 1 : Nat) : Int) := w64_succ (by omega)
  unfold impl_StowCode_k0
  rw [ix_nat hi, bd_eq, Int.toNat_natCast, e]
  rcases (show k = 0 ∨ k = 1 ∨ k = 2 ∨ k = 3 ∨ k = 4 ∨ k = 5 ∨ k = 6 by omega) with e | e | e | e | e | e | e <;> subst e
  · show (impl_StowCode_1 n (i : Int) (l.getD i dSStow)).bind _ = _
    rw [impl_f1 n l i hn, Option.bind_some]; rfl
  · show (impl_StowCode_2 n (i : Int) (l.getD i dSStow) l).bind _ = _
    rw [impl_f2 n l hi hl hn, Option.bind_some]; rfl
  · show (impl_StowCode_3 n (i : Int) (l.getD i dSStow) bays).bind _ = _
    rw [impl_f3 n hb l i, Option.bind_some]; rfl
  · have hin := inside_at hb (hp.ins (by omega) hi)
    show (impl_StowCode_4 n (i : Int) (l.getD i dSStow) l).bind _ = _
    rw [impl_f4 n l i hin.2.2 hl hn, Option.bind_some]; rfl
  · have hin := inside_at hb (hp.ins (by omega) hi)
    show (impl_StowCode_5 n (i : Int) (l.getD i dSStow) l bays).bind _ = _
    rw [impl_f5 (hp.nd (by omega)) hl (hp.tiers hb (by omega)) ⟨hin.1, hin.2.1⟩ hn, Option.bind_some]; rfl
  · have hin := inside_at hb (hp.ins (by omega) hi)
    show (impl_StowCode_6 n (i : Int) (l.getD i dSStow) l bays).bind _ = _
    rw [cold_impl l bays _ _ (by omega) hn ⟨hin.1, hin.2.1⟩, Option.bind_some]; rfl
  · show (impl_StowCode_7 n (i : Int) (l.getD i dSStow) l).bind _ = _
    rw [impl_f7 n l hi hl hn, Option.bind_some]; rfl
def firstF (n : Nat) (bays : List SHatch) (l : List SStow) (k : Nat) : Option Nat := (List.range l.length).find? (fl n bays l k)
theorem past_of {n : Nat} {bays : List SHatch} {l : List SStow} {k : Nat} (h : ∀ j, j < k → (firstF n bays l j).isSome = false) : Past n bays l k := fun j hj i hi => by
  have := h j hj
  unfold firstF at this
  rcases find_range (fl n bays l j) l.length with ⟨h1, h2⟩ | ⟨u, h1, _⟩
  · exact h2 i hi
  · rw [h1] at this; cases this
def stowV (n : Nat) (bays : List SHatch) (l : List SStow) : Int × Int := bif hatchesB bays && decide (l.length ≤ 40) then ((List.range 7).find? fun k => (firstF n bays l k).isSome).elim (0, 0) (fun k => (firstF n bays l k).elim (0, 0) fun i => (((k + 1 : Nat) : Int), (i : Int))) else (1, 0)
theorem stow_spec {n : Nat} (bays : List SHatch) (l : List SStow) (hbl : bays.length ≤ 100000000) (hn : 1000000000 < n) : spec_StowCode n bays l = some (stowV n bays l) := by
  unfold spec_StowCode stowV
  rw [hatches_spec bays hbl hn, Option.bind_some]
  cases hb : hatchesB bays with
  | false => rfl
  | true =>
    rw [Bool.not_true, cond_false, Bool.true_and]
    by_cases hl : l.length ≤ 40
    · rw [decide_eq_false (by omega), cond_false, decide_eq_true hl, cond_true]
      have key : loopN (fun (x : Int) J' => spec_StowCode_L4 n (some ((0 : Int), (0 : Int))) (fun t28 t29 => some (t28, t29)) J' bays l x) n (((0 + 1 : Nat)) : Int) = ((List.range 7).find? fun k => (firstF n bays l k).isSome).elim (some ((0 : Int), (0 : Int))) (fun k => (firstF n bays l k).elim none fun i => some (((k + 1 : Nat) : Int), (i : Int))) := by
        refine loop_findE (enc := fun k => ((k + 1 : Nat) : Int)) (fun k J hk hpast => ?_) (fun J => ?_) (by omega)
        · have hp := past_of hpast
          have e2 : w64 (((k + 1 : Nat) : Int) + 1) = ((k + 1 + 1 : Nat) : Int) := w64_succ (by omega)
          unfold spec_StowCode_L4
          rw [decide_eq_true (by omega), cond_true]
          have hin : loopN (fun (x : Int) J' => spec_StowCode_L7 n (bd (w64 (((k + 1 : Nat) : Int) + 1)) fun v19 => J v19) (fun t20 => (fun t28 t29 => some (t28, t29)) ((k + 1 : Nat) : Int) t20) J' bays l ((k + 1 : Nat) : Int) x) n ((0 : Nat) : Int) = (firstF n bays l k).elim (J ((k + 1 + 1 : Nat) : Int)) (fun i => some (((k + 1 : Nat) : Int), (i : Int))) := by
            refine loop_findE (enc := fun i => ((i : Nat) : Int)) (fun i J' hi _ => ?_) (fun J' => ?_) (by omega)
            · have e : w64 ((i : Int) + 1) = ((i + 1 : Nat) : Int) := w64_succ (by omega)
              unfold spec_StowCode_L7
              rw [decide_eq_true (by omega), cond_true, spec_fl hb hl hn hk hp hi, Option.bind_some, e]
            · unfold spec_StowCode_L7
              rw [decide_eq_false (by omega), cond_false, bd_eq, e2]
          refine hin.trans ?_
          cases firstF n bays l k <;> rfl
        · unfold spec_StowCode_L4
          rw [decide_eq_false (by omega), cond_false]
      refine (show _ = _ from key).trans ?_
      cases hf : (List.range 7).find? fun k => (firstF n bays l k).isSome with
      | none => rfl
      | some k =>
        have := List.find?_some hf
        show (firstF n bays l k).elim none _ = some ((firstF n bays l k).elim _ _)
        cases hk : firstF n bays l k with
        | none => rw [hk] at this; cases this
        | some i => rfl
    · rw [decide_eq_true (by omega), cond_true, decide_eq_false hl]; rfl
theorem stow_impl {n : Nat} (bays : List SHatch) (l : List SStow) (hbl : bays.length ≤ 100000000) (hn : 1000000000 < n) : impl_StowCode n bays l = some (stowV n bays l) := by
  unfold impl_StowCode stowV
  rw [hatches_impl bays hbl hn, Option.bind_some]
  cases hb : hatchesB bays with
  | false => rfl
  | true =>
    rw [Bool.not_true, cond_false, Bool.true_and]
    by_cases hl : l.length ≤ 40
    · rw [decide_eq_false (by omega), cond_false, decide_eq_true hl, cond_true]
      have key : loopN (fun (x : Int) J' => impl_StowCode_L4 n (some ((0 : Int), (0 : Int))) (fun t39 t40 => some (t39, t40)) J' l (7 : Int) x (tab bays l)) n ((0 : Nat) : Int) = ((List.range 7).find? fun k => (firstF n bays l k).isSome).elim (some ((0 : Int), (0 : Int))) (fun k => (firstF n bays l k).elim none fun i => some (((k + 1 : Nat) : Int), (i : Int))) := by
        refine loop_findE (enc := fun k => ((k : Nat) : Int)) (fun k J hk hpast => ?_) (fun J => ?_) (by omega)
        · have hp := past_of hpast
          have hkt : k < (tab bays l).length := hk
          have e2 : w64 ((k : Int) + 1) = ((k + 1 : Nat) : Int) := w64_succ (by omega)
          unfold impl_StowCode_L4 impl_StowCode_k1
          rw [decide_eq_true (by omega), cond_true, ix_nat hkt, Int.toNat_natCast, chk_dec hkt, bd_eq, decide_eq_false (Nat.not_lt_zero _), cond_false, e2]
          have hin : loopN (fun (x : Int) J' => impl_StowCode_L7 n (J ((k + 1 : Nat) : Int)) (fun t36 t37 => (fun t39 t40 => some (t39, t40)) t36 t37) J' l (7 : Int) (k : Int) l (l.length : Int) x ((tab bays l).getD k dSAnon117) (tab bays l)) n ((0 : Nat) : Int) = (firstF n bays l k).elim (J ((k + 1 : Nat) : Int)) (fun i => some (((k + 1 : Nat) : Int), (i : Int))) := by
            refine loop_findE (enc := fun i => ((i : Nat) : Int)) (fun i J' hi _ => ?_) (fun J' => ?_) (by omega)
            · unfold impl_StowCode_L7
              rw [decide_eq_true (by omega), cond_true]
              exact impl_fl _ _ J' _ _ _ hb hl hn hk hp hi
            · unfold impl_StowCode_L7
              rw [decide_eq_false (by omega), cond_false]
          refine hin.trans ?_
          cases firstF n bays l k <;> rfl
        · unfold impl_StowCode_L4
          rw [decide_eq_false (by omega), cond_false]
      refine (show impl_StowCode_k2 n bays l = _ from key).trans ?_
      cases hf : (List.range 7).find? fun k => (firstF n bays l k).isSome with
      | none => rfl
      | some k =>
        have := List.find?_some hf
        show (firstF n bays l k).elim none _ = some ((firstF n bays l k).elim _ _)
        cases hk : firstF n bays l k with
        | none => rw [hk] at this; cases this
        | some i => rfl
    · rw [decide_eq_true (by omega), cond_true, decide_eq_false hl]; rfl
/-! ### At a port -/
def goesB (port : Int) (x : SStow) : Bool := !decide (x.Box.To < port) && !decide (x.Box.From > port)
def kept (port : Int) (l : List SStow) (k : Nat) : List SStow := (l.take k).filter fun x => !decide (x.Box.To = port)
theorem kept_succ (port : Int) {l : List SStow} {k : Nat} (hk : k < l.length) : kept port l (k + 1) = bif !decide ((l.getD k dSStow).Box.To = port) then kept port l k ++ [l.getD k dSStow] else kept port l k := by
  unfold kept
  rw [take_succ_getD (d := dSStow) hk, List.filter_append]
  by_cases c : (l.getD k dSStow).Box.To = port
  · rw [decide_eq_true c, List.filter_cons_of_neg (by rw [decide_eq_true c]; decide)]; simp
  · rw [decide_eq_false c, List.filter_cons_of_pos (by rw [decide_eq_false c]; rfl)]; rfl
theorem kept_len (port : Int) (l : List SStow) (k : Nat) : (kept port l k).length ≤ l.length := by
  unfold kept
  exact Nat.le_trans (List.length_filter_le _ _) (by rw [List.length_take]; omega)
def outP (port : Int) (l plan : List SStow) : List SStow := kept port l l.length ++ plan
def endV (n : Nat) (bays : List SHatch) (l : List SStow) (port : Int) (plan : List SStow) : List SStow × Int × Int := bif !decide ((stowV n bays (outP port l plan)).1 = 0) then (l, 0, 3) else (outP port l plan, ((shiftsR l port).1.length : Int), 0)
def walkV (n : Nat) (bays : List SHatch) (l : List SStow) (port : Int) (plan : List SStow) : List SStow × Int × Int := bif (List.range l.length).all (fun k => goesB port (l.getD k dSStow)) then (bif (List.range plan.length).all (fun k => decide ((plan.getD k dSStow).Box.From = port)) then endV n bays l port plan else (l, 0, 2)) else (l, 0, 2)
def atV (n : Nat) (bays : List SHatch) (l : List SStow) (port : Int) (plan : List SStow) : List SStow × Int × Int := bif !decide ((stowV n bays l).1 = 0) then (l, 0, 1) else (bif decide ((plan.length : Int) > 40) then (l, 0, 1) else (bif !decide (0 ≤ port ∧ port ≤ 19) then (l, 0, 1) else walkV n bays l port plan))
theorem own_stow {n : Nat} (l : List SStow) (hl : l.length ≤ 4000000) : impl_own_impl_Stow n l = some l := by
  unfold impl_own_impl_Stow
  rw [chk_dec (by omega), chk_dec (by omega), chk_dec (by omega)]
theorem at_impl {n : Nat} (bays : List SHatch) (l : List SStow) (port : Int) (plan : List SStow) (hbl : bays.length ≤ 2000000) (hl : l.length ≤ 2000000) (hn : 1000000000 < n) : impl_AtPort n bays l port plan = some (atV n bays l port plan) := by
  unfold impl_AtPort atV
  rw [own_stow l (by omega), Option.bind_some, stow_impl bays l (by omega) hn, Option.bind_some, portOk_eq, Option.bind_some]
  generalize hc1 : (!decide ((stowV n bays l).1 = 0)) = c1
  cases c1 with
  | true => rfl
  | false =>
    rw [cond_false, cond_false]
    by_cases hp : (plan.length : Int) > 40
    · rw [decide_eq_true hp]; rfl
    rw [decide_eq_false hp, cond_false, cond_false]
    generalize hc3 : (!decide (0 ≤ port ∧ port ≤ 19)) = c3
    cases c3 with
    | true => rfl
    | false =>
      rw [cond_false, cond_false]
      unfold impl_AtPort_k1 walkV
      refine (loop_allS (enc := fun (k : Int) (s : List SStow) => (k, s)) (len := l.length) (p := fun k => goesB port (l.getD k dSStow)) (I := fun k s => s = kept port l k) (no := some (l, 0, 2)) (yes := some (bif (List.range plan.length).all (fun k => decide ((plan.getD k dSStow).Box.From = port)) then endV n bays l port plan else (l, 0, 2))) (fun k s J hk hI _ => ⟨_, fun _ => rfl, ?_⟩) (fun s J hI _ => ?_) (by omega) rfl).trans ?_
      · have e : w64 ((k : Int) + 1) = ((k + 1 : Nat) : Int) := w64_succ (by omega)
        have hs : s.length ≤ 2000000 := by rw [hI]; exact Nat.le_trans (kept_len _ _ _) hl
        rw [kept_succ port hk, ← hI]
        show impl_AtPort_L7 n _ _ (fun t84 then85 => J (t84, then85)) bays l port plan l (l.length : Int) (k : Int) l s = _
        unfold impl_AtPort_L7 impl_AtPort_k0
        simp only [ix_nat hk, bd_eq, Int.toNat_natCast, e]
        rw [decide_eq_true (by omega), cond_true, chk_dec (by rw [List.length_append]; simp; omega)]
        unfold goesB
        generalize decide ((l.getD k dSStow).Box.To < port) = a
        generalize decide ((l.getD k dSStow).Box.From > port) = b
        generalize decide ((l.getD k dSStow).Box.To = port) = c
        cases a <;> cases b <;> cases c <;> rfl
      · show impl_AtPort_L7 n _ _ (fun t84 then85 => J (t84, then85)) bays l port plan l (l.length : Int) (l.length : Int) l s = _
        unfold impl_AtPort_L7
        rw [decide_eq_false (by omega), cond_false]
        dsimp only
        refine (loop_allS (enc := fun (k : Int) (s : List SStow) => (k, s)) (len := plan.length) (p := fun k => decide ((plan.getD k dSStow).Box.From = port)) (I := fun k s => s = kept port l l.length ++ plan.take k) (no := some (l, 0, 2)) (yes := some (endV n bays l port plan)) (fun k x J' hk hI' _ => ⟨_, fun _ => rfl, ?_⟩) (fun x J' hI' _ => ?_) (by omega) (by rw [hI, List.take_zero, List.append_nil])).trans ?_
        · have e : w64 ((k : Int) + 1) = ((k + 1 : Nat) : Int) := w64_succ (by omega)
          have hx : x.length ≤ 4000000 := by
            rw [hI', List.length_append, List.length_take]
            have := kept_len port l l.length
            omega
          rw [take_succ_getD (d := dSStow) hk, ← List.append_assoc, ← hI']
          show impl_AtPort_L15 n _ _ (fun t80 then81 => J' (t80, then81)) bays l port plan (plan.length : Int) (k : Int) l x = _
          unfold impl_AtPort_L15
          simp only [ix_nat hk, bd_eq, Int.toNat_natCast, e]
          rw [decide_eq_true (by omega), cond_true, chk_dec (by rw [List.length_append]; simp; omega)]
          generalize decide ((plan.getD k dSStow).Box.From = port) = a
          cases a <;> rfl
        · rw [List.take_length] at hI'
          have hx : x = outP port l plan := hI'
          have hxl : (outP port l plan).length ≤ 4000000 := by
            unfold outP
            rw [List.length_append]
            have := kept_len port l l.length
            omega
          show impl_AtPort_L15 n _ _ (fun t80 then81 => J' (t80, then81)) bays l port plan (plan.length : Int) (plan.length : Int) l x = _
          unfold impl_AtPort_L15
          rw [decide_eq_false (by omega), cond_false]
          dsimp only
          rw [hx, stow_impl bays _ (by omega) hn, Option.bind_some, impl_Shifts_eq l port (by omega), Option.bind_some, own_stow _ hxl, Option.bind_some]
          unfold endV
          generalize decide ((stowV n bays (outP port l plan)).1 = 0) = a
          cases a <;> rfl
        · cases (List.range plan.length).all fun k => decide ((plan.getD k dSStow).Box.From = port) <;> rfl
      · cases (List.range l.length).all fun k => goesB port (l.getD k dSStow) <;> rfl
end Go.Sm
end

section
set_option linter.unusedSimpArgs false
set_option linter.deprecated false
set_option linter.unusedSectionVars false
set_option linter.unusedVariables false
set_option linter.unusedSimpArgs false
namespace Go.Sm
attribute [local irreducible] bd chk ix loopN
/-! ### A drawn call at a port -/
theorem pickM_ok {n : Nat} {c : Sl1Cur} (h : CurOk c) {l : List Int} (hl : 1 ≤ l.length ∧ l.length ≤ 256) : ∃ v c', spec_l1PickInt n c l = some (v, c') ∧ v ∈ l ∧ CurOk c' := by
  obtain ⟨v, c', h1, h2, h3⟩ := below_ok (n := n) h (m := (l.length : Int)) (by omega)
  unfold spec_l1PickInt
  rw [h1, Option.bind_some, ix_of h2.1 h2.2]
  exact ⟨_, _, rfl, getD_mem (by omega), h3⟩
structure BaysOk (b : List SHatch) : Prop where
  len : b.length ≤ 16
  rows : ∀ k, k < b.length → (b.getD k dSHatch).Rows ≤ 100
theorem BaysOk.set0 {b : List SHatch} {x : SHatch} (h : BaysOk b) (hx : x.Rows ≤ 100) : BaysOk (b.set 0 x) := by
  refine ⟨by rw [List.length_set]; exact h.len, fun k hk => ?_⟩
  rw [List.length_set] at hk
  by_cases e : k = 0
  · rw [e, getD_set (by omega)]; exact hx
  · rw [getD_set_ne e]; exact h.rows k hk
theorem drawBays_ok {n : Nat} {c : Sl1Cur} (hc : CurOk c) (hn : 1000000000 < n) : ∃ b c', spec_l12DrawBays n c false = some (b, c') ∧ BaysOk b ∧ CurOk c' := by
  obtain ⟨v, c1, a1, ⟨a2, a3⟩, a4⟩ := below_ok (n := n) hc (m := 3) (by omega)
  unfold spec_l12DrawBays
  rw [a1, Option.bind_some]
  dsimp only
  rw [w64_id (show -9223372036854775808 ≤ 1 + v by omega) (by omega)]
  generalize hcn : 1 + v = cnt
  have hz : cnt = cnt - 0 := by omega
  rw [show (cnt, c1, ([] : List SHatch)) = (cnt - 0, c1, []) from by rw [← hz]]
  refine loop_runS (enc := fun k (s : Sl1Cur × List SHatch) => (cnt - k, s.1, s.2)) (s0 := (c1, [])) (I := fun k s => CurOk s.1 ∧ s.2.length = k ∧ ∀ j, j < k → (s.2.getD j dSHatch).Rows ≤ 100) (Q := fun r => ∃ b c', r = some (b, c') ∧ BaysOk b ∧ CurOk c') (len := cnt.toNat) (fun k s J hk hI => ?_) (fun s J hI => ?_) (by omega) ⟨a4, rfl, fun j hj => absurd hj (Nat.not_lt_zero _)⟩
  · obtain ⟨p, out⟩ := s
    obtain ⟨i1, i2, i3⟩ := hI
    dsimp only at i1 i2 i3
    obtain ⟨v1, x1, y1, ⟨z1, z2⟩, w1⟩ := below_ok (n := n) i1 (m := 3) (by omega)
    obtain ⟨v2, x2, y2, _, w2⟩ := below_ok (n := n) w1 (m := 3) (by omega)
    obtain ⟨v3, x3, y3, _, w3⟩ := below_ok (n := n) w2 (m := 200) (by omega)
    obtain ⟨v4, x4, y4, _, w4⟩ := below_ok (n := n) w3 (m := 4) (by omega)
    have e1 : w64 (cnt - (k : Int) - 1) = cnt - ((k + 1 : Nat) : Int) := by rw [w64_id (by omega) (by omega)]; omega
    have e2 : w64 (1 + v1) = 1 + v1 := w64_id (by omega) (by omega)
    refine ⟨(x4, out ++ [(⟨w64 (1 + v1), w64 (1 + v2), w64 (50 + v3), v4⟩ : SHatch)]), ⟨w4, by rw [List.length_append, i2]; rfl, fun j hj => ?_⟩, ?_⟩
    · show ((out ++ _).getD j dSHatch).Rows ≤ 100
      by_cases e : j = k
      · subst e
        rw [getD_eq (by simp; omega), List.getElem_append_right (by omega)]
        simp only [i2, Nat.sub_self, List.getElem_cons_zero]
        omega
      · rw [getD_eq (by simp; omega), List.getElem_append_left (by omega), ← getD_eq (d := dSHatch) (by omega)]
        exact i3 j (by omega)
    · show spec_l12DrawBays_L3 n _ (fun i91 p92 out93 => J (i91, p92, out93)) false (cnt - (k : Int)) p out = _
      unfold spec_l12DrawBays_L3 spec_l12DrawBays_k0
      rw [decide_eq_true (by omega), cond_true]
      simp only [y1, y2, y3, y4, Option.bind_some, bd_eq, cond_false]
      rw [chk_dec (by rw [List.length_append]; simp; omega), e1]
  · obtain ⟨p, out⟩ := s
    obtain ⟨i1, i2, i3⟩ := hI
    dsimp only at i1 i2 i3
    have hb : BaysOk out := ⟨by omega, fun k hk => i3 k (by omega)⟩
    have h0 : 0 < out.length := by omega
    show ∃ b c', spec_l12DrawBays_L3 n _ (fun i91 p92 out93 => J (i91, p92, out93)) false (cnt - ((cnt.toNat : Nat) : Int)) p out = some (b, c') ∧ _
    unfold spec_l12DrawBays_L3
    rw [decide_eq_false (by omega), cond_false]
    obtain ⟨v5, x5, y5, _, w5⟩ := below_ok (n := n) i1 (m := 60) (by omega)
    simp only [y5, Option.bind_some]
    have hix : ∀ {R : Type} {x : Option R}, ix 0 out.length x = x := ix_of (by omega) (by omega)
    by_cases c0 : v5 = 0
    · obtain ⟨u, xu, yu, mu, wu⟩ := pickM_ok (n := n) w5 (l := [0, 6, 7]) (by decide)
      rw [decide_eq_true c0, cond_true, yu, Option.bind_some, hix, chk_dec h0, bd_eq, bd_eq]
      exact ⟨_, _, rfl, hb.set0 (by
        simp only [List.mem_cons, List.not_mem_nil, or_false] at mu
        show u ≤ 100; omega), wu⟩
    rw [decide_eq_false c0, cond_false]
    have hr0 : (out.getD 0 dSHatch).Rows ≤ 100 := hb.rows 0 h0
    by_cases c1 : v5 = 1
    · obtain ⟨u, xu, yu, mu, wu⟩ := pickM_ok (n := n) w5 (l := [-1, 1000000, 1000001]) (by decide)
      rw [decide_eq_true c1, cond_true, yu, Option.bind_some, hix, chk_dec h0, bd_eq, bd_eq]
      exact ⟨_, _, rfl, hb.set0 hr0, wu⟩
    rw [decide_eq_false c1, cond_false]
    by_cases c2 : v5 = 2
    · obtain ⟨u, xu, yu, mu, wu⟩ := pickM_ok (n := n) w5 (l := [-1, 36, 37]) (by decide)
      rw [decide_eq_true c2, cond_true, yu, Option.bind_some, hix, chk_dec h0, bd_eq, bd_eq]
      exact ⟨_, _, rfl, hb.set0 hr0, wu⟩
    rw [decide_eq_false c2, cond_false]
    by_cases c3 : v5 = 3
    · obtain ⟨u, xu, yu, mu, wu⟩ := pickM_ok (n := n) w5 (l := [0, 6, 7]) (by decide)
      have hu : 0 ≤ u ∧ u ≤ 7 := by
        simp only [List.mem_cons, List.not_mem_nil, or_false] at mu
        omega
      rw [decide_eq_true c3, cond_true, yu, Option.bind_some]
      dsimp only
      rw [chk_dec hu.1, chk_dec (Int.le_refl _), chk_dec (by omega)]
      refine loop_runS (enc := fun k (s : List SHatch) => (k, s)) (I := fun k s => s.length = u.toNat ∧ ∀ j, j < s.length → (s.getD j dSHatch).Rows ≤ 100) (Q := fun r => ∃ b c', r = some (b, c') ∧ BaysOk b ∧ CurOk c') (len := u.toNat) (fun k s J hk hI => ?_) (fun s J hI => ?_) (by omega) ⟨List.length_replicate, fun j hj => ?_⟩
      · have e : w64 ((k : Int) + 1) = ((k + 1 : Nat) : Int) := w64_succ (by omega)
        have hks : k < s.length := by rw [hI.1]; exact hk
        refine ⟨s.set k ⟨1, 1, 500, 0⟩, ⟨by rw [List.length_set]; exact hI.1, fun j hj => ?_⟩, ?_⟩
        · rw [List.length_set] at hj
          by_cases ej : j = k
          · rw [ej, getD_set hks]; show (1 : Int) ≤ 100; omega
          · rw [getD_set_ne ej]; exact hI.2 j hj
        · show spec_l12DrawBays_L23 n _ (fun i87 out88 => J (i87, out88)) (k : Int) s xu = _
          unfold spec_l12DrawBays_L23
          rw [decide_eq_true (by omega), cond_true, ix_nat hks, Int.toNat_natCast, chk_dec hks, bd_eq, e]
      · refine ⟨s, xu, ?_, ⟨by omega, hI.2⟩, wu⟩
        show spec_l12DrawBays_L23 n _ (fun i87 out88 => J (i87, out88)) ((u.toNat : Nat) : Int) s xu = _
        unfold spec_l12DrawBays_L23
        rw [decide_eq_false (by omega), cond_false]
      · rw [List.length_replicate] at hj
        rw [getD_eq (by rw [List.length_replicate]; exact hj), List.getElem_replicate]
        show (0 : Int) ≤ 100
        omega
    rw [decide_eq_false c3, cond_false]
    exact ⟨_, _, rfl, hb, w5⟩
theorem stackAny {n : Nat} (l : List SStow) (bay row : Int) (hl : l.length ≤ 1000) (hn : 1000000000 < n) : ∃ B : List SBox, spec_l12Stack n l bay row = some B ∧ B.length ≤ 20 := by
  unfold spec_l12Stack
  refine loop_runS (enc := fun k (s : List SBox) => (k, s)) (I := fun k s => s.length ≤ k) (Q := fun r => ∃ B : List SBox, r = some B ∧ B.length ≤ 20) (len := 20) (fun k s J hk hI => ?_) (fun s J hI => ?_) (by omega) (Nat.le_refl _)
  · have e : w64 ((k : Int) + 1) = ((k + 1 : Nat) : Int) := w64_succ (by omega)
    have hst : spec_l12Stack_L3 n (fun out14 => some (out14)) (fun t15 out16 => J (t15, out16)) l bay row (k : Int) s = (bif decide (idxOf (fun j => spEq (l.getD j dSStow).Spot ⟨bay, row, (k : Int)⟩) l.length ≥ 0) then ix (idxOf (fun j => spEq (l.getD j dSStow).Spot ⟨bay, row, (k : Int)⟩) l.length) l.length (bd (l.getD (idxOf (fun j => spEq (l.getD j dSStow).Spot ⟨bay, row, (k : Int)⟩) l.length).toNat dSStow) fun (e9 : SStow) => chk (decide ((s ++ [e9.Box]).length * 56 ≤ 140737488355328)) (J (((k + 1 : Nat) : Int), (s ++ [e9.Box])))) else J (((k + 1 : Nat) : Int), s)) := by
      unfold spec_l12Stack_L3 spec_l12Stack_k0
      rw [decide_eq_true (show (k : Int) < 20 by omega), cond_true, l12At_idx l _ (by omega) hn, Option.bind_some, e]
    rcases idxOf_spec (fun j => spEq (l.getD j dSStow).Spot ⟨bay, row, (k : Int)⟩) l.length with ⟨h1, h2⟩ | ⟨u, h1, h2, h3, h4⟩
    · refine ⟨s, by omega, ?_⟩
      refine hst.trans ?_
      rw [h1, decide_eq_false (by omega), cond_false]
    · refine ⟨s ++ [(l.getD u dSStow).Box], by rw [List.length_append]; simp; omega, ?_⟩
      refine hst.trans ?_
      rw [h1, decide_eq_true (by omega), cond_true, ix_nat h2, bd_eq, Int.toNat_natCast, chk_dec (by rw [List.length_append]; simp; omega)]
  · refine ⟨s, ?_, hI⟩
    show spec_l12Stack_L3 n _ (fun t15 out16 => J (t15, out16)) l bay row ((20 : Nat) : Int) s = _
    unfold spec_l12Stack_L3
    rw [decide_eq_false (by omega), cond_false]
def TurnTo {R : Type} (J : Int → Sl1Cur → List SStow → Option R) (tries : Int) (out : List SStow) (x : Option R) : Prop := ∃ p' out', x = J (w64 (tries - 1)) p' out' ∧ CurOk p' ∧ out'.length ≤ out.length + 1
theorem st4 {R : Type} {n : Nat} (kx : List SStow → Sl1Cur → Option R) (J : Int → Sl1Cur → List SStow → Option R) {bays : List SHatch} {many tries a b c : Int} {p : Sl1Cur} {out : List SStow} {box : SBox} (hb : bays.length ≤ 16) (ho : out.length ≤ 100) (hp : CurOk p) (hn : 1000000000 < n) : TurnTo J tries out (spec_l12DrawStows_k4 n kx J bays many tries p out a b c box) := by
  have hl : (out ++ [(⟨box, (⟨a, b, c⟩ : SSpot)⟩ : SStow)]).length ≤ out.length + 1 := by rw [List.length_append]; simp
  unfold spec_l12DrawStows_k4
  rw [chk_dec (by omega), bd_eq, chk_dec (by omega), stow_spec bays _ (by omega) hn, Option.bind_some]
  generalize decide ((stowV n bays (out ++ [(⟨box, (⟨a, b, c⟩ : SSpot)⟩ : SStow)])).1 = 0) = d
  cases d with
  | true => rw [cond_true, bd_eq]; exact ⟨p, _, rfl, hp, hl⟩
  | false =>
    obtain ⟨o, c2, o1, o2⟩ := onceB_ok (n := n) hp (m := 25) (by omega)
    rw [cond_false, o1, Option.bind_some]
    cases o with
    | true => exact ⟨c2, _, by dsimp only; rw [cond_true, bd_eq], o2, hl⟩
    | false => exact ⟨c2, _, by dsimp only; rw [cond_false, bd_eq], o2, Nat.le_succ _⟩
theorem st_top {B : List SBox} (h : 0 < B.length) (hB : B.length ≤ 20) : w64 ((B.length : Int) - 1) = ((B.length - 1 : Nat) : Int) := by rw [w64_id (by omega) (by omega)]; omega
theorem st2 {R : Type} {n : Nat} (kx : List SStow → Sl1Cur → Option R) (J : Int → Sl1Cur → List SStow → Option R) {bays : List SHatch} {many tries a b c : Int} {p : Sl1Cur} {out : List SStow} {B : List SBox} {nm : ByteArray} {w : Int} {cold : Bool} {fr to : Int} (hb : bays.length ≤ 16) (ho : out.length ≤ 100) (hB : B.length ≤ 20) (hp : CurOk p) (hn : 1000000000 < n) : TurnTo J tries out (spec_l12DrawStows_k2 n kx J bays many tries p out a b c B nm w cold fr to) := by
  have h0 : ∀ p w, CurOk p → TurnTo J tries out (spec_l12DrawStows_k0 n kx J bays many tries p out a b c nm w cold fr to) := fun p w hp => st4 (many := many) (box := ⟨nm, w, 0, cold, fr, to⟩) kx J hb ho hp hn
  unfold spec_l12DrawStows_k2
  by_cases hl : (B.length : Int) > 0
  · have hb1 : B.length - 1 < B.length := by omega
    rw [decide_eq_true hl, cond_true, bd_eq, st_top (by omega) hB, ix_nat hb1, Int.toNat_natCast, chk_dec hb1]
    generalize decide (w > (B.getD (B.length - 1) dSBox).Weight) = d
    cases d with
    | false => exact h0 p w hp
    | true =>
      obtain ⟨o, c2, o1, o2⟩ := onceB_ok (n := n) hp (m := 20) (by omega)
      rw [cond_true, o1, Option.bind_some]
      unfold spec_l12DrawStows_k1
      cases o with
      | true => exact h0 c2 w o2
      | false =>
        show TurnTo J tries out (bif true then _ else _)
        rw [cond_true, bd_eq, st_top (by omega) hB, ix_nat hb1, Int.toNat_natCast, chk_dec hb1]
        exact h0 c2 _ o2
  · rw [decide_eq_false hl, cond_false]; exact h0 p w hp
theorem st6 {R : Type} {n : Nat} (kx : List SStow → Sl1Cur → Option R) (J : Int → Sl1Cur → List SStow → Option R) {bays : List SHatch} {many tries a b c : Int} {p : Sl1Cur} {out : List SStow} {B : List SBox} {box : SBox} (hb : bays.length ≤ 16) (ho : out.length ≤ 100) (hB : B.length ≤ 20) (hp : CurOk p) (hn : 1000000000 < n) : TurnTo J tries out (spec_l12DrawStows_k6 n kx J bays many tries p out a b c B box) := by
  have h0 : ∀ p box, CurOk p → TurnTo J tries out (spec_l12DrawStows_k4 n kx J bays many tries p out a b c box) := fun p box hp => st4 (many := many) kx J hb ho hp hn
  unfold spec_l12DrawStows_k6
  by_cases hl : (B.length : Int) > 0
  · have hb1 : B.length - 1 < B.length := by omega
    rw [decide_eq_true hl, cond_true, bd_eq, st_top (by omega) hB, ix_nat hb1, Int.toNat_natCast, chk_dec hb1]
    generalize decide (box.Weight > (B.getD (B.length - 1) dSBox).Weight) = d
    cases d with
    | false => exact h0 p box hp
    | true =>
      obtain ⟨o, c2, o1, o2⟩ := onceB_ok (n := n) hp (m := 20) (by omega)
      rw [cond_true, o1, Option.bind_some]
      unfold spec_l12DrawStows_k5
      cases o with
      | true => exact h0 c2 box o2
      | false =>
        show TurnTo J tries out (bif true then _ else _)
        rw [cond_true, bd_eq, st_top (by omega) hB, ix_nat hb1, Int.toNat_natCast, chk_dec hb1]
        exact h0 c2 ⟨box.Name, (B.getD (B.length - 1) dSBox).Weight, box.Class, box.Cold, box.From, box.To⟩ o2
  · rw [decide_eq_false hl, cond_false]; exact h0 p box hp
theorem drawStows_ok {n : Nat} {c : Sl1Cur} {bays : List SHatch} {many : Int} (hc : CurOk c) (hb : BaysOk bays) (hm : 0 ≤ many ∧ many ≤ 10) (hn : 1000000000 < n) : ∃ l c', spec_l12DrawStows n c bays many = some (l, c') ∧ l.length ≤ 30 ∧ CurOk c' := by
  unfold spec_l12DrawStows
  rw [w64_id (by omega) (by omega), bd_eq]
  have hbl := hb.len
  have key : ∀ (t fu : Nat) (p : Sl1Cur) (out : List SStow), t < fu → CurOk p → out.length + t ≤ 30 → ∃ l c', loopN (fun (x : Int × Sl1Cur × List SStow) J' => spec_l12DrawStows_L3 n (fun out307 p308 => some (out307, p308)) (fun tries309 p310 out311 => J' (tries309, p310, out311)) bays many x.1 x.2.1 x.2.2) fu ((t : Int), p, out) = some (l, c') ∧ l.length ≤ 30 ∧ CurOk c' := by
    intro t
    induction t with
    | zero =>
      intro fu p out hf hp ho
      obtain ⟨f, rfl⟩ : ∃ f, fu = f + 1 := ⟨fu - 1, by omega⟩
      rw [loopN_succ]
      refine ⟨out, p, ?_, by omega, hp⟩
      show spec_l12DrawStows_L3 n _ _ bays many ((0 : Nat) : Int) p out = _
      unfold spec_l12DrawStows_L3
      rw [decide_eq_false (by omega), cond_false]
    | succ t ih =>
      intro fu p out hf hp ho
      obtain ⟨f, rfl⟩ : ∃ f, fu = f + 1 := ⟨fu - 1, by omega⟩
      rw [loopN_succ]
      have hgo : ∀ p' out', CurOk p' → out'.length ≤ out.length + 1 → ∃ l c', loopN (fun (x : Int × Sl1Cur × List SStow) J' => spec_l12DrawStows_L3 n (fun out307 p308 => some (out307, p308)) (fun tries309 p310 out311 => J' (tries309, p310, out311)) bays many x.1 x.2.1 x.2.2) f (w64 (((t + 1 : Nat) : Int) - 1), p', out') = some (l, c') ∧ l.length ≤ 30 ∧ CurOk c' := fun p' out' h1 h2 => by
        have e : w64 (((t + 1 : Nat) : Int) - 1) = (t : Int) := by rw [w64_id (by omega) (by omega)]; omega
        rw [e]; exact ih f p' out' (by omega) h1 (by omega)
      generalize loopN (fun (x : Int × Sl1Cur × List SStow) J' => spec_l12DrawStows_L3 n (fun out307 p308 => some (out307, p308)) (fun tries309 p310 out311 => J' (tries309, p310, out311)) bays many x.1 x.2.1 x.2.2) f = J at hgo ⊢
      show ∃ l c', spec_l12DrawStows_L3 n _ (fun tries309 p310 out311 => J (tries309, p310, out311)) bays many ((t + 1 : Nat) : Int) p out = some (l, c') ∧ _
      unfold spec_l12DrawStows_L3
      rw [decide_eq_true (by omega), cond_true]
      by_cases h1 : (out.length : Int) < many
      · rw [decide_eq_true h1, cond_true]
        by_cases h2 : (bays.length : Int) > 0
        · rw [decide_eq_true h2, cond_true]
          unfold spec_l12DrawStows_k8
          obtain ⟨v, c1, a1, a2, a3⟩ := below_ok (n := n) hp (m := (bays.length : Int)) (by omega)
          rw [a1, Option.bind_some]
          dsimp only
          rw [ix_of a2.1 a2.2, bd_eq]
          by_cases h3 : (bays.getD v.toNat dSHatch).Rows < 1
          · rw [decide_eq_true h3, cond_true, bd_eq]
            exact hgo c1 out a3 (Nat.le_succ _)
          · rw [decide_eq_false h3, cond_false]
            have hr := hb.rows v.toNat (by omega)
            unfold spec_l12DrawStows_k7
            obtain ⟨v2, c2, b1, b2, b3⟩ := below_ok (n := n) a3 (m := (bays.getD v.toNat dSHatch).Rows) (by omega)
            obtain ⟨B, s1, s2⟩ := stackAny (n := n) out v v2 (by omega) hn
            obtain ⟨bx1, c3, d1, d2⟩ := drawB_ok (n := n) b3 hn
            obtain ⟨o, c4, o1, o2⟩ := onceB_ok (n := n) d2 (m := 12) (by omega)
            rw [ix_of a2.1 a2.2, bd_eq, b1, Option.bind_some]
            dsimp only
            rw [s1, Option.bind_some, d1, Option.bind_some]
            dsimp only
            rw [o1, Option.bind_some]
            cases o with
            | false =>
              obtain ⟨p', out', t1, t2, t3⟩ := st2 (n := n) (bays := bays) (many := many) (tries := ((t + 1 : Nat) : Int)) (a := v) (b := v2) (c := (B.length : Int)) (p := c4) (out := out) (B := B) (nm := bx1.Name) (w := bx1.Weight) (cold := bx1.Cold) (fr := bx1.From) (to := bx1.To) (fun out307 p308 => some (out307, p308)) (fun tries309 p310 out311 => J (tries309, p310, out311)) hbl (by omega) s2 o2 hn
              obtain ⟨l, c', g1, g2⟩ := hgo p' out' t2 t3
              exact ⟨l, c', t1.trans g1, g2⟩
            | true =>
              obtain ⟨p', out', t1, t2, t3⟩ := st6 (n := n) (bays := bays) (many := many) (tries := ((t + 1 : Nat) : Int)) (a := v) (b := v2) (c := (B.length : Int)) (p := c4) (out := out) (B := B) (box := bx1) (fun out307 p308 => some (out307, p308)) (fun tries309 p310 out311 => J (tries309, p310, out311)) hbl (by omega) s2 o2 hn
              obtain ⟨l, c', g1, g2⟩ := hgo p' out' t2 t3
              exact ⟨l, c', t1.trans g1, g2⟩
        · rw [decide_eq_false h2, cond_false]; exact ⟨_, _, rfl, by omega, hp⟩
      · rw [decide_eq_false h1, cond_false]; exact ⟨_, _, rfl, by omega, hp⟩
  have := key (3 * many).toNat n c [] (by omega) hc (by simp; omega)
  rw [show (((3 * many).toNat : Nat) : Int) = 3 * many by omega] at this
  exact this
theorem drawSpot_ok {n : Nat} {c : Sl1Cur} (hc : CurOk c) : ∃ s c', spec_l11DrawSpot n c = some (s, c') ∧ CurOk c' := by
  obtain ⟨v1, x1, y1, _, w1⟩ := below_ok (n := n) hc (m := 3) (by omega)
  obtain ⟨v2, x2, y2, _, w2⟩ := below_ok (n := n) w1 (m := 3) (by omega)
  obtain ⟨v3, x3, y3, _, w3⟩ := below_ok (n := n) w2 (m := 3) (by omega)
  obtain ⟨o, x4, o1, w4⟩ := onceB_ok (n := n) w3 (m := 40) (by omega)
  unfold spec_l11DrawSpot
  simp only [y1, y2, y3, o1, Option.bind_some]
  cases o with
  | false => exact ⟨_, _, rfl, w4⟩
  | true =>
    obtain ⟨u, xu, yu, wu⟩ := pickIntB_ok (n := n) w4 (l := [-1, 19, 20]) (by decide)
    rw [cond_true, yu, Option.bind_some]
    exact ⟨_, _, rfl, wu⟩
theorem muddle_ok {n : Nat} {c : Sl1Cur} {l : List SStow} (hc : CurOk c) (hl : l.length ≤ 100) (hn : 1000000000 < n) : ∃ l' c', spec_l12Muddle n c l = some (l', c') ∧ l'.length ≤ 101 ∧ CurOk c' := by
  unfold spec_l12Muddle
  by_cases h0 : (l.length : Int) = 0
  · rw [decide_eq_true h0]; exact ⟨_, _, rfl, by omega, hc⟩
  rw [decide_eq_false h0, cond_false]
  obtain ⟨o, c1, o1, o2⟩ := onceB_ok (n := n) hc (m := 4) (by omega)
  rw [o1, Option.bind_some]
  cases o with
  | false => exact ⟨_, _, rfl, by omega, o2⟩
  | true =>
    show ∃ l' c', spec_l12Muddle_k0 n c1 l = some (l', c') ∧ _
    unfold spec_l12Muddle_k0
    obtain ⟨v, c2, a1, a2, a3⟩ := below_ok (n := n) o2 (m := (l.length : Int)) (by omega)
    obtain ⟨w, c3, b1, b2, b3⟩ := below_ok (n := n) a3 (m := 6) (by omega)
    have hv : v.toNat < l.length := by omega
    have hix : ∀ {R : Type} {x : Option R}, ix v l.length x = x := ix_of a2.1 a2.2
    rw [a1, Option.bind_some]
    dsimp only
    rw [b1, Option.bind_some]
    dsimp only
    by_cases k0 : w = 0
    · obtain ⟨s, c4, d1, d2⟩ := drawSpot_ok (n := n) b3
      rw [decide_eq_true k0, cond_true, d1, Option.bind_some, hix, chk_dec hv, bd_eq, bd_eq]
      exact ⟨_, _, rfl, by rw [List.length_set]; omega, d2⟩
    rw [decide_eq_false k0, cond_false]
    by_cases k1 : w = 1
    · obtain ⟨s, c4, d1, d2⟩ := drawAnyB_ok (n := n) b3 hn
      rw [decide_eq_true k1, cond_true, d1, Option.bind_some, hix, chk_dec hv, bd_eq, bd_eq]
      exact ⟨_, _, rfl, by rw [List.length_set]; omega, d2⟩
    rw [decide_eq_false k1, cond_false]
    by_cases k2 : w = 2
    · rw [decide_eq_true k2, cond_true, hix, chk_dec hv, bd_eq, chk_dec (by rw [List.length_append]; simp; omega)]
      exact ⟨_, _, rfl, by rw [List.length_append]; simp; omega, b3⟩
    rw [decide_eq_false k2, cond_false]
    by_cases k3 : w = 3
    · rw [decide_eq_true k3, cond_true, hix, chk_dec hv, bd_eq, hix, chk_dec hv, bd_eq, bd_eq]
      exact ⟨_, _, rfl, by rw [List.length_set]; omega, b3⟩
    rw [decide_eq_false k3, cond_false]
    by_cases k4 : w = 4
    · rw [decide_eq_true k4, cond_true, hix, chk_dec hv, bd_eq, bd_eq]
      exact ⟨_, _, rfl, by rw [List.length_set]; omega, b3⟩
    rw [decide_eq_false k4, cond_false]
    have k5 : w = 5 := by omega
    have hl1 : ((l.drop v.toNat).take (l.length - v.toNat)).length ≤ l.length := by rw [List.length_take, List.length_drop]; omega
    have hl2 : (((l.drop v.toNat).take (l.length - v.toNat)) ++ ((l.drop 0).take (v.toNat - 0))).length ≤ l.length := by rw [List.length_append, List.length_take, List.length_drop, List.length_take, List.length_drop]; omega
    rw [decide_eq_true k5, cond_true, chk_dec a2.1, chk_dec (by omega), chk_dec (by omega), bd_eq, chk_dec (by omega), chk_dec a2.1, chk_dec (by omega), chk_dec (by omega), bd_eq, chk_dec (by omega)]
    exact ⟨_, _, rfl, by omega, b3⟩
end Go.Sm
end

section
set_option linter.unusedSimpArgs false
set_option linter.deprecated false
set_option linter.unusedSectionVars false
set_option linter.unusedVariables false
set_option linter.unusedSimpArgs false
namespace Go.Sm
attribute [local irreducible] bd chk ix loopN
theorem dk0 {R : Type} {n : Nat} (kx : List SStow → List SStow → Option R) (J : Int → List SStow → List SStow → Option R) {bays : List SHatch} {port : Int} {i : Nat} {t9 : Sl1Cur} {l st : List SStow} (hi : i < l.length) (hl : l.length ≤ 100) (hs : st.length ≤ 100) : ∃ st', spec_DrawAtPort_k0 n kx J bays port (i : Int) t9 l st = J ((i + 1 : Nat) : Int) l st' ∧ st'.length ≤ st.length + 1 := by
  have e : w64 ((i : Int) + 1) = ((i + 1 : Nat) : Int) := w64_succ (by omega)
  unfold spec_DrawAtPort_k0
  rw [ix_nat hi, Int.toNat_natCast, chk_dec hi, e]
  generalize decide ((l.getD i dSStow).Box.To = port) = a
  cases a with
  | true => exact ⟨st, rfl, Nat.le_succ _⟩
  | false =>
    rw [Bool.not_false, cond_true, ix_nat hi, chk_dec hi, bd_eq, chk_dec (by rw [List.length_append]; simp; omega)]
    exact ⟨_, rfl, by rw [List.length_append]; simp⟩
theorem dk1 {R : Type} {n : Nat} (kx : List SStow → List SStow → Option R) (J : Int → List SStow → List SStow → Option R) {bays : List SHatch} {port : Int} {i : Nat} {t9 : Sl1Cur} {l st : List SStow} (hi : i < l.length) (hl : l.length ≤ 100) (hs : st.length ≤ 100) : ∃ l' st', spec_DrawAtPort_k1 n kx J bays port (i : Int) t9 l st = J ((i + 1 : Nat) : Int) l' st' ∧ l'.length = l.length ∧ st'.length ≤ st.length + 1 := by
  unfold spec_DrawAtPort_k1
  rw [ix_nat hi, Int.toNat_natCast, chk_dec hi]
  generalize decide ((l.getD i dSStow).Box.To < port) = a
  cases a with
  | false =>
    obtain ⟨st', h1, h2⟩ := dk0 (n := n) (bays := bays) (port := port) (t9 := t9) kx J hi hl hs
    exact ⟨l, st', h1, rfl, h2⟩
  | true =>
    rw [cond_true, ix_nat hi, chk_dec hi, bd_eq, bd_eq]
    obtain ⟨st', h1, h2⟩ := dk0 (n := n) (bays := bays) (port := port) (t9 := t9) (l := l.set i (⟨(⟨(l.getD i dSStow).Box.Name, (l.getD i dSStow).Box.Weight, (l.getD i dSStow).Box.Class, (l.getD i dSStow).Box.Cold, (l.getD i dSStow).Box.From, port⟩ : SBox), (l.getD i dSStow).Spot⟩ : SStow)) kx J (by rw [List.length_set]; exact hi) (by rw [List.length_set]; exact hl) hs
    exact ⟨_, st', h1, List.length_set, h2⟩
theorem dk2 {R : Type} {n : Nat} (kx : List SStow → List SStow → Option R) (J : Int → List SStow → List SStow → Option R) {bays : List SHatch} {port : Int} {i : Nat} {t9 : Sl1Cur} {l st : List SStow} (hi : i < l.length) (hl : l.length ≤ 100) (hs : st.length ≤ 100) : ∃ l' st', spec_DrawAtPort_k2 n kx J bays port (i : Int) t9 l st = J ((i + 1 : Nat) : Int) l' st' ∧ l'.length = l.length ∧ st'.length ≤ st.length + 1 := by
  unfold spec_DrawAtPort_k2
  rw [ix_nat hi, Int.toNat_natCast, chk_dec hi]
  generalize decide ((l.getD i dSStow).Box.From > port) = a
  cases a with
  | false => exact dk1 kx J hi hl hs
  | true =>
    rw [cond_true, ix_nat hi, chk_dec hi, bd_eq, bd_eq]
    obtain ⟨l', st', h1, h2, h3⟩ := dk1 (n := n) (bays := bays) (port := port) (t9 := t9) (l := l.set i (⟨(⟨(l.getD i dSStow).Box.Name, (l.getD i dSStow).Box.Weight, (l.getD i dSStow).Box.Class, (l.getD i dSStow).Box.Cold, (0 : Int), (l.getD i dSStow).Box.To⟩ : SBox), (l.getD i dSStow).Spot⟩ : SStow)) kx J (by rw [List.length_set]; exact hi) (by rw [List.length_set]; exact hl) hs
    exact ⟨l', st', h1, by rw [h2]; exact List.length_set, h3⟩
theorem drawAtPort_ok {n : Nat} (code : List Int) (hc : code.length ≤ 1048576) (hn : 1000000000 < n) : ∃ (bays : List SHatch) (l : List SStow) (port : Int) (plan : List SStow), spec_DrawAtPort n code = some (bays, l, port, plan) ∧ bays.length ≤ 16 ∧ l.length ≤ 101 ∧ plan.length ≤ 100 := by
  unfold spec_DrawAtPort
  obtain ⟨c0, n1, n2⟩ := new_ok (n := n) code hc hn
  obtain ⟨bays, c1, b1, b2, b3⟩ := drawBays_ok (n := n) n2 hn
  obtain ⟨v3, c2, d1, ⟨d2, d3⟩, d4⟩ := below_ok (n := n) b3 (m := 7) (by omega)
  obtain ⟨l0, c3, f1, f2, f3⟩ := drawStows_ok (n := n) d4 b2 (many := v3) (by omega) hn
  obtain ⟨v5, c4, g1, _, g4⟩ := below_ok (n := n) f3 (m := 4) (by omega)
  rw [n1, Option.bind_some, b1, Option.bind_some]
  dsimp only
  rw [d1, Option.bind_some]
  dsimp only
  rw [f1, Option.bind_some]
  dsimp only
  rw [g1, Option.bind_some]
  dsimp only
  generalize w64 (1 + v5) = port0
  refine loop_runS (enc := fun k (s : List SStow × List SStow) => (k, s.1, s.2)) (s0 := (l0, [])) (I := fun k s => s.1.length = l0.length ∧ s.2.length ≤ k) (Q := fun r => ∃ (bays : List SHatch) (l : List SStow) (port : Int) (plan : List SStow), r = some (bays, l, port, plan) ∧ bays.length ≤ 16 ∧ l.length ≤ 101 ∧ plan.length ≤ 100) (len := l0.length) (fun k s J hk hI => ?_) (fun s J hI => ?_) (by omega) ⟨rfl, Nat.le_refl _⟩
  · obtain ⟨l, st⟩ := s
    obtain ⟨i1, i2⟩ := hI
    dsimp only at i1 i2
    obtain ⟨l', st', h1, h2, h3⟩ := dk2 (n := n) (bays := bays) (port := port0) (i := k) (t9 := c4) (l := l) (st := st) (fun list38 stay39 => (spec_l1Below n c4 (6 : Int)).bind fun r40 => (spec_l12DrawStows n r40.2 bays r40.1).bind fun r41 => loopN (fun (x : Int × Sl1Cur × List SStow) J' => spec_DrawAtPort_L18 n (fun t96 plan97 => (spec_l12Muddle n t96 list38).bind fun r98 => (spec_l1Once n r98.2 (25 : Int)).bind fun r99 => (bif r99.1 then (spec_l1PickInt n r99.2 [(-1 : Int), (0 : Int), (19 : Int), (20 : Int)]).bind fun r100 => some (bays, r98.1, r100.1, plan97) else some (bays, r98.1, port0, plan97))) (fun i109 t110 plan111 => J' (i109, t110, plan111)) bays port0 x.1 x.2.1 list38 stay39 x.2.2 r41.1) n ((0 : Int), r41.2, [])) (fun i112 list113 stay114 => J (i112, list113, stay114)) (by omega) (by omega) (by omega)
    refine ⟨(l', st'), ⟨h2.trans i1, by show st'.length ≤ k + 1; omega⟩, ?_⟩
    show spec_DrawAtPort_L7 n _ (fun i112 list113 stay114 => J (i112, list113, stay114)) bays port0 (k : Int) c4 l st = _
    unfold spec_DrawAtPort_L7
    rw [decide_eq_true (by omega), cond_true]
    exact h1
  · obtain ⟨l, st⟩ := s
    obtain ⟨i1, i2⟩ := hI
    dsimp only at i1 i2
    show ∃ (bays' : List SHatch) (l' : List SStow) (port' : Int) (plan' : List SStow), spec_DrawAtPort_L7 n _ (fun i112 list113 stay114 => J (i112, list113, stay114)) bays port0 (l0.length : Int) c4 l st = some (bays', l', port', plan') ∧ _
    unfold spec_DrawAtPort_L7
    rw [decide_eq_false (by omega), cond_false]
    dsimp only
    obtain ⟨v6, c5, j1, ⟨j2, j3⟩, j4⟩ := below_ok (n := n) g4 (m := 6) (by omega)
    obtain ⟨more, c6, m1, m2, m3⟩ := drawStows_ok (n := n) j4 b2 (many := v6) (by omega) hn
    rw [j1, Option.bind_some]
    dsimp only
    rw [m1, Option.bind_some]
    dsimp only
    refine loop_runS (enc := fun k (s : Sl1Cur × List SStow) => (k, s.1, s.2)) (s0 := (c6, [])) (I := fun k s => CurOk s.1 ∧ s.2.length ≤ k) (Q := fun r => ∃ (bays' : List SHatch) (l' : List SStow) (port' : Int) (plan' : List SStow), r = some (bays', l', port', plan') ∧ bays'.length ≤ 16 ∧ l'.length ≤ 101 ∧ plan'.length ≤ 100) (len := more.length) (fun k s J' hk hI' => ?_) (fun s J' hI' => ?_) (by omega) ⟨m3, Nat.le_refl _⟩
    · obtain ⟨cu, plan⟩ := s
      obtain ⟨k1, k2⟩ := hI'
      dsimp only at k1 k2
      have e : w64 ((k : Int) + 1) = ((k + 1 : Nat) : Int) := w64_succ (by omega)
      obtain ⟨u, cu2, u1, _, u3⟩ := below_ok (n := n) k1 (m := 3) (by omega)
      have hap : ∀ x : SStow, (plan ++ [x]).length ≤ plan.length + 1 := fun x => by rw [List.length_append]; simp
      have hgo : ∃ cu' plan', (CurOk cu' ∧ plan'.length ≤ plan.length + 1) ∧ spec_DrawAtPort_k4 n (fun t96 plan97 => (spec_l12Muddle n t96 l).bind fun r98 => (spec_l1Once n r98.2 (25 : Int)).bind fun r99 => (bif r99.1 then (spec_l1PickInt n r99.2 [(-1 : Int), (0 : Int), (19 : Int), (20 : Int)]).bind fun r100 => some (bays, r98.1, r100.1, plan97) else some (bays, r98.1, port0, plan97))) (fun i109 t110 plan111 => J' (i109, t110, plan111)) bays port0 (k : Int) cu l st plan more = J' (((k + 1 : Nat) : Int), cu', plan') := by
        unfold spec_DrawAtPort_k4
        rw [ix_nat hk, Int.toNat_natCast, chk_dec hk, bd_eq, bd_eq, u1, Option.bind_some]
        dsimp only
        rw [l12At_idx st _ (by omega) hn, Option.bind_some, e]
        generalize decide (idxOf (fun k_1 => spEq (st.getD k_1 dSStow).Spot (more.getD k dSStow).Spot) st.length < 0) = a
        cases a with
        | true =>
          rw [cond_true, bd_eq, chk_dec (by have := hap (⟨(⟨(more.getD k dSStow).Box.Name, (more.getD k dSStow).Box.Weight, (more.getD k dSStow).Box.Class, (more.getD k dSStow).Box.Cold, port0, w64 (w64 (port0 + 1) + u)⟩ : SBox), (more.getD k dSStow).Spot⟩ : SStow); omega)]
          exact ⟨cu2, _, ⟨u3, hap _⟩, rfl⟩
        | false =>
          obtain ⟨o, cu3, o1, o2⟩ := onceB_ok (n := n) u3 (m := 12) (by omega)
          rw [cond_false, o1, Option.bind_some]
          unfold spec_DrawAtPort_k3
          rw [e]
          cases o with
          | false => exact ⟨cu3, plan, ⟨o2, Nat.le_succ _⟩, rfl⟩
          | true =>
            rw [cond_true, bd_eq, chk_dec (by rw [List.length_append]; simp; omega)]
            exact ⟨cu3, _, ⟨o2, hap _⟩, rfl⟩
      obtain ⟨cu', plan', ⟨p1, p2⟩, p3⟩ := hgo
      refine ⟨(cu', plan'), ⟨p1, by show plan'.length ≤ k + 1; omega⟩, ?_⟩
      show spec_DrawAtPort_L18 n _ (fun i109 t110 plan111 => J' (i109, t110, plan111)) bays port0 (k : Int) cu l st plan more = _
      unfold spec_DrawAtPort_L18
      rw [decide_eq_true (by omega), cond_true]
      exact p3
    · obtain ⟨cu, plan⟩ := s
      obtain ⟨k1, k2⟩ := hI'
      dsimp only at k1 k2
      show ∃ (bays' : List SHatch) (l' : List SStow) (port' : Int) (plan' : List SStow), spec_DrawAtPort_L18 n _ (fun i109 t110 plan111 => J' (i109, t110, plan111)) bays port0 (more.length : Int) cu l st plan more = some (bays', l', port', plan') ∧ _
      unfold spec_DrawAtPort_L18
      rw [decide_eq_false (by omega), cond_false]
      dsimp only
      obtain ⟨l', cu2, q1, q2, q3⟩ := muddle_ok (n := n) (l := l) k1 (by omega) hn
      obtain ⟨o, cu3, o1, o2⟩ := onceB_ok (n := n) q3 (m := 25) (by omega)
      rw [q1, Option.bind_some]
      dsimp only
      rw [o1, Option.bind_some]
      have hbl := b2.len
      cases o with
      | false => exact ⟨_, _, _, _, rfl, hbl, q2, by omega⟩
      | true =>
        obtain ⟨u, cu4, u1, u2⟩ := pickIntB_ok (n := n) o2 (l := [-1, 0, 19, 20]) (by decide)
        show ∃ (bays' : List SHatch) (l' : List SStow) (port' : Int) (plan' : List SStow), (bif true then (spec_l1PickInt n cu3 [(-1 : Int), (0 : Int), (19 : Int), (20 : Int)]).bind _ else _) = some (bays', l', port', plan') ∧ _
        rw [cond_true, u1, Option.bind_some]
        exact ⟨_, _, _, _, rfl, hbl, q2, by omega⟩
/-! ### What a call leaves -/
theorem stow0 {n : Nat} {bays : List SHatch} {l : List SStow} (h : (stowV n bays l).1 = 0) : hatchesB bays = true ∧ l.length ≤ 40 ∧ Past n bays l 7 := by
  unfold stowV at h
  cases hb : hatchesB bays with
  | false =>
    rw [hb] at h
    have h : (1 : Int) = 0 := h
    omega
  | true =>
    by_cases hl : l.length ≤ 40
    · rw [hb, decide_eq_true hl] at h
      refine ⟨rfl, hl, past_of fun j hj => ?_⟩
      rcases find_range (fun k => (firstF n bays l k).isSome) 7 with ⟨h1, h2⟩ | ⟨u, h1, h2, h3, h4⟩
      · exact h2 j hj
      · exfalso
        rw [h1] at h
        have h : ((firstF n bays l u).elim ((0 : Int), (0 : Int)) fun i => (((u + 1 : Nat) : Int), (i : Int))).1 = 0 := h
        cases hf : firstF n bays l u with
        | none => rw [hf] at h3; cases h3
        | some i =>
          rw [hf] at h
          have h : ((u + 1 : Nat) : Int) = 0 := h
          omega
    · rw [hb, decide_eq_false hl] at h
      have h : (1 : Int) = 0 := h
      omega
theorem atV_cases {n : Nat} {bays : List SHatch} {l : List SStow} {port : Int} {plan : List SStow} : (∃ x : Int, x ≠ 0 ∧ atV n bays l port plan = (l, 0, x)) ∨ (atV n bays l port plan = (outP port l plan, ((shiftsR l port).1.length : Int), 0) ∧ (stowV n bays l).1 = 0 ∧ (0 ≤ port ∧ port ≤ 19) ∧ (∀ k, k < plan.length → (plan.getD k dSStow).Box.From = port) ∧ (stowV n bays (outP port l plan)).1 = 0) := by
  unfold atV
  by_cases h1 : (stowV n bays l).1 = 0
  · rw [decide_eq_true h1, Bool.not_true, cond_false]
    by_cases h2 : (plan.length : Int) > 40
    · rw [decide_eq_true h2]; exact .inl ⟨1, by decide, rfl⟩
    · rw [decide_eq_false h2, cond_false]
      by_cases h3 : 0 ≤ port ∧ port ≤ 19
      · rw [decide_eq_true h3, Bool.not_true, cond_false]
        unfold walkV
        cases h4 : (List.range l.length).all fun k => goesB port (l.getD k dSStow) with
        | false => exact .inl ⟨2, by decide, rfl⟩
        | true =>
          cases h5 : (List.range plan.length).all fun k => decide ((plan.getD k dSStow).Box.From = port) with
          | false => exact .inl ⟨2, by decide, rfl⟩
          | true =>
            rw [cond_true, cond_true]
            unfold endV
            by_cases h6 : (stowV n bays (outP port l plan)).1 = 0
            · rw [decide_eq_true h6, Bool.not_true, cond_false]
              exact .inr ⟨rfl, rfl.trans h1, h3, fun k hk => of_decide_eq_true (List.all_eq_true.1 h5 k (List.mem_range.2 hk)), h6⟩
            · rw [decide_eq_false h6]; exact .inl ⟨3, by decide, rfl⟩
      · rw [decide_eq_false h3]; exact .inl ⟨1, by decide, rfl⟩
  · rw [decide_eq_false h1]; exact .inl ⟨1, by decide, rfl⟩
theorem boxB_ft {b : SBox} (h : boxB b = true) : b.From < b.To := by
  unfold boxB at h
  simp only [Bool.and_eq_true, decide_eq_true_eq] at h
  exact h.2.2.2.2.1
theorem nd_noDup {l : List SStow} (h : nd l) : noDup l := fun i hi => by
  unfold dupAt
  rw [List.any_eq_false]
  intro x hx
  obtain ⟨u, hu, he⟩ := List.getElem_of_mem hx
  have hu' : u < i ∧ u < l.length := by rw [List.length_take] at hu; omega
  rw [List.getElem_take] at he
  have := h i u hi hu'.1
  rw [getD_eq hu'.2, he] at this
  rw [this]; decide
theorem lifts_mem {l : List SStow} {port x : Int} {m : Nat} (h : x ∈ lifts l port m) : ∃ i : Nat, i < m ∧ x = (i : Int) ∧ liftAt l port i = true := by
  unfold lifts at h
  obtain ⟨i, h1, h2⟩ := List.mem_map.1 h
  obtain ⟨h3, h4⟩ := List.mem_filter.1 h1
  exact ⟨i, List.mem_range.1 h3, h2.symm, h4⟩
def underB (port : Int) (a b : SStow) : Bool := (decide (b.Box.To = port)) && ((decide (b.Spot.Bay = a.Spot.Bay)) && ((decide (b.Spot.Row = a.Spot.Row)) && (decide (b.Spot.Tier < a.Spot.Tier))))
theorem over_loop {n : Nat} {Q : Option Bool → Prop} (kx : Bool → Option Bool) {l : List SStow} {port : Int} {plan : List SStow} {stay i : Int} {out : List SStow} {sh : List Int} {s : SStow} (hl : l.length ≤ 1000) (hn : 1000000000 < n) (hq : Q (kx (l.any (underB port s)))) :
    Q (loopN (fun (x : Bool × Int) J' => laws_FnVoyage_L27 n kx (fun over99 k100 => J' (over99, k100)) l port plan stay i x.1 x.2 out sh s) n (false, (0 : Int))) := by
  refine loop_runS (enc := fun k (b : Bool) => (b, k)) (I := fun k b => b = (l.take k).any (underB port s)) (Q := Q) (len := l.length) (fun k b J hk hI => ⟨_, rfl, ?_⟩) (fun b J hI => ?_) (by omega) rfl
  · have e : w64 ((k : Int) + 1) = ((k + 1 : Nat) : Int) := w64_succ (by omega)
    rw [any_take_succ (d := dSStow) _ hk, ← hI]
    show laws_FnVoyage_L27 n kx (fun over99 k100 => J (over99, k100)) l port plan stay i b (k : Int) out sh s = _
    unfold laws_FnVoyage_L27 laws_FnVoyage_k0
    rw [decide_eq_true (by omega), cond_true, ix_nat hk, bd_eq, Int.toNat_natCast, e]
    unfold underB
    generalize decide ((l.getD k dSStow).Box.To = port) = a1
    generalize decide ((l.getD k dSStow).Spot.Bay = s.Spot.Bay) = a2
    generalize decide ((l.getD k dSStow).Spot.Row = s.Spot.Row) = a3
    generalize decide ((l.getD k dSStow).Spot.Tier < s.Spot.Tier) = a4
    cases b <;> cases a1 <;> cases a2 <;> cases a3 <;> rfl
  · rw [List.take_length] at hI
    show Q (laws_FnVoyage_L27 n kx (fun over99 k100 => J (over99, k100)) l port plan stay i b (l.length : Int) out sh s)
    unfold laws_FnVoyage_L27
    rw [decide_eq_false (by omega), cond_false, hI]
    exact hq
theorem big_ok (n : Nat) (code : List Int) : laws_big n code = some (decide ((code.length : Int) > 1048576)) := rfl
theorem voyage_end {n : Nat} {bays : List SHatch} {l : List SStow} {port : Int} {plan : List SStow} (h1 : (stowV n bays l).1 = 0) (h4 : ∀ k, k < plan.length → (plan.getD k dSStow).Box.From = port) (h5 : (stowV n bays (outP port l plan)).1 = 0) (hpl : plan.length ≤ 100) (hn : 1000000000 < n) :
    laws_FnVoyage_k2 n l port plan (outP port l plan) (lifts l port l.length) = some true := by
  obtain ⟨a1, a2, a3⟩ := stow0 h1
  obtain ⟨b1, b2, b3⟩ := stow0 h5
  have hot : ∀ x ∈ outP port l plan, x.Box.To ≠ port := fun x hx => by
    have hx' : x ∈ kept port l l.length ++ plan := hx
    rcases List.mem_append.1 hx' with h | h
    · unfold kept at h
      have := (List.mem_filter.1 h).2
      intro e
      rw [decide_eq_true e] at this
      cases this
    · obtain ⟨u, u1, u2⟩ := mem_getS h
      obtain ⟨w, w1, w2⟩ := mem_getS hx
      have hb : (!boxB ((outP port l plan).getD w dSStow).Box) = false := b3 0 (by omega) w w1
      rw [w2] at hb
      have hbx : boxB x.Box = true := by
        cases hc : boxB x.Box with
        | true => rfl
        | false => rw [hc] at hb; cases hb
      have := boxB_ft hbx
      have hf := h4 u u1
      rw [u2] at hf
      omega
  have hlift : (lifts l port l.length).length ≤ l.length := lifts_len l port l.length
  unfold laws_FnVoyage_k2
  refine loop_runS (enc := fun k (s : Int) => (s, k)) (I := fun k s => s = ((kept port l k).length : Int)) (Q := fun r => r = some true) (len := l.length) (fun k s J hk hI => ⟨_, rfl, ?_⟩) (fun s J hI => ?_) (by omega) rfl
  · have e : w64 ((k : Int) + 1) = ((k + 1 : Nat) : Int) := w64_succ (by omega)
    have hkl := kept_len port l k
    have e2 : w64 (((kept port l k).length : Int) + 1) = (((kept port l k).length + 1 : Nat) : Int) := w64_succ (by omega)
    show laws_FnVoyage_L17 n _ (fun stay114 i115 => J (stay114, i115)) l port plan s (k : Int) _ _ = _
    unfold laws_FnVoyage_L17
    rw [decide_eq_true (by omega), cond_true, ix_nat hk, bd_eq, Int.toNat_natCast, e, hI, e2, kept_succ port hk, bd_eq]
    generalize decide ((l.getD k dSStow).Box.To = port) = a
    cases a with
    | true => rfl
    | false =>
      show J _ = J (((kept port l k ++ [l.getD k dSStow]).length : Int), _)
      rw [List.length_append]; rfl
  · show laws_FnVoyage_L17 n _ (fun stay114 i115 => J (stay114, i115)) l port plan s (l.length : Int) _ _ = some true
    unfold laws_FnVoyage_L17
    rw [decide_eq_false (by omega), cond_false]
    dsimp only
    refine loop_runS (enc := fun k (_ : Unit) => k) (s0 := ()) (I := fun _ _ => True) (Q := fun r => r = some true) (len := (lifts l port l.length).length) (fun k _ J' hk _ => ⟨(), trivial, ?_⟩) (fun _ J' _ => ?_) (by omega) trivial
    · have e : w64 ((k : Int) + 1) = ((k + 1 : Nat) : Int) := w64_succ (by omega)
      obtain ⟨i, i1, i2, i3⟩ := lifts_mem (getD_mem (d := (0 : Int)) hk)
      rw [liftAt_eq, Bool.and_eq_true, decide_eq_true_eq] at i3
      unfold laws_FnVoyage_L22 laws_FnVoyage_k1
      rw [decide_eq_true (by omega), cond_true, ix_nat hk, Int.toNat_natCast, chk_dec hk, i2, ix_nat i1, bd_eq, Int.toNat_natCast]
      refine over_loop (Q := fun r => r = J' ((k + 1 : Nat) : Int)) _ (by omega) hn ?_
      have hany : l.any (underB port (l.getD i dSStow)) = true := i3.2
      rw [hany, Bool.not_true, cond_false, decide_eq_false (show ¬ (l.getD i dSStow).Box.To ≤ port by have := i3.1; omega), cond_false, e]
    · unfold laws_FnVoyage_L22
      rw [decide_eq_false (by omega), cond_false]
      refine loop_runS (enc := fun k (_ : Unit) => k) (s0 := ()) (I := fun _ _ => True) (Q := fun r => r = some true) (len := (outP port l plan).length) (fun k _ J'' hk _ => ⟨(), trivial, ?_⟩) (fun _ J'' _ => ?_) (by omega) trivial
      · have e : w64 ((k : Int) + 1) = ((k + 1 : Nat) : Int) := w64_succ (by omega)
        unfold laws_FnVoyage_L34
        rw [decide_eq_true (by omega), cond_true, ix_nat hk, Int.toNat_natCast, chk_dec hk, decide_eq_false (hot _ (getD_mem hk)), cond_false, e]
      · unfold laws_FnVoyage_L34
        have hkl := kept_len port l l.length
        have e3 : w64 (s + (plan.length : Int)) = ((outP port l plan).length : Int) := by
          rw [hI, w64_id (by omega) (by omega)]
          unfold outP
          rw [List.length_append]; omega
        rw [decide_eq_false (by omega), cond_false, e3, bd_eq, decide_eq_true rfl]
theorem laws_FnVoyage_true (code0 : List Int) (h0 : (code0.length ≤ 9223372036854775807 ∧ ∀ y ∈ code0, rng 0 255 y)) : ∃ n, laws_FnVoyage n code0 = some true := by
  refine ⟨1000000001, ?_⟩
  generalize hN : (1000000001 : Nat) = n
  have hn : 1000000000 < n := by omega
  unfold laws_FnVoyage
  rw [big_ok, Option.bind_some]
  by_cases hb : (code0.length : Int) > 1048576
  · rw [decide_eq_true hb]; rfl
  rw [decide_eq_false hb, cond_false]
  obtain ⟨bays, l, port, plan, d1, d2, d3, d4⟩ := drawAtPort_ok (n := n) code0 (by omega) hn
  unfold laws_FnVoyage_k4
  rw [d1, Option.bind_some]
  dsimp only
  rw [at_impl bays l port plan (by omega) (by omega) hn, Option.bind_some, stow_impl bays l (by omega) hn, Option.bind_some, stow_spec bays l (by omega) hn, Option.bind_some, decide_eq_true rfl, Bool.not_true, cond_false]
  rcases atV_cases (n := n) (bays := bays) (l := l) (port := port) (plan := plan) with ⟨x, x1, x2⟩ | ⟨x1, x2, x3, x4, x5⟩
  · rw [x2]
    dsimp only
    rw [decide_eq_false x1, Bool.not_false, cond_true, decide_eq_true rfl, cond_true, decide_eq_true rfl]
  · rw [x1]
    dsimp only
    rw [decide_eq_true rfl, Bool.not_true, cond_false]
    obtain ⟨a1, a2, a3⟩ := stow0 x2
    have hsh : shiftsR l port = (lifts l port l.length, true) := by
      unfold shiftsR
      rw [if_pos ⟨a2, x3.1, x3.2, nd_noDup (a3.nd (by omega))⟩]
    unfold laws_FnVoyage_k3
    rw [stow_impl bays _ (by omega) hn, Option.bind_some, impl_Shifts_eq l port (by omega), Option.bind_some, hsh]
    dsimp only
    rw [decide_eq_true x5, Bool.not_true, cond_false, cond_false, decide_eq_true rfl, Bool.not_true, cond_false]
    exact voyage_end x2 x4 x5 d4 hn
end Go.Sm
end
