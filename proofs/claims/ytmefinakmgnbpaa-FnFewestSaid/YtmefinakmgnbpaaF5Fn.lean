import Derived.Test.YtmefinakmgnbpaaEngE
import Derived.Test.YtmefinakmgnbpaaEngA
/- The functions as plain functions over data, and that the law answers true for all arguments. Fewest: no other plan of the same spots holds fewer boxes down. -/
set_option linter.unusedSimpArgs false
set_option linter.deprecated false
set_option linter.unusedSectionVars false
set_option linter.unusedVariables false
noncomputable section
namespace Go.Sm
structure SHatch where
  Rows : Int
  Tiers : Int
  Most : Int
  Plugs : Int
structure SBox where
  Name : ByteArray
  Weight : Int
  Class : Int
  Cold : Bool
  From : Int
  To : Int
structure Sl1Cur where
  b : List Int
  i : Int
  h : Int
structure SSpot where
  Bay : Int
  Row : Int
  Tier : Int
structure SStow where
  Box : SBox
  Spot : SSpot
structure SFn102 where
  ix : Nat
structure SFn112 where
  ix : Nat
  a0 : List SStow
  a1 : List SHatch
structure SAnon113 where
  code : Int
  is : SFn112
def dSHatch : SHatch := ⟨(0 : Int), (0 : Int), (0 : Int), (0 : Int)⟩
def dSBox : SBox := ⟨str [], (0 : Int), (0 : Int), false, (0 : Int), (0 : Int)⟩
def dSl1Cur : Sl1Cur := ⟨[], (0 : Int), (0 : Int)⟩
def dSSpot : SSpot := ⟨(0 : Int), (0 : Int), (0 : Int)⟩
def dSStow : SStow := ⟨dSBox, dSSpot⟩
def dSFn102 : SFn102 := ⟨999⟩
def dSFn112 : SFn112 := ⟨999, [], []⟩
def dSAnon113 : SAnon113 := ⟨(0 : Int), dSFn112⟩
def laws_big (n : Nat) (code0 : List Int) : Option Bool :=
  some ((decide ((code0.length : Int) > (1048576 : Int))))
def spec_l1New_k0 {R : Type} (n : Nat) (kx0 : Int → Option R) (J : Int → Int → Option R) (code2 : List Int) (h8 : Int) (i9 : Int) : Option R :=
  ix i9 code2.length ((bd (w64 ((w64 (h8 * (131 : Int))) + (w64 (code2.getD i9.toNat (0 : Int))))) fun (v10 : Int) => (bd (w64 (((BitVec.ofInt 64 (w64 (v10 + (7 : Int))) &&& BitVec.ofInt 64 (1073741823 : Int)).toNat : Nat) : Int)) fun (v11 : Int) => J v11 (w64 (i9 + (1 : Int))))))
def spec_l1New_L3 {R : Type} (n : Nat) (kx0 : Int → Option R) (J : Int → Int → Option R) (code2 : List Int) (h3 : Int) (i4 : Int) : Option R :=
  (bif (decide (i4 < (code2.length : Int))) then (bif (decide (i4 < (4000 : Int))) then spec_l1New_k0 n kx0 J code2 h3 i4 else kx0 h3) else kx0 h3)
def spec_l1New (n : Nat) (code0 : List Int) : Option Sl1Cur :=
  (bd (w64 ((59059 : Int) + (code0.length : Int))) fun (v1 : Int) => loopN (fun (x : Int × Int) J' => spec_l1New_L3 n (fun h16 => some ((⟨code0, (0 : Int), h16⟩ : Sl1Cur))) (fun h17 i18 => J' (h17, i18)) code0 x.1 x.2) n (v1, (0 : Int)))
def spec_l1Byte (n : Nat) (c0 : Sl1Cur) : Option (Int × Sl1Cur) :=
  (bd (w64 (c0.h * (6364136223846793005 : Int))) fun (v1 : Int) => (bd (w64 (v1 + (1442695040888963407 : Int))) fun (v2 : Int) => (bd (Int.fdiv v2 (2 ^ (min (33 : Int).toNat 64))) fun (v3 : Int) => (bd (Int.fdiv v2 (2 ^ (min (45 : Int).toNat 64))) fun (v4 : Int) => (bd (w64 (((BitVec.ofInt 64 v3 ^^^ BitVec.ofInt 64 v4).toNat : Nat) : Int)) fun (v5 : Int) => (bd (w64 (((BitVec.ofInt 64 v5 &&& BitVec.ofInt 64 (255 : Int)).toNat : Nat) : Int)) fun (v6 : Int) => (bif (decide (c0.i < (c0.b.length : Int))) then ix c0.i c0.b.length ((bd (w64 (v6 + (w64 (c0.b.getD c0.i.toNat (0 : Int))))) fun (v7 : Int) => (bd (w64 (((BitVec.ofInt 64 v7 &&& BitVec.ofInt 64 (255 : Int)).toNat : Nat) : Int)) fun (v8 : Int) => some (v8, (⟨c0.b, (w64 (c0.i + (1 : Int))), v2⟩ : Sl1Cur))))) else some (v6, (⟨c0.b, c0.i, v2⟩ : Sl1Cur)))))))))
def spec_l1Below_k0 (n : Nat)  (n1 : Int) (p3 : Sl1Cur) : Option (Int × Sl1Cur) :=
  (spec_l1Byte n p3).bind fun r4 => (spec_l1Byte n r4.2).bind fun r5 => (spec_l1Byte n r5.2).bind fun r6 => (spec_l1Byte n r6.2).bind fun r7 => (bd (w64 (r4.1 * (16777216 : Int))) fun (v8 : Int) => (bd (w64 (r5.1 * (65536 : Int))) fun (v9 : Int) => (bd (w64 (r6.1 * (256 : Int))) fun (v10 : Int) => (bd (w64 ((w64 (v8 + v9)) + v10)) fun (v11 : Int) => (bif decide (n1 = 0) then none else (bd (Int.tmod (w64 (v11 + r7.1)) n1) fun (v12 : Int) => some (v12, r7.2)))))))
def spec_l1Below (n : Nat) (c0 : Sl1Cur) (n1 : Int) : Option (Int × Sl1Cur) :=
  (bif (decide (n1 ≤ (0 : Int))) then some ((0 : Int), c0) else (bif (decide (n1 ≤ (256 : Int))) then (spec_l1Byte n c0).bind fun r13 => (bif decide (n1 = 0) then none else some ((Int.tmod r13.1 n1), r13.2)) else spec_l1Below_k0 n  n1 c0))
def spec_l1PickInt (n : Nat) (c0 : Sl1Cur) (list1 : List Int) : Option (Int × Sl1Cur) :=
  (spec_l1Below n c0 (list1.length : Int)).bind fun r1 => ix r1.1 list1.length (some ((list1.getD r1.1.toNat (0 : Int)), r1.2))
def spec_l12DrawBays_k0 {R : Type} (n : Nat) (kx0 : Sl1Cur → List SHatch → Option R) (J : Int → Sl1Cur → List SHatch → Option R) (small2 : Bool) (i6 : Int) (p7 : Sl1Cur) (out8 : List SHatch) : Option R :=
  (spec_l1Below n p7 (3 : Int)).bind fun r9 => (spec_l1Below n r9.2 (3 : Int)).bind fun r10 => (bd (w64 ((1 : Int) + r10.1)) fun (v11 : Int) => (spec_l1Below n r10.2 (200 : Int)).bind fun r12 => (bd (w64 ((50 : Int) + r12.1)) fun (v13 : Int) => (spec_l1Below n r12.2 (4 : Int)).bind fun r14 => (bif small2 then (spec_l1Below n r14.2 (2 : Int)).bind fun r15 => (bd (w64 ((1 : Int) + r15.1)) fun (v16 : Int) => (spec_l1Below n r15.2 (2 : Int)).bind fun r17 => (bd (w64 ((1 : Int) + r17.1)) fun (v18 : Int) => (bif (decide ((out8.length : Int) = (2 : Int))) then (bd (out8 ++ [(⟨(1 : Int), (1 : Int), v13, r14.1⟩ : SHatch)]) fun (l28 : List SHatch) => chk (decide (l28.length * 32 ≤ 140737488355328)) (J (w64 (i6 - (1 : Int))) r17.2 l28)) else (bd (out8 ++ [(⟨v16, v18, v13, r14.1⟩ : SHatch)]) fun (l43 : List SHatch) => chk (decide (l43.length * 32 ≤ 140737488355328)) (J (w64 (i6 - (1 : Int))) r17.2 l43))))) else (bd (out8 ++ [(⟨(w64 ((1 : Int) + r9.1)), v11, v13, r14.1⟩ : SHatch)]) fun (l54 : List SHatch) => chk (decide (l54.length * 32 ≤ 140737488355328)) (J (w64 (i6 - (1 : Int))) r14.2 l54)))))
def spec_l12DrawBays_L3 {R : Type} (n : Nat) (kx0 : Sl1Cur → List SHatch → Option R) (J : Int → Sl1Cur → List SHatch → Option R) (small2 : Bool) (i3 : Int) (p4 : Sl1Cur) (out5 : List SHatch) : Option R :=
  (bif (decide (i3 > (0 : Int))) then spec_l12DrawBays_k0 n kx0 J small2 i3 p4 out5 else kx0 p4 out5)
def spec_l12DrawBays_L23 {R : Type} (n : Nat) (kx3 : List SHatch → Option R) (J : Int → List SHatch → Option R) (i77 : Int) (out78 : List SHatch) (p79 : Sl1Cur) : Option R :=
  (bif (decide (i77 < (out78.length : Int))) then ix i77 out78.length (chk (decide (i77.toNat < out78.length)) ((bd (out78.set i77.toNat (⟨(1 : Int), (1 : Int), (500 : Int), (0 : Int)⟩ : SHatch)) fun (l83 : List SHatch) => J (w64 (i77 + (1 : Int))) l83))) else kx3 out78)
def spec_l12DrawBays (n : Nat) (c0 : Sl1Cur) (small1 : Bool) : Option (List SHatch × Sl1Cur) :=
  (spec_l1Below n c0 (3 : Int)).bind fun r1 => loopN (fun (x : Int × Sl1Cur × List SHatch) J' => spec_l12DrawBays_L3 n (fun p58 out59 => (spec_l1Below n p58 (60 : Int)).bind fun r60 => (bif (decide (r60.1 = (0 : Int))) then (spec_l1PickInt n r60.2 [(0 : Int), (6 : Int), (7 : Int)]).bind fun r61 => ix (0 : Int) out59.length (chk (decide (0 < out59.length)) ((bd (out59.getD 0 dSHatch) fun (e62 : SHatch) => (bd (out59.set 0 (⟨r61.1, e62.Tiers, e62.Most, e62.Plugs⟩ : SHatch)) fun (l63 : List SHatch) => some (l63, r61.2))))) else (bif (decide (r60.1 = (1 : Int))) then (spec_l1PickInt n r60.2 [(-1 : Int), (1000000 : Int), (1000001 : Int)]).bind fun r66 => ix (0 : Int) out59.length (chk (decide (0 < out59.length)) ((bd (out59.getD 0 dSHatch) fun (e67 : SHatch) => (bd (out59.set 0 (⟨e67.Rows, e67.Tiers, r66.1, e67.Plugs⟩ : SHatch)) fun (l68 : List SHatch) => some (l68, r66.2))))) else (bif (decide (r60.1 = (2 : Int))) then (spec_l1PickInt n r60.2 [(-1 : Int), (36 : Int), (37 : Int)]).bind fun r71 => ix (0 : Int) out59.length (chk (decide (0 < out59.length)) ((bd (out59.getD 0 dSHatch) fun (e72 : SHatch) => (bd (out59.set 0 (⟨e72.Rows, e72.Tiers, e72.Most, r71.1⟩ : SHatch)) fun (l73 : List SHatch) => some (l73, r71.2))))) else (bif (decide (r60.1 = (3 : Int))) then (spec_l1PickInt n r60.2 [(0 : Int), (6 : Int), (7 : Int)]).bind fun r76 => chk (decide ((0 : Int) ≤ r76.1)) (chk (decide (r76.1 ≤ r76.1)) (chk (decide (r76.1 ≤ 9223372036854775807 ∧ r76.1 * (32 : Int) ≤ 281474976710656)) (loopN (fun (x : Int × List SHatch) J' => spec_l12DrawBays_L23 n (fun out84 => some (out84, r76.2)) (fun i87 out88 => J' (i87, out88)) x.1 x.2 r76.2) n ((0 : Int), (List.replicate r76.1.toNat dSHatch))))) else some (out59, r60.2)))))) (fun i91 p92 out93 => J' (i91, p92, out93)) small1 x.1 x.2.1 x.2.2) n ((w64 ((1 : Int) + r1.1)), r1.2, [])
def spec_l1In (n : Nat) (x0 : Int) (a1 : Int) (b2 : Int) : Option Bool :=
  (bif (decide (x0 ≥ a1)) then some ((decide (x0 ≤ b2))) else some (false))
def spec_l11Letter_L2 {R : Type} (n : Nat) (kx0 : Int → Option R) (J : Int → Int → Option R) (k1 : Int) (x2 : Int) : Option R :=
  (bif (decide (k1 > (0 : Int))) then (bd (Int.tmod (w64 (x2 + (1 : Int))) (11 : Int)) fun (v11 : Int) => (bif (decide (v11 = (0 : Int))) then (bd (w64 ((w64 (x2 + (1 : Int))) + (1 : Int))) fun (v12 : Int) => J (w64 (k1 - (1 : Int))) v12) else J (w64 (k1 - (1 : Int))) (w64 (x2 + (1 : Int))))) else kx0 x2)
def spec_l11Letter (n : Nat) (k0 : Int) : Option Int :=
  loopN (fun (x : Int × Int) J' => spec_l11Letter_L2 n (fun x17 => some (x17)) (fun k18 x19 => J' (k18, x19)) x.1 x.2) n (k0, (10 : Int))
def spec_CheckDigit_k0 {R : Type} (n : Nat) (kx0 : Int → Option R) (kxr : Int → Option R) (J : Int → Int → Option R) (name1 : ByteArray) (sum7 : Int) (i8 : Int) (x9 : Int) (t10 : Bool) : Option R :=
  (bif t10 then (spec_l11Letter n (w64 (x9 - (65 : Int)))).bind fun r11 => chk (decide (0 ≤ i8)) ((bd (w64 (r11 * 2 ^ (min i8.toNat 64))) fun (v18 : Int) => J (w64 (sum7 + v18)) (w64 (i8 + (1 : Int))))) else (bif (decide (i8 ≥ (4 : Int))) then (spec_l1In n x9 (48 : Int) (57 : Int)).bind fun r21 => (bif r21 then chk (decide (0 ≤ i8)) ((bd (w64 ((w64 (x9 - (48 : Int))) * 2 ^ (min i8.toNat 64))) fun (v35 : Int) => J (w64 (sum7 + v35)) (w64 (i8 + (1 : Int))))) else kxr (-1 : Int)) else kxr (-1 : Int)))
def spec_CheckDigit_k1 {R : Type} (n : Nat) (kx0 : Int → Option R) (kxr : Int → Option R) (J : Int → Int → Option R) (name1 : ByteArray) (sum41 : Int) (i42 : Int) (x43 : Int) : Option R :=
  (bif (decide (i42 ≥ (4 : Int))) then (spec_l1In n x43 (48 : Int) (57 : Int)).bind fun r44 => (bif r44 then chk (decide (0 ≤ i42)) ((bd (w64 ((w64 (x43 - (48 : Int))) * 2 ^ (min i42.toNat 64))) fun (v52 : Int) => J (w64 (sum41 + v52)) (w64 (i42 + (1 : Int))))) else kxr (-1 : Int)) else kxr (-1 : Int))
def spec_CheckDigit_k2 {R : Type} (n : Nat) (kx0 : Int → Option R) (kxr : Int → Option R) (J : Int → Int → Option R) (name1 : ByteArray) (sum4 : Int) (i5 : Int) : Option R :=
  ix i5 name1.size ((bif (decide (i5 < (4 : Int))) then (spec_l1In n (w64 (byteAt name1 i5.toNat)) (65 : Int) (90 : Int)).bind fun r6 => spec_CheckDigit_k0 n kx0 kxr J name1 sum4 i5 (w64 (byteAt name1 i5.toNat)) r6 else spec_CheckDigit_k1 n kx0 kxr J name1 sum4 i5 (w64 (byteAt name1 i5.toNat))))
def spec_CheckDigit_L5 {R : Type} (n : Nat) (kx0 : Int → Option R) (kxr : Int → Option R) (J : Int → Int → Option R) (name1 : ByteArray) (sum2 : Int) (i3 : Int) : Option R :=
  (bif (decide (i3 < (10 : Int))) then spec_CheckDigit_k2 n kx0 kxr J name1 sum2 i3 else kx0 sum2)
def spec_CheckDigit_k3 (n : Nat)  (name0 : ByteArray) : Option Int :=
  loopN (fun (x : Int × Int) J' => spec_CheckDigit_L5 n (fun sum58 => (bd (Int.tmod sum58 (11 : Int)) fun (v59 : Int) => (bd (Int.tmod v59 (10 : Int)) fun (v60 : Int) => some (v60)))) (fun t61 => some (t61)) (fun sum62 i63 => J' (sum62, i63)) name0 x.1 x.2) n ((0 : Int), (0 : Int))
def spec_CheckDigit (n : Nat) (name0 : ByteArray) : Option Int :=
  (bif (!(decide ((name0.size : Int) = (10 : Int)))) then some ((-1 : Int)) else spec_CheckDigit_k3 n  name0)
def spec_l11DrawName_L3 {R : Type} (n : Nat) (kx0 : Sl1Cur → List Int → Option R) (J : Int → Sl1Cur → List Int → Option R) (i1 : Int) (p2 : Sl1Cur) (b3 : List Int) : Option R :=
  (bif (decide (i1 < (4 : Int))) then (spec_l1Below n p2 (26 : Int)).bind fun r9 => (bd (w64 ((65 : Int) + r9.1)) fun (v10 : Int) => chk (decide ((b3 ++ [(wu8 v10)]).length * 1 ≤ 140737488355328)) (J (w64 (i1 + (1 : Int))) r9.2 (b3 ++ [(wu8 v10)]))) else kx0 p2 b3)
def spec_l11DrawName_L7 {R : Type} (n : Nat) (kx2 : List Int → Sl1Cur → Option R) (J : Int → Sl1Cur → List Int → Option R) (i13 : Int) (p14 : Sl1Cur) (b15 : List Int) : Option R :=
  (bif (decide (i13 < (6 : Int))) then (spec_l1Below n p14 (10 : Int)).bind fun r21 => (bd (w64 ((48 : Int) + r21.1)) fun (v22 : Int) => chk (decide ((b15 ++ [(wu8 v22)]).length * 1 ≤ 140737488355328)) (J (w64 (i13 + (1 : Int))) r21.2 (b15 ++ [(wu8 v22)]))) else kx2 b15 p14)
def spec_l11DrawName (n : Nat) (c0 : Sl1Cur) : Option (ByteArray × Sl1Cur) :=
  loopN (fun (x : Int × Sl1Cur × List Int) J' => spec_l11DrawName_L3 n (fun p11 b12 => loopN (fun (x : Int × Sl1Cur × List Int) J' => spec_l11DrawName_L7 n (fun b23 p24 => (spec_CheckDigit n (bstr b23)).bind fun r25 => (bd (b23 ++ [(wu8 (w64 ((48 : Int) + r25)))]) fun (l26 : List Int) => chk (decide (l26.length * 1 ≤ 140737488355328)) (some ((bstr l26), p24)))) (fun i27 p28 b29 => J' (i27, p28, b29)) x.1 x.2.1 x.2.2) n ((0 : Int), p11, b12)) (fun i30 p31 b32 => J' (i30, p31, b32)) x.1 x.2.1 x.2.2) n ((0 : Int), c0, [])
def spec_l1Once (n : Nat) (c0 : Sl1Cur) (n1 : Int) : Option (Bool × Sl1Cur) :=
  (spec_l1Below n c0 n1).bind fun r1 => some ((decide (r1.1 = (0 : Int))), r1.2)
def spec_l11Draw (n : Nat) (c0 : Sl1Cur) : Option (SBox × Sl1Cur) :=
  (spec_l1Below n c0 (4 : Int)).bind fun r1 => (spec_l11DrawName n r1.2).bind fun r2 => (spec_l1Below n r2.2 (30 : Int)).bind fun r3 => (spec_l1Below n r3.2 (4 : Int)).bind fun r4 => (bd (w64 ((w64 (r1.1 + (1 : Int))) + r4.1)) fun (v5 : Int) => (spec_l1Once n r4.2 (4 : Int)).bind fun r6 => (bif r6.1 then (spec_l1Below n r6.2 (10 : Int)).bind fun r7 => (spec_l1Once n r7.2 (8 : Int)).bind fun r15 => some ((⟨r2.1, (w64 ((1 : Int) + r3.1)), r7.1, r15.1, r1.1, v5⟩ : SBox), r15.2) else (spec_l1Once n r6.2 (8 : Int)).bind fun r22 => some ((⟨r2.1, (w64 ((1 : Int) + r3.1)), (0 : Int), r22.1, r1.1, v5⟩ : SBox), r22.2)))
def spec_l1Pick (n : Nat) (c0 : Sl1Cur) (list1 : List ByteArray) : Option (ByteArray × Sl1Cur) :=
  (spec_l1Below n c0 (list1.length : Int)).bind fun r1 => ix r1.1 list1.length (some ((list1.getD r1.1.toNat (str [])), r1.2))
def spec_l11DrawText (n : Nat) (c0 : Sl1Cur) : Option (ByteArray × Sl1Cur) :=
  (spec_l11DrawName n c0).bind fun r1 => (spec_l1Below n r1.2 ((strb r1.1).length : Int)).bind fun r2 => (spec_l1Below n r2.2 (5 : Int)).bind fun r3 => (bif (decide (r3.1 = (0 : Int))) then (spec_l1Pick n r3.2 [str [97], str [48], str [90], str [32], str [53], str [75]]).bind fun r4 => ix (0 : Int) r4.1.size (ix r2.1 ((strb r1.1).length) (chk (decide (r2.1.toNat < (strb r1.1).length)) ((bd ((strb r1.1).set r2.1.toNat (byteAt r4.1 0)) fun (l5 : List Int) => some ((bstr l5), r4.2))))) else (bif (decide (r3.1 = (1 : Int))) then (bd ((strb r1.1) ++ [(48 : Int)]) fun (l8 : List Int) => chk (decide (l8.length * 1 ≤ 140737488355328)) (some ((bstr l8), r3.2))) else (bif (decide (r3.1 = (2 : Int))) then chk (decide ((0 : Int) ≤ r2.1)) (chk (decide (r2.1 ≤ ((strb r1.1).length : Int))) (chk (decide ((0 + (r2.1.toNat - 0)) ≤ (strb r1.1).length)) (some ((bstr (((strb r1.1).drop 0).take (r2.1.toNat - 0))), r3.2)))) else (bif (decide (r3.1 = (3 : Int))) then (spec_l1Below n r3.2 (10 : Int)).bind fun r14 => (bd (w64 ((48 : Int) + r14.1)) fun (v15 : Int) => ix (10 : Int) ((strb r1.1).length) (chk (decide (10 < (strb r1.1).length)) ((bd ((strb r1.1).set 10 (wu8 v15)) fun (l16 : List Int) => some ((bstr l16), r14.2))))) else some ((bstr (strb r1.1)), r3.2)))))
def spec_l11DrawAny (n : Nat) (c0 : Sl1Cur) : Option (SBox × Sl1Cur) :=
  (spec_l11Draw n c0).bind fun r1 => (spec_l1Below n r1.2 (30 : Int)).bind fun r2 => (bif (decide (r2.1 = (0 : Int))) then (spec_l11DrawText n r2.2).bind fun r3 => some ((⟨r3.1, r1.1.Weight, r1.1.Class, r1.1.Cold, r1.1.From, r1.1.To⟩ : SBox), r3.2) else (bif (decide (r2.1 = (1 : Int))) then (spec_l1PickInt n r2.2 [(0 : Int), (40000 : Int), (40001 : Int), (-1 : Int)]).bind fun r11 => some ((⟨r1.1.Name, r11.1, r1.1.Class, r1.1.Cold, r1.1.From, r1.1.To⟩ : SBox), r11.2) else (bif (decide (r2.1 = (2 : Int))) then (spec_l1PickInt n r2.2 [(-1 : Int), (9 : Int), (10 : Int)]).bind fun r19 => some ((⟨r1.1.Name, r1.1.Weight, r19.1, r1.1.Cold, r1.1.From, r1.1.To⟩ : SBox), r19.2) else (bif (decide (r2.1 = (3 : Int))) then (spec_l1PickInt n r2.2 [(-1 : Int), (18 : Int), (19 : Int)]).bind fun r27 => some ((⟨r1.1.Name, r1.1.Weight, r1.1.Class, r1.1.Cold, r27.1, r1.1.To⟩ : SBox), r27.2) else (bif (decide (r2.1 = (4 : Int))) then (spec_l1PickInt n r2.2 [(0 : Int), (19 : Int), (20 : Int)]).bind fun r35 => some ((⟨r1.1.Name, r1.1.Weight, r1.1.Class, r1.1.Cold, r1.1.From, r35.1⟩ : SBox), r35.2) else some (r1.1, r2.2))))))
def spec_DrawFewest_k0 {R : Type} (n : Nat) (kx0 : Sl1Cur → List SBox → Option R) (J : Int → Sl1Cur → List SBox → Option R) (i8 : Int) (t9 : Sl1Cur) (bays6 : List SHatch) (boxes10 : List SBox) : Option R :=
  (spec_l11Draw n t9).bind fun r11 => (spec_l1Below n r11.2 (3 : Int)).bind fun r12 => (bd (w64 ((1 : Int) + r12.1)) fun (v13 : Int) => (spec_l1Below n r12.2 (2 : Int)).bind fun r14 => (bd (w64 (r11.1.Class * r14.1)) fun (v15 : Int) => (bd (boxes10 ++ [(⟨r11.1.Name, v13, v15, r11.1.Cold, r11.1.From, r11.1.To⟩ : SBox)]) fun (l16 : List SBox) => chk (decide (l16.length * 56 ≤ 140737488355328)) (J (w64 (i8 - (1 : Int))) r14.2 l16))))
def spec_DrawFewest_L5 {R : Type} (n : Nat) (kx0 : Sl1Cur → List SBox → Option R) (J : Int → Sl1Cur → List SBox → Option R) (i4 : Int) (t5 : Sl1Cur) (bays6 : List SHatch) (boxes7 : List SBox) : Option R :=
  (bif (decide (i4 > (0 : Int))) then spec_DrawFewest_k0 n kx0 J i4 t5 bays6 boxes7 else kx0 t5 boxes7)
def spec_DrawFewest (n : Nat) (code0 : List Int) : Option (List SHatch × List SBox) :=
  (spec_l1New n code0).bind fun r1 => (spec_l12DrawBays n r1 true).bind fun r2 => (spec_l1Below n r2.2 (5 : Int)).bind fun r3 => loopN (fun (x : Int × Sl1Cur × List SBox) J' => spec_DrawFewest_L5 n (fun t17 boxes18 => (spec_l1Below n t17 (30 : Int)).bind fun r19 => (bif (decide (r19.1 = (0 : Int))) then (spec_l11DrawAny n r19.2).bind fun r20 => chk (decide ((boxes18 ++ [r20.1]).length * 56 ≤ 140737488355328)) (some (r2.1, (boxes18 ++ [r20.1]))) else (bif (decide (r19.1 = (1 : Int))) then chk (decide ((boxes18 ++ boxes18).length * 56 ≤ 140737488355328)) (some (r2.1, (boxes18 ++ boxes18))) else some (r2.1, boxes18)))) (fun i27 t28 boxes29 => J' (i27, t28, boxes29)) x.1 x.2.1 r2.1 x.2.2) n (r3.1, r3.2, [])
def impl_in (n : Nat) (n0 : Int) (least1 : Int) (most2 : Int) : Option Bool :=
  (bif (decide (n0 ≥ least1)) then some ((decide (n0 ≤ most2))) else some (false))
def impl_HatchesOk_1 (n : Nat) (h0 : SHatch) : Option Bool :=
  (impl_in n h0.Rows (1 : Int) (6 : Int)).bind fun r1 => (bif (!r1) then some (true) else (impl_in n h0.Tiers (1 : Int) (6 : Int)).bind fun r2 => (bif (!r2) then some (true) else (impl_in n h0.Most (0 : Int) (1000000 : Int)).bind fun r3 => (bif (!r3) then some (true) else (impl_in n h0.Plugs (0 : Int) (36 : Int)).bind fun r4 => some ((!r4)))))
def sIndex_HatchesOk_1_L2 {R : Type} (n : Nat) (kx0 : Option R) (kxr : Int → Option R) (J : Int → Option R) (s1 : List SHatch) (t2 : Int) (t3 : Int) : Option R :=
  (bif (decide (t3 < t2)) then ix t3 s1.length ((bd (s1.getD t3.toNat dSHatch) fun (e8 : SHatch) => (impl_HatchesOk_1 n e8).bind fun r9 => (bif r9 then kxr t3 else J (w64 (t3 + (1 : Int)))))) else kx0)
def sIndex_HatchesOk_1 (n : Nat) (s0 : List SHatch) : Option Int :=
  loopN (fun (x : Int) J' => sIndex_HatchesOk_1_L2 n (some ((-1 : Int))) (fun t11 => some (t11)) J' s0 (s0.length : Int) x) n ((0 : Int))
def sContains_HatchesOk_1 (n : Nat) (s0 : List SHatch) : Option Bool :=
  (sIndex_HatchesOk_1 n s0).bind fun r1 => some ((decide (r1 ≥ (0 : Int))))
def impl_HatchesOk (n : Nat) (bays0 : List SHatch) : Option Bool :=
  (impl_in n (bays0.length : Int) (1 : Int) (6 : Int)).bind fun r1 => (bif r1 then (sContains_HatchesOk_1 n bays0).bind fun r2 => some ((!r2)) else some (false))
def impl_valueOf_L3 {R : Type} (n : Nat) (kx0 : Int → Option R) (J : Int → Int → Option R) (c1 : Int) (n2 : Int) (k3 : Int) : Option R :=
  (bif (decide (k3 < c1)) then (bd (Int.tmod (w64 (n2 + (1 : Int))) (11 : Int)) fun (v12 : Int) => (bif (decide (v12 = (0 : Int))) then (bd (w64 ((w64 (n2 + (1 : Int))) + (1 : Int))) fun (v13 : Int) => J v13 (wu8 (k3 + (1 : Int)))) else J (w64 (n2 + (1 : Int))) (wu8 (k3 + (1 : Int))))) else kx0 n2)
def impl_valueOf (n : Nat) (c0 : Int) : Option Int :=
  loopN (fun (x : Int × Int) J' => impl_valueOf_L3 n (fun n18 => some (n18)) (fun n19 k20 => J' (n19, k20)) c0 x.1 x.2) n ((10 : Int), (65 : Int))
def impl_CheckDigit_k0 {R : Type} (n : Nat) (kx0 : Int → Option R) (kxr : Int → Option R) (J : Int → Int → Option R) (name1 : ByteArray) (sum6 : Int) (i7 : Int) (c8 : Int) (t9 : Int) (t10 : Bool) : Option R :=
  (bif t10 then (impl_valueOf n c8).bind fun r11 => chk (decide (0 ≤ i7)) ((bd (w64 (r11 * 2 ^ (min i7.toNat 64))) fun (v19 : Int) => J (w64 (sum6 + v19)) (w64 (t9 + (1 : Int))))) else (bif (decide (i7 ≥ (4 : Int))) then (bif (decide (c8 ≥ (48 : Int))) then (bif (decide (c8 ≤ (57 : Int))) then chk (decide (0 ≤ i7)) ((bd (w64 ((w64 (wu8 (c8 - (48 : Int)))) * 2 ^ (min i7.toNat 64))) fun (v38 : Int) => J (w64 (sum6 + v38)) (w64 (t9 + (1 : Int))))) else kxr (-1 : Int)) else kxr (-1 : Int)) else kxr (-1 : Int)))
def impl_CheckDigit_k1 {R : Type} (n : Nat) (kx0 : Int → Option R) (kxr : Int → Option R) (J : Int → Int → Option R) (name1 : ByteArray) (sum49 : Int) (i50 : Int) (c51 : Int) (t52 : Int) : Option R :=
  (bif (decide (i50 ≥ (4 : Int))) then (bif (decide (c51 ≥ (48 : Int))) then (bif (decide (c51 ≤ (57 : Int))) then chk (decide (0 ≤ i50)) ((bd (w64 ((w64 (wu8 (c51 - (48 : Int)))) * 2 ^ (min i50.toNat 64))) fun (v62 : Int) => J (w64 (sum49 + v62)) (w64 (t52 + (1 : Int))))) else kxr (-1 : Int)) else kxr (-1 : Int)) else kxr (-1 : Int))
def impl_CheckDigit_k2 {R : Type} (n : Nat) (kx0 : Int → Option R) (kxr : Int → Option R) (J : Int → Int → Option R) (name1 : ByteArray) (sum4 : Int) (t5 : Int) : Option R :=
  ix t5 name1.size ((bif (decide (t5 < (4 : Int))) then (bif (decide ((byteAt name1 t5.toNat) ≥ (65 : Int))) then impl_CheckDigit_k0 n kx0 kxr J name1 sum4 t5 (byteAt name1 t5.toNat) t5 (decide ((byteAt name1 t5.toNat) ≤ (90 : Int))) else impl_CheckDigit_k1 n kx0 kxr J name1 sum4 t5 (byteAt name1 t5.toNat) t5) else impl_CheckDigit_k1 n kx0 kxr J name1 sum4 t5 (byteAt name1 t5.toNat) t5))
def impl_CheckDigit_L5 {R : Type} (n : Nat) (kx0 : Int → Option R) (kxr : Int → Option R) (J : Int → Int → Option R) (name1 : ByteArray) (sum2 : Int) (t3 : Int) : Option R :=
  (bif (decide (t3 < (10 : Int))) then impl_CheckDigit_k2 n kx0 kxr J name1 sum2 t3 else kx0 sum2)
def impl_CheckDigit_k3 (n : Nat)  (name0 : ByteArray) : Option Int :=
  loopN (fun (x : Int × Int) J' => impl_CheckDigit_L5 n (fun sum77 => (bd (Int.tmod sum77 (11 : Int)) fun (v78 : Int) => (bd (Int.tmod v78 (10 : Int)) fun (v79 : Int) => some (v79)))) (fun t80 => some (t80)) (fun sum81 t82 => J' (sum81, t82)) name0 x.1 x.2) n ((0 : Int), (0 : Int))
def impl_CheckDigit (n : Nat) (name0 : ByteArray) : Option Int :=
  (bif (!(decide ((name0.size : Int) = (10 : Int)))) then some ((-1 : Int)) else impl_CheckDigit_k3 n  name0)
def impl_BoxName (n : Nat) (text0 : ByteArray) : Option Bool :=
  (bif (!(decide ((text0.size : Int) = (11 : Int)))) then some (false) else chk (decide ((10 : Int) ≤ (text0.size : Int))) ((impl_CheckDigit n (text0.extract 0 10)).bind fun r3 => (bif (decide (r3 ≥ (0 : Int))) then ix (10 : Int) text0.size (some ((decide ((byteAt text0 10) = (wu8 (w64 ((48 : Int) + r3))))))) else some (false))))
def impl_portOk (n : Nat) (n0 : Int) : Option Bool :=
  (impl_in n n0 (0 : Int) (19 : Int)).bind fun r1 => some (r1)
def impl_BoxOk (n : Nat) (b0 : SBox) : Option Bool :=
  (impl_BoxName n b0.Name).bind fun r1 => (bif r1 then (impl_in n b0.Weight (1 : Int) (40000 : Int)).bind fun r2 => (bif r2 then (impl_in n b0.Class (0 : Int) (9 : Int)).bind fun r3 => (bif r3 then (impl_portOk n b0.From).bind fun r4 => (bif r4 then (impl_portOk n b0.To).bind fun r5 => (bif r5 then some ((decide (b0.From < b0.To))) else some (false)) else some (false)) else some (false)) else some (false)) else some (false))
def impl_Fewest_1 (n : Nat) (x0 : SBox) (a1 : SBox) : Option Bool :=
  some ((decide (x0.Name = a1.Name)))
def sIndex_Fewest_1_L2 {R : Type} (n : Nat) (kx0 : Option R) (kxr : Int → Option R) (J : Int → Option R) (s1 : List SBox) (f2 : SBox) (t3 : Int) (t4 : Int) : Option R :=
  (bif (decide (t4 < t3)) then ix t4 s1.length ((bd (s1.getD t4.toNat dSBox) fun (e9 : SBox) => (impl_Fewest_1 n e9 f2).bind fun r10 => (bif r10 then kxr t4 else J (w64 (t4 + (1 : Int)))))) else kx0)
def sIndex_Fewest_1 (n : Nat) (s0 : List SBox) (f1c0 : SBox) : Option Int :=
  loopN (fun (x : Int) J' => sIndex_Fewest_1_L2 n (some ((-1 : Int))) (fun t12 => some (t12)) J' s0 f1c0 (s0.length : Int) x) n ((0 : Int))
def sContains_Fewest_1 (n : Nat) (s0 : List SBox) (f1c0 : SBox) : Option Bool :=
  (sIndex_Fewest_1 n s0 f1c0).bind fun r1 => some ((decide (r1 ≥ (0 : Int))))
def impl_StowCode_1 (n : Nat) (_0 : Int) (s1 : SStow) : Option Bool :=
  (impl_BoxOk n s1.Box).bind fun r1 => some ((!r1))
def impl_StowCode_2_1 (n : Nat) (x0 : SStow) (a1 : SStow) : Option Bool :=
  (bif (decide (x0.Box.Name = a1.Box.Name)) then some (true) else some (((decide (x0.Spot.Bay = a1.Spot.Bay)) && ((decide (x0.Spot.Row = a1.Spot.Row)) && (decide (x0.Spot.Tier = a1.Spot.Tier))))))
def sIndex_StowCode_2_1_L2 {R : Type} (n : Nat) (kx0 : Option R) (kxr : Int → Option R) (J : Int → Option R) (s1 : List SStow) (f2 : SStow) (t3 : Int) (t4 : Int) : Option R :=
  (bif (decide (t4 < t3)) then ix t4 s1.length ((bd (s1.getD t4.toNat dSStow) fun (e9 : SStow) => (impl_StowCode_2_1 n e9 f2).bind fun r10 => (bif r10 then kxr t4 else J (w64 (t4 + (1 : Int)))))) else kx0)
def sIndex_StowCode_2_1 (n : Nat) (s0 : List SStow) (f1c0 : SStow) : Option Int :=
  loopN (fun (x : Int) J' => sIndex_StowCode_2_1_L2 n (some ((-1 : Int))) (fun t12 => some (t12)) J' s0 f1c0 (s0.length : Int) x) n ((0 : Int))
def sContains_StowCode_2_1 (n : Nat) (s0 : List SStow) (f1c0 : SStow) : Option Bool :=
  (sIndex_StowCode_2_1 n s0 f1c0).bind fun r1 => some ((decide (r1 ≥ (0 : Int))))
def impl_StowCode_2 (n : Nat) (i0 : Int) (s1 : SStow) (a2 : List SStow) : Option Bool :=
  chk (decide ((0 : Int) ≤ i0)) (chk (decide (i0 ≤ (a2.length : Int))) ((sContains_StowCode_2_1 n (a2.take i0.toNat) s1).bind fun r1 => some (r1)))
def impl_StowCode_3 (n : Nat) (_0 : Int) (s1 : SStow) (a2 : List SHatch) : Option Bool :=
  (bd (w64 ((a2.length : Int) - (1 : Int))) fun (v1 : Int) => (impl_in n s1.Spot.Bay (0 : Int) v1).bind fun r2 => (bif (!r2) then some (true) else ix s1.Spot.Bay a2.length ((bd (a2.getD s1.Spot.Bay.toNat dSHatch) fun (e3 : SHatch) => (bd (w64 (e3.Rows - (1 : Int))) fun (v4 : Int) => (impl_in n s1.Spot.Row (0 : Int) v4).bind fun r5 => (bif (!r5) then some (true) else ix s1.Spot.Bay a2.length ((bd (a2.getD s1.Spot.Bay.toNat dSHatch) fun (e6 : SHatch) => (bd (w64 (e6.Tiers - (1 : Int))) fun (v7 : Int) => (impl_in n s1.Spot.Tier (0 : Int) v7).bind fun r8 => some ((!r8)))))))))))
def impl_StowCode_4_1 (n : Nat) (x0 : SStow) (a1 : SSpot) : Option Bool :=
  some (((decide (x0.Spot.Bay = a1.Bay)) && ((decide (x0.Spot.Row = a1.Row)) && (decide (x0.Spot.Tier = a1.Tier)))))
def sIndex_StowCode_4_1_L2 {R : Type} (n : Nat) (kx0 : Option R) (kxr : Int → Option R) (J : Int → Option R) (s1 : List SStow) (f2 : SSpot) (t3 : Int) (t4 : Int) : Option R :=
  (bif (decide (t4 < t3)) then ix t4 s1.length ((bd (s1.getD t4.toNat dSStow) fun (e9 : SStow) => (impl_StowCode_4_1 n e9 f2).bind fun r10 => (bif r10 then kxr t4 else J (w64 (t4 + (1 : Int)))))) else kx0)
def sIndex_StowCode_4_1 (n : Nat) (s0 : List SStow) (f1c0 : SSpot) : Option Int :=
  loopN (fun (x : Int) J' => sIndex_StowCode_4_1_L2 n (some ((-1 : Int))) (fun t12 => some (t12)) J' s0 f1c0 (s0.length : Int) x) n ((0 : Int))
def sContains_StowCode_4_1 (n : Nat) (s0 : List SStow) (f1c0 : SSpot) : Option Bool :=
  (sIndex_StowCode_4_1 n s0 f1c0).bind fun r1 => some ((decide (r1 ≥ (0 : Int))))
def impl_StowCode_4 (n : Nat) (_0 : Int) (s1 : SStow) (a2 : List SStow) : Option Bool :=
  (bd (w64 (s1.Spot.Tier - (1 : Int))) fun (v1 : Int) => (bif (decide (v1 ≥ (0 : Int))) then (sContains_StowCode_4_1 n a2 (⟨s1.Spot.Bay, s1.Spot.Row, v1⟩ : SSpot)).bind fun r2 => some ((!r2)) else some (false)))
def cmp_isNaN_int (n : Nat) (x0 : Int) : Option Bool :=
  some ((!(decide (x0 = x0))))
def cmp_Compare_int (n : Nat) (x0 : Int) (y1 : Int) : Option Int :=
  (cmp_isNaN_int n x0).bind fun r1 => (cmp_isNaN_int n y1).bind fun r2 => (bif r1 then (bif r2 then some ((0 : Int)) else some ((-1 : Int))) else (bif r2 then some ((1 : Int)) else (bif (decide (x0 < y1)) then some ((-1 : Int)) else (bif (decide (x0 > y1)) then some ((1 : Int)) else some ((0 : Int))))))
def impl_stackOf_1 (n : Nat) (a0 : SStow) (b1 : SStow) : Option Int :=
  (cmp_Compare_int n a0.Spot.Tier b1.Spot.Tier).bind fun r1 => some (r1)
def sSort_stackOf_1 (n : Nat) (l0 : List SStow) : Option (List SStow) :=
  sortL dSStow (fun a b => impl_stackOf_1 n a b) l0
def impl_stackOf_k0 {R : Type} (n : Nat) (kx0 : List SStow → Option R) (J : Int → List SStow → Option R) (bay1 : Int) (row2 : Int) (t3 : List SStow) (t4 : Int) (t7 : Int) (l8 : List SStow) : Option R :=
  ix t7 t3.length ((bd (t3.getD t7.toNat dSStow) fun (e9 : SStow) => (bif (decide (e9.Spot.Bay = bay1)) then (bif (decide (e9.Spot.Row = row2)) then chk (decide ((l8 ++ [e9]).length * 80 ≤ 140737488355328)) (J (w64 (t7 + (1 : Int))) (l8 ++ [e9])) else J (w64 (t7 + (1 : Int))) l8) else J (w64 (t7 + (1 : Int))) l8)))
def impl_stackOf_L3 {R : Type} (n : Nat) (kx0 : List SStow → Option R) (J : Int → List SStow → Option R) (bay1 : Int) (row2 : Int) (t3 : List SStow) (t4 : Int) (t5 : Int) (l6 : List SStow) : Option R :=
  (bif (decide (t5 < t4)) then impl_stackOf_k0 n kx0 J bay1 row2 t3 t4 t5 l6 else kx0 l6)
def impl_stackOf_L11 {R : Type} (n : Nat) (kx2 : List SBox → Option R) (J : Int → List SBox → Option R) (t31 : Int) (t32 : Int) (out33 : List SBox) (t34 : List SStow) : Option R :=
  (bif (decide (t32 < t31)) then ix t32 t34.length (chk (decide (t32.toNat < t34.length)) ((bd (t34.getD t32.toNat dSStow) fun (e38 : SStow) => chk (decide ((out33 ++ [e38.Box]).length * 56 ≤ 140737488355328)) (J (w64 (t32 + (1 : Int))) (out33 ++ [e38.Box]))))) else kx2 out33)
def impl_stackOf (n : Nat) (list0 : List SStow) (bay1 : Int) (row2 : Int) : Option (List SBox) :=
  loopN (fun (x : Int × List SStow) J' => impl_stackOf_L3 n (fun l29 => (sSort_stackOf_1 n l29).bind fun r30 => loopN (fun (x : Int × List SBox) J' => impl_stackOf_L11 n (fun out39 => some (out39)) (fun t40 out41 => J' (t40, out41)) (r30.length : Int) x.1 x.2 r30) n ((0 : Int), [])) (fun t42 l43 => J' (t42, l43)) bay1 row2 list0 (list0.length : Int) x.1 x.2) n ((0 : Int), [])
def impl_StackOk_k0 {R : Type} (n : Nat) (kx0 : Int → Option R) (kxr : Bool → Option R) (J : Int → Int → Option R) (boxes3 : List SBox) (most4 : Int) (sum9 : Int) (t6 : List SBox) (t7 : Int) (t10 : Int) : Option R :=
  ix t10 t6.length ((bd (t6.getD t10.toNat dSBox) fun (e11 : SBox) => (impl_BoxOk n e11).bind fun r12 => (bif (!r12) then kxr false else (bif (decide (t10 > (0 : Int))) then ix (w64 (t10 - (1 : Int))) boxes3.length ((bd (boxes3.getD ((w64 (t10 - (1 : Int))).toNat) dSBox) fun (e16 : SBox) => (bif (decide (e11.Weight > e16.Weight)) then kxr false else (bif e11.Cold then (bif (decide (t10 > (1 : Int))) then kxr false else (bd (w64 (sum9 + e11.Weight)) fun (v36 : Int) => J v36 (w64 (t10 + (1 : Int))))) else (bd (w64 (sum9 + e11.Weight)) fun (v51 : Int) => J v51 (w64 (t10 + (1 : Int)))))))) else (bif e11.Cold then (bif (decide (t10 > (1 : Int))) then kxr false else (bd (w64 (sum9 + e11.Weight)) fun (v61 : Int) => J v61 (w64 (t10 + (1 : Int))))) else (bd (w64 (sum9 + e11.Weight)) fun (v70 : Int) => J v70 (w64 (t10 + (1 : Int)))))))))
def impl_StackOk_L5 {R : Type} (n : Nat) (kx0 : Int → Option R) (kxr : Bool → Option R) (J : Int → Int → Option R) (boxes3 : List SBox) (most4 : Int) (sum5 : Int) (t6 : List SBox) (t7 : Int) (t8 : Int) : Option R :=
  (bif (decide (t8 < t7)) then impl_StackOk_k0 n kx0 kxr J boxes3 most4 sum5 t6 t7 t8 else kx0 sum5)
def impl_StackOk (n : Nat) (boxes0 : List SBox) (most1 : Int) : Option Bool :=
  (bif (decide ((boxes0.length : Int) > (20 : Int))) then some (false) else (impl_in n most1 (0 : Int) (1000000 : Int)).bind fun r1 => (bif (!r1) then some (false) else loopN (fun (x : Int × Int) J' => impl_StackOk_L5 n (fun sum81 => some ((decide (sum81 ≤ most1)))) (fun t82 => some (t82)) (fun sum83 t84 => J' (sum83, t84)) boxes0 most1 x.1 boxes0 (boxes0.length : Int) x.2) n ((0 : Int), (0 : Int))))
def impl_StowCode_5 (n : Nat) (_0 : Int) (s1 : SStow) (a2 : List SStow) (a3 : List SHatch) : Option Bool :=
  (impl_stackOf n a2 s1.Spot.Bay s1.Spot.Row).bind fun r1 => ix s1.Spot.Bay a3.length ((bd (a3.getD s1.Spot.Bay.toNat dSHatch) fun (e2 : SHatch) => (impl_StackOk n r1 e2.Most).bind fun r3 => some ((!r3))))
def impl_StowCode_6_L3 {R : Type} (n : Nat) (kx0 : Int → Option R) (J : Int → Int → Option R) (t1 : List SHatch) (n2 : Int) (t3 : List SStow) (t4 : Int) (t5 : Int) (s6 : SStow) : Option R :=
  (bif (decide (t5 < t4)) then ix t5 t3.length ((bd (t3.getD t5.toNat dSStow) fun (e27 : SStow) => (bif e27.Box.Cold then (bif (decide (e27.Spot.Bay = s6.Spot.Bay)) then J (w64 (n2 + (1 : Int))) (w64 (t5 + (1 : Int))) else J n2 (w64 (t5 + (1 : Int)))) else J n2 (w64 (t5 + (1 : Int)))))) else kx0 n2)
def impl_StowCode_6 (n : Nat) (_0 : Int) (s1 : SStow) (a2 : List SStow) (a3 : List SHatch) : Option Bool :=
  loopN (fun (x : Int × Int) J' => impl_StowCode_6_L3 n (fun n39 => (bif s1.Box.Cold then ix s1.Spot.Bay a3.length ((bd (a3.getD s1.Spot.Bay.toNat dSHatch) fun (e40 : SHatch) => some ((decide (n39 > e40.Plugs))))) else some (false))) (fun n42 t43 => J' (n42, t43)) a3 x.1 a2 (a2.length : Int) x.2 s1) n ((0 : Int), (0 : Int))
def impl_spotOk (n : Nat) (s0 : SSpot) : Option Bool :=
  (impl_in n s0.Bay (0 : Int) (19 : Int)).bind fun r1 => (bif r1 then (impl_in n s0.Row (0 : Int) (19 : Int)).bind fun r2 => (bif r2 then (impl_in n s0.Tier (0 : Int) (19 : Int)).bind fun r3 => some (r3) else some (false)) else some (false))
def impl_size (n : Nat) (n0 : Int) : Option Int :=
  (bif (decide (n0 < (0 : Int))) then some ((w64 (0 - n0))) else some (n0))
def impl_Apart_k0 (n : Nat)  (x6 : Int) (y7 : Int) (t8 : Bool) : Option Int :=
  (bif t8 then some ((0 : Int)) else (bif (decide (x6 = (1 : Int))) then some ((3 : Int)) else (bd (Int.tmod (w64 (x6 * y7)) (6 : Int)) fun (v9 : Int) => (bif (decide (v9 = (0 : Int))) then some ((2 : Int)) else (bd (Int.tmod (w64 (x6 + y7)) (2 : Int)) fun (v10 : Int) => (bif (decide (v10 = (1 : Int))) then some ((1 : Int)) else some ((0 : Int))))))))
def impl_Apart_k1 (n : Nat)  (a0 : Int) (b1 : Int) (t3 : Bool) : Option Int :=
  (bif t3 then some ((-1 : Int)) else (bif (decide ((if b1 < a0 then b1 else a0) = (0 : Int))) then some ((0 : Int)) else impl_Apart_k0 n  (if b1 < a0 then b1 else a0) (if b1 > a0 then b1 else a0) (decide ((if b1 < a0 then b1 else a0) = (if b1 > a0 then b1 else a0)))))
def impl_Apart (n : Nat) (a0 : Int) (b1 : Int) : Option Int :=
  (impl_in n a0 (0 : Int) (9 : Int)).bind fun r1 => (bif (!r1) then some ((-1 : Int)) else (impl_in n b1 (0 : Int) (9 : Int)).bind fun r2 => impl_Apart_k1 n  a0 b1 (!r2))
def impl_KeepsApart_k0 (n : Nat)  (a0 : SBox) (sa1 : SSpot) (b2 : SBox) (sb3 : SSpot) : Option Bool :=
  (bd (w64 (sa1.Bay - sb3.Bay)) fun (v6 : Int) => (impl_size n v6).bind fun r7 => (bd (w64 (sa1.Row - sb3.Row)) fun (v8 : Int) => (impl_size n v8).bind fun r9 => (bd (w64 (sa1.Tier - sb3.Tier)) fun (v10 : Int) => (impl_size n v10).bind fun r11 => (impl_Apart n a0.Class b2.Class).bind fun r12 => (bif (decide (r12 = (0 : Int))) then some (true) else (bif (decide (r12 = (1 : Int))) then (bd (w64 ((w64 (r7 + r9)) + r11)) fun (v13 : Int) => some ((!(decide (v13 = (1 : Int)))))) else (bif (decide (r12 = (2 : Int))) then some ((decide (r7 ≥ (2 : Int)))) else some (false)))))))
def impl_KeepsApart (n : Nat) (a0 : SBox) (sa1 : SSpot) (b2 : SBox) (sb3 : SSpot) : Option Bool :=
  (impl_BoxOk n a0).bind fun r1 => (bif (!r1) then some (false) else (impl_BoxOk n b2).bind fun r2 => (bif (!r2) then some (false) else (impl_spotOk n sa1).bind fun r3 => (bif (!r3) then some (false) else (impl_spotOk n sb3).bind fun r4 => (bif (!r4) then some (false) else (bif ((decide (sa1.Bay = sb3.Bay)) && ((decide (sa1.Row = sb3.Row)) && (decide (sa1.Tier = sb3.Tier)))) then some (false) else impl_KeepsApart_k0 n  a0 sa1 b2 sb3)))))
def impl_StowCode_7_1 (n : Nat) (x0 : SStow) (a1 : SStow) : Option Bool :=
  (impl_KeepsApart n x0.Box x0.Spot a1.Box a1.Spot).bind fun r1 => some ((!r1))
def sIndex_StowCode_7_1_L2 {R : Type} (n : Nat) (kx0 : Option R) (kxr : Int → Option R) (J : Int → Option R) (s1 : List SStow) (f2 : SStow) (t3 : Int) (t4 : Int) : Option R :=
  (bif (decide (t4 < t3)) then ix t4 s1.length ((bd (s1.getD t4.toNat dSStow) fun (e9 : SStow) => (impl_StowCode_7_1 n e9 f2).bind fun r10 => (bif r10 then kxr t4 else J (w64 (t4 + (1 : Int)))))) else kx0)
def sIndex_StowCode_7_1 (n : Nat) (s0 : List SStow) (f1c0 : SStow) : Option Int :=
  loopN (fun (x : Int) J' => sIndex_StowCode_7_1_L2 n (some ((-1 : Int))) (fun t12 => some (t12)) J' s0 f1c0 (s0.length : Int) x) n ((0 : Int))
def sContains_StowCode_7_1 (n : Nat) (s0 : List SStow) (f1c0 : SStow) : Option Bool :=
  (sIndex_StowCode_7_1 n s0 f1c0).bind fun r1 => some ((decide (r1 ≥ (0 : Int))))
def impl_StowCode_7 (n : Nat) (i0 : Int) (s1 : SStow) (a2 : List SStow) : Option Bool :=
  chk (decide ((0 : Int) ≤ i0)) (chk (decide (i0 ≤ (a2.length : Int))) ((sContains_StowCode_7_1 n (a2.take i0.toNat) s1).bind fun r1 => some (r1)))
def impl_StowCode_k0 {R : Type} (n : Nat) (kx2 : Option R) (kxr : Int → Int → Option R) (J : Int → Option R) (list9 : List SStow) (t10 : Int) (t11 : Int) (t12 : List SStow) (t13 : Int) (t17 : Int) (reason15 : SAnon113) (t16 : List SAnon113) : Option R :=
  ix t17 t12.length ((bd (t12.getD t17.toNat dSStow) fun (e18 : SStow) => (bif (Nat.beq reason15.is.ix 0) then (impl_StowCode_1 n t17 e18).bind fun r19 => (bif r19 then kxr reason15.code t17 else J (w64 (t17 + (1 : Int)))) else (bif (Nat.beq reason15.is.ix 1) then (impl_StowCode_2 n t17 e18 reason15.is.a0).bind fun r21 => (bif r21 then kxr reason15.code t17 else J (w64 (t17 + (1 : Int)))) else (bif (Nat.beq reason15.is.ix 2) then (impl_StowCode_3 n t17 e18 reason15.is.a1).bind fun r23 => (bif r23 then kxr reason15.code t17 else J (w64 (t17 + (1 : Int)))) else (bif (Nat.beq reason15.is.ix 3) then (impl_StowCode_4 n t17 e18 reason15.is.a0).bind fun r25 => (bif r25 then kxr reason15.code t17 else J (w64 (t17 + (1 : Int)))) else (bif (Nat.beq reason15.is.ix 4) then (impl_StowCode_5 n t17 e18 reason15.is.a0 reason15.is.a1).bind fun r27 => (bif r27 then kxr reason15.code t17 else J (w64 (t17 + (1 : Int)))) else (bif (Nat.beq reason15.is.ix 5) then (impl_StowCode_6 n t17 e18 reason15.is.a0 reason15.is.a1).bind fun r29 => (bif r29 then kxr reason15.code t17 else J (w64 (t17 + (1 : Int)))) else (bif (Nat.beq reason15.is.ix 6) then (impl_StowCode_7 n t17 e18 reason15.is.a0).bind fun r31 => (bif r31 then kxr reason15.code t17 else J (w64 (t17 + (1 : Int)))) else none)))))))))
def impl_StowCode_L7 {R : Type} (n : Nat) (kx2 : Option R) (kxr : Int → Int → Option R) (J : Int → Option R) (list9 : List SStow) (t10 : Int) (t11 : Int) (t12 : List SStow) (t13 : Int) (t14 : Int) (reason15 : SAnon113) (t16 : List SAnon113) : Option R :=
  (bif (decide (t14 < t13)) then impl_StowCode_k0 n kx2 kxr J list9 t10 t11 t12 t13 t14 reason15 t16 else kx2)
def impl_StowCode_k1 {R : Type} (n : Nat) (kx0 : Option R) (kxr : Int → Int → Option R) (J : Int → Option R) (list3 : List SStow) (t4 : Int) (t7 : Int) (t6 : List SAnon113) : Option R :=
  ix t7 t6.length (chk (decide (t7.toNat < t6.length)) ((bd (t6.getD t7.toNat dSAnon113) fun (e8 : SAnon113) => (bif (decide (t7.toNat < 0)) then loopN (fun (x : Int) J' => impl_StowCode_L7 n (J (w64 (t7 + (1 : Int)))) (fun t33 t34 => kxr t33 t34) J' list3 t4 t7 list3 (list3.length : Int) x e8 t6) n ((0 : Int)) else loopN (fun (x : Int) J' => impl_StowCode_L7 n (J (w64 (t7 + (1 : Int)))) (fun t36 t37 => kxr t36 t37) J' list3 t4 t7 list3 (list3.length : Int) x e8 t6) n ((0 : Int))))))
def impl_StowCode_L4 {R : Type} (n : Nat) (kx0 : Option R) (kxr : Int → Int → Option R) (J : Int → Option R) (list3 : List SStow) (t4 : Int) (t5 : Int) (t6 : List SAnon113) : Option R :=
  (bif (decide (t5 < t4)) then impl_StowCode_k1 n kx0 kxr J list3 t4 t5 t6 else kx0)
def impl_StowCode_k2 (n : Nat)  (bays0 : List SHatch) (list1 : List SStow) : Option (Int × Int) :=
  loopN (fun (x : Int) J' => impl_StowCode_L4 n (some ((0 : Int), (0 : Int))) (fun t39 t40 => some (t39, t40)) J' list1 (7 : Int) x [(⟨(1 : Int), (⟨0, [], []⟩ : SFn112)⟩ : SAnon113), (⟨(2 : Int), (⟨1, list1, []⟩ : SFn112)⟩ : SAnon113), (⟨(3 : Int), (⟨2, [], bays0⟩ : SFn112)⟩ : SAnon113), (⟨(4 : Int), (⟨3, list1, []⟩ : SFn112)⟩ : SAnon113), (⟨(5 : Int), (⟨4, list1, bays0⟩ : SFn112)⟩ : SAnon113), (⟨(6 : Int), (⟨5, list1, bays0⟩ : SFn112)⟩ : SAnon113), (⟨(7 : Int), (⟨6, list1, []⟩ : SFn112)⟩ : SAnon113)]) n ((0 : Int))
def impl_StowCode (n : Nat) (bays0 : List SHatch) (list1 : List SStow) : Option (Int × Int) :=
  (impl_HatchesOk n bays0).bind fun r1 => (bif (!r1) then some ((1 : Int), (0 : Int)) else (bif (decide ((list1.length : Int) > (40 : Int))) then some ((1 : Int), (0 : Int)) else impl_StowCode_k2 n  bays0 list1))
def impl_over (n : Nat) (a0 : SSpot) (b1 : SSpot) : Option Bool :=
  (bif (decide (a0.Bay = b1.Bay)) then (bif (decide (a0.Row = b1.Row)) then some ((decide (a0.Tier > b1.Tier))) else some (false)) else some (false))
def impl_overstows_k0 {R : Type} (n : Nat) (kx2 : Int → Option R) (J : Int → Int → Option R) (list9 : List SStow) (n18 : Int) (t11 : List SStow) (t12 : Int) (t13 : Int) (t14 : List SStow) (t15 : Int) (t19 : Int) (a17 : SStow) : Option R :=
  ix t19 t14.length ((bd (t14.getD t19.toNat dSStow) fun (e20 : SStow) => (impl_over n a17.Spot e20.Spot).bind fun r21 => (bif r21 then (bif (decide (a17.Box.To > e20.Box.To)) then J (w64 (n18 + (1 : Int))) (w64 (t19 + (1 : Int))) else J n18 (w64 (t19 + (1 : Int)))) else J n18 (w64 (t19 + (1 : Int))))))
def impl_overstows_L6 {R : Type} (n : Nat) (kx2 : Int → Option R) (J : Int → Int → Option R) (list9 : List SStow) (n10 : Int) (t11 : List SStow) (t12 : Int) (t13 : Int) (t14 : List SStow) (t15 : Int) (t16 : Int) (a17 : SStow) : Option R :=
  (bif (decide (t16 < t15)) then impl_overstows_k0 n kx2 J list9 n10 t11 t12 t13 t14 t15 t16 a17 else kx2 n10)
def impl_overstows_L3 {R : Type} (n : Nat) (kx0 : Int → Option R) (J : Int → Int → Option R) (list1 : List SStow) (n2 : Int) (t3 : List SStow) (t4 : Int) (t5 : Int) : Option R :=
  (bif (decide (t5 < t4)) then ix t5 t3.length ((bd (t3.getD t5.toNat dSStow) fun (e42 : SStow) => loopN (fun (x : Int × Int) J' => impl_overstows_L6 n (fun n43 => J n43 (w64 (t5 + (1 : Int)))) (fun n44 t45 => J' (n44, t45)) list1 x.1 t3 t4 t5 list1 (list1.length : Int) x.2 e42) n (n2, (0 : Int)))) else kx0 n2)
def impl_overstows (n : Nat) (list0 : List SStow) : Option Int :=
  loopN (fun (x : Int × Int) J' => impl_overstows_L3 n (fun n46 => some (n46)) (fun n47 t48 => J' (n47, t48)) list0 x.1 list0 (list0.length : Int) x.2) n ((0 : Int), (0 : Int))
def impl_own_impl_Stow (n : Nat) (l0 : List SStow) : Option (List SStow) :=
  chk (decide ((0 : Int) ≤ (l0.length : Int))) (chk (decide ((l0.length : Int) ≤ 9223372036854775807 ∧ (l0.length : Int) * (80 : Int) ≤ 281474976710656)) (chk (decide (l0.length * 80 ≤ 140737488355328)) (some (l0))))
def impl_Fewest_2_1 (n : Nat) (x0 : SStow) (a1 : SSpot) : Option Bool :=
  some (((decide (x0.Spot.Bay = a1.Bay)) && ((decide (x0.Spot.Row = a1.Row)) && (decide (x0.Spot.Tier = a1.Tier)))))
def sIndex_Fewest_2_1_L2 {R : Type} (n : Nat) (kx0 : Option R) (kxr : Int → Option R) (J : Int → Option R) (s1 : List SStow) (f2 : SSpot) (t3 : Int) (t4 : Int) : Option R :=
  (bif (decide (t4 < t3)) then ix t4 s1.length ((bd (s1.getD t4.toNat dSStow) fun (e9 : SStow) => (impl_Fewest_2_1 n e9 f2).bind fun r10 => (bif r10 then kxr t4 else J (w64 (t4 + (1 : Int)))))) else kx0)
def sIndex_Fewest_2_1 (n : Nat) (s0 : List SStow) (f1c0 : SSpot) : Option Int :=
  loopN (fun (x : Int) J' => sIndex_Fewest_2_1_L2 n (some ((-1 : Int))) (fun t12 => some (t12)) J' s0 f1c0 (s0.length : Int) x) n ((0 : Int))
def sContains_Fewest_2_1 (n : Nat) (s0 : List SStow) (f1c0 : SSpot) : Option Bool :=
  (sIndex_Fewest_2_1 n s0 f1c0).bind fun r1 => some ((decide (r1 ≥ (0 : Int))))
def impl_Fewest_2__self_k0 {R : Type} (n : Nat) (rc : List SStow → List SBox → List SHatch → Int → List SStow → List SSpot → Option (Int × List SStow)) (kx0 : Int → List SStow → Option R) (J : Int → Int → List SStow → Option R) (l18 : List SStow) (t19 : List SBox) (t20 : List SBox) (t21 : List SHatch) (t22 : List SSpot) (t23 : List SSpot) (t24 : Int) (t28 : Int) (p29 : Int) (c30 : List SStow) : Option R :=
  ix t28 t23.length ((bd (t23.getD t28.toNat dSSpot) fun (e31 : SSpot) => (sContains_Fewest_2_1 n l18 e31).bind fun r32 => (bif (!r32) then chk (decide ((0 : Int) ≤ (l18.length : Int))) (chk (decide ((l18.length : Int) ≤ (l18.length : Int))) (chk (decide ((l18.length : Int) = ((l18.length : Int).toNat : Int))) (ix (l18.length : Int) t19.length ((bd (t19.getD ((l18.length : Int).toNat) dSBox) fun (e33 : SBox) => chk (decide (((l18.take ((l18.length : Int).toNat)) ++ [(⟨e33, e31⟩ : SStow)]).length * 80 ≤ 140737488355328)) ((rc ((l18.take ((l18.length : Int).toNat)) ++ [(⟨e33, e31⟩ : SStow)]) t20 t21 p29 c30 t22).bind fun r34 => J (w64 (t28 + (1 : Int))) r34.1 r34.2)))))) else J (w64 (t28 + (1 : Int))) p29 c30)))
def impl_Fewest_2__self_L7 {R : Type} (n : Nat) (rc : List SStow → List SBox → List SHatch → Int → List SStow → List SSpot → Option (Int × List SStow)) (kx0 : Int → List SStow → Option R) (J : Int → Int → List SStow → Option R) (l18 : List SStow) (t19 : List SBox) (t20 : List SBox) (t21 : List SHatch) (t22 : List SSpot) (t23 : List SSpot) (t24 : Int) (t25 : Int) (p26 : Int) (c27 : List SStow) : Option R :=
  (bif (decide (t25 < t24)) then impl_Fewest_2__self_k0 n rc kx0 J l18 t19 t20 t21 t22 t23 t24 t25 p26 c27 else kx0 p26 c27)
def impl_Fewest_2__self_b (n : Nat) (rc : List SStow → List SBox → List SHatch → Int → List SStow → List SSpot → Option (Int × List SStow)) (l0 : List SStow) (a1 : List SBox) (a2 : List SHatch) (a3 : Int) (a4 : List SStow) (a5 : List SSpot) : Option (Int × List SStow) :=
  (bif (decide ((l0.length : Int) = (a1.length : Int))) then (impl_StowCode n a2 l0).bind fun r1 => (bif (decide (r1.1 = (0 : Int))) then (impl_overstows n l0).bind fun r2 => (bif (decide (a3 < (0 : Int))) then (impl_own_impl_Stow n l0).bind fun r7 => some (r2, r7) else (bif (decide (r2 < a3)) then (impl_own_impl_Stow n l0).bind fun r15 => some (r2, r15) else some (a3, a4))) else some (a3, a4)) else loopN (fun (x : Int × Int × List SStow) J' => impl_Fewest_2__self_L7 n rc (fun p46 c47 => some (p46, c47)) (fun t48 p49 c50 => J' (t48, p49, c50)) l0 a1 a1 a2 a5 a5 (a5.length : Int) x.1 x.2.1 x.2.2) n ((0 : Int), a3, a4))
def impl_Fewest_2__self_r (n : Nat) : Nat → List SStow → List SBox → List SHatch → Int → List SStow → List SSpot → Option (Int × List SStow)
  | 0 => fun _ _ _ _ _ _ => none
  | m + 1 => fun l0 a1 a2 a3 a4 a5 => impl_Fewest_2__self_b n (impl_Fewest_2__self_r n m) l0 a1 a2 a3 a4 a5
def impl_Fewest_2__self (n : Nat) (l0 : List SStow) (a1 : List SBox) (a2 : List SHatch) (a3 : Int) (a4 : List SStow) (a5 : List SSpot) : Option (Int × List SStow) := impl_Fewest_2__self_r n n l0 a1 a2 a3 a4 a5
def impl_Fewest_k0 {R : Type} (n : Nat) (kx0 : Option R) (kxr : Bool → List SStow → Option R) (J : Int → Option R) (t3 : List SBox) (t4 : Int) (t8 : Int) (bays6 : List SHatch) (boxes7 : List SBox) : Option R :=
  ix t8 t3.length ((bd (t3.getD t8.toNat dSBox) fun (e9 : SBox) => (impl_BoxOk n e9).bind fun r10 => (bif (!r10) then kxr false [] else chk (decide ((0 : Int) ≤ t8)) (chk (decide (t8 ≤ (boxes7.length : Int))) ((sContains_Fewest_1 n (boxes7.take t8.toNat) e9).bind fun r12 => (bif r12 then kxr false [] else J (w64 (t8 + (1 : Int)))))))))
def impl_Fewest_L4 {R : Type} (n : Nat) (kx0 : Option R) (kxr : Bool → List SStow → Option R) (J : Int → Option R) (t3 : List SBox) (t4 : Int) (t5 : Int) (bays6 : List SHatch) (boxes7 : List SBox) : Option R :=
  (bif (decide (t5 < t4)) then impl_Fewest_k0 n kx0 kxr J t3 t4 t5 bays6 boxes7 else kx0)
def impl_Fewest_L17 {R : Type} (n : Nat) (kx6 : List SSpot → Option R) (J : Int → List SSpot → Option R) (b38 : Int) (r39 : Int) (t40 : List SHatch) (t41 : Int) (t42 : Int) (t43 : Int) (t44 : Int) (t45 : Int) (t46 : Int) (bays47 : List SHatch) (boxes48 : List SBox) (c49 : List SSpot) (h50 : SHatch) : Option R :=
  (bif (decide (t46 < t45)) then (bd (c49 ++ [(⟨b38, r39, t46⟩ : SSpot)]) fun (l54 : List SSpot) => chk (decide (l54.length * 24 ≤ 140737488355328)) (J (w64 (t46 + (1 : Int))) l54)) else kx6 c49)
def impl_Fewest_L14 {R : Type} (n : Nat) (kx4 : List SSpot → Option R) (J : Int → List SSpot → Option R) (b26 : Int) (t27 : List SHatch) (t28 : Int) (t29 : Int) (t30 : Int) (t31 : Int) (bays32 : List SHatch) (boxes33 : List SBox) (c34 : List SSpot) (h35 : SHatch) : Option R :=
  (bif (decide (t31 < t30)) then loopN (fun (x : Int × List SSpot) J' => impl_Fewest_L17 n (fun c58 => J (w64 (t31 + (1 : Int))) c58) (fun t59 c60 => J' (t59, c60)) b26 t31 t27 t28 t29 t30 t31 h35.Tiers x.1 bays32 boxes33 x.2 h35) n ((0 : Int), c34) else kx4 c34)
def impl_Fewest_k1 {R : Type} (n : Nat) (kx2 : List SSpot → Option R) (J : Int → List SSpot → Option R) (t17 : List SHatch) (t18 : Int) (t23 : Int) (bays20 : List SHatch) (boxes21 : List SBox) (c24 : List SSpot) : Option R :=
  ix t23 t17.length ((bd (t17.getD t23.toNat dSHatch) fun (e25 : SHatch) => loopN (fun (x : Int × List SSpot) J' => impl_Fewest_L14 n (fun c61 => J (w64 (t23 + (1 : Int))) c61) (fun t62 c63 => J' (t62, c63)) t23 t17 t18 t23 e25.Rows x.1 bays20 boxes21 x.2 e25) n ((0 : Int), c24)))
def impl_Fewest_L11 {R : Type} (n : Nat) (kx2 : List SSpot → Option R) (J : Int → List SSpot → Option R) (t17 : List SHatch) (t18 : Int) (t19 : Int) (bays20 : List SHatch) (boxes21 : List SBox) (c22 : List SSpot) : Option R :=
  (bif (decide (t19 < t18)) then impl_Fewest_k1 n kx2 J t17 t18 t19 bays20 boxes21 c22 else kx2 c22)
def impl_Fewest_k2 (n : Nat)  (bays0 : List SHatch) (boxes1 : List SBox) : Option (List SStow × Bool) :=
  loopN (fun (x : Int) J' => impl_Fewest_L4 n (loopN (fun (x : Int × List SSpot) J' => impl_Fewest_L11 n (fun c64 => (bif (decide ((c64.length : Int) > (8 : Int))) then some ([], false) else (impl_Fewest_2__self n [] boxes1 bays0 (-1 : Int) [] c64).bind fun r67 => some (r67.2, (decide (r67.1 ≥ (0 : Int)))))) (fun t68 c69 => J' (t68, c69)) bays0 (bays0.length : Int) x.1 bays0 boxes1 x.2) n ((0 : Int), [])) (fun t70 t71 => some (t71, t70)) J' boxes1 (boxes1.length : Int) x bays0 boxes1) n ((0 : Int))
def impl_Fewest (n : Nat) (bays0 : List SHatch) (boxes1 : List SBox) : Option (List SStow × Bool) :=
  (bif (decide ((boxes1.length : Int) > (5 : Int))) then some ([], false) else (impl_HatchesOk n bays0).bind fun r1 => (bif (!r1) then some ([], false) else impl_Fewest_k2 n  bays0 boxes1))
def spec_HatchesOk_k0 {R : Type} (n : Nat) (kx0 : Option R) (kxr : Bool → Option R) (J : Int → Option R) (bays1 : List SHatch) (i3 : Int) : Option R :=
  ix i3 bays1.length ((bd (bays1.getD i3.toNat dSHatch) fun (e4 : SHatch) => (spec_l1In n e4.Rows (1 : Int) (6 : Int)).bind fun r5 => (bif (!r5) then kxr false else (spec_l1In n e4.Tiers (1 : Int) (6 : Int)).bind fun r7 => (bif (!r7) then kxr false else (spec_l1In n e4.Most (0 : Int) (1000000 : Int)).bind fun r9 => (bif (!r9) then kxr false else (spec_l1In n e4.Plugs (0 : Int) (36 : Int)).bind fun r11 => (bif (!r11) then kxr false else J (w64 (i3 + (1 : Int)))))))))
def spec_HatchesOk_L2 {R : Type} (n : Nat) (kx0 : Option R) (kxr : Bool → Option R) (J : Int → Option R) (bays1 : List SHatch) (i2 : Int) : Option R :=
  (bif (decide (i2 < (bays1.length : Int))) then spec_HatchesOk_k0 n kx0 kxr J bays1 i2 else kx0)
def spec_HatchesOk (n : Nat) (bays0 : List SHatch) : Option Bool :=
  loopN (fun (x : Int) J' => spec_HatchesOk_L2 n ((spec_l1In n (bays0.length : Int) (1 : Int) (6 : Int)).bind fun r16 => some (r16)) (fun t17 => some (t17)) J' bays0 x) n ((0 : Int))
def spec_BoxName (n : Nat) (text0 : ByteArray) : Option Bool :=
  (bif (!(decide ((text0.size : Int) = (11 : Int)))) then some (false) else chk (decide ((10 : Int) ≤ (text0.size : Int))) ((spec_CheckDigit n (text0.extract 0 10)).bind fun r3 => (bif (decide (r3 ≥ (0 : Int))) then ix (10 : Int) text0.size (some ((decide ((w64 (byteAt text0 10)) = (w64 ((48 : Int) + r3)))))) else some (false))))
def spec_BoxOk (n : Nat) (b0 : SBox) : Option Bool :=
  (spec_BoxName n b0.Name).bind fun r1 => (bif r1 then (spec_l1In n b0.Weight (1 : Int) (40000 : Int)).bind fun r2 => (bif r2 then (spec_l1In n b0.Class (0 : Int) (9 : Int)).bind fun r3 => (bif r3 then (spec_l1In n b0.From (0 : Int) (19 : Int)).bind fun r4 => (bif r4 then (bd (w64 (b0.From + (1 : Int))) fun (v5 : Int) => (spec_l1In n b0.To v5 (19 : Int)).bind fun r6 => some (r6)) else some (false)) else some (false)) else some (false)) else some (false))
def spec_l12At_L2 {R : Type} (n : Nat) (kx0 : Option R) (kxr : Int → Option R) (J : Int → Option R) (list1 : List SStow) (i2 : Int) (s3 : SSpot) : Option R :=
  (bif (decide (i2 < (list1.length : Int))) then ix i2 list1.length ((bd (list1.getD i2.toNat dSStow) fun (e7 : SStow) => (bif ((decide (e7.Spot.Bay = s3.Bay)) && ((decide (e7.Spot.Row = s3.Row)) && (decide (e7.Spot.Tier = s3.Tier)))) then kxr i2 else J (w64 (i2 + (1 : Int)))))) else kx0)
def spec_l12At (n : Nat) (list0 : List SStow) (s1 : SSpot) : Option Int :=
  loopN (fun (x : Int) J' => spec_l12At_L2 n (some ((-1 : Int))) (fun t9 => some (t9)) J' list0 x s1) n ((0 : Int))
def spec_l12Stack_k0 {R : Type} (n : Nat) (kx0 : List SBox → Option R) (J : Int → List SBox → Option R) (list1 : List SStow) (bay2 : Int) (row3 : Int) (t6 : Int) (out7 : List SBox) : Option R :=
  (spec_l12At n list1 (⟨bay2, row3, t6⟩ : SSpot)).bind fun r8 => (bif (decide (r8 ≥ (0 : Int))) then ix r8 list1.length ((bd (list1.getD r8.toNat dSStow) fun (e9 : SStow) => chk (decide ((out7 ++ [e9.Box]).length * 56 ≤ 140737488355328)) (J (w64 (t6 + (1 : Int))) (out7 ++ [e9.Box])))) else J (w64 (t6 + (1 : Int))) out7)
def spec_l12Stack_L3 {R : Type} (n : Nat) (kx0 : List SBox → Option R) (J : Int → List SBox → Option R) (list1 : List SStow) (bay2 : Int) (row3 : Int) (t4 : Int) (out5 : List SBox) : Option R :=
  (bif (decide (t4 < (20 : Int))) then spec_l12Stack_k0 n kx0 J list1 bay2 row3 t4 out5 else kx0 out5)
def spec_l12Stack (n : Nat) (list0 : List SStow) (bay1 : Int) (row2 : Int) : Option (List SBox) :=
  loopN (fun (x : Int × List SBox) J' => spec_l12Stack_L3 n (fun out14 => some (out14)) (fun t15 out16 => J' (t15, out16)) list0 bay1 row2 x.1 x.2) n ((0 : Int), [])
def spec_StackOk_k0 {R : Type} (n : Nat) (kx0 : Int → Option R) (kxr : Bool → Option R) (J : Int → Int → Option R) (boxes1 : List SBox) (most2 : Int) (sum5 : Int) (i6 : Int) : Option R :=
  ix i6 boxes1.length ((bd (boxes1.getD i6.toNat dSBox) fun (e7 : SBox) => (bif (decide ((boxes1.length : Int) > (20 : Int))) then kxr false else (spec_BoxOk n e7).bind fun r11 => (bif (!r11) then kxr false else (bif (decide (i6 > (0 : Int))) then ix (w64 (i6 - (1 : Int))) boxes1.length ((bd (boxes1.getD ((w64 (i6 - (1 : Int))).toNat) dSBox) fun (e15 : SBox) => (bif (decide (e15.Weight < e7.Weight)) then kxr false else (bif e7.Cold then (bif (decide (i6 > (1 : Int))) then kxr false else J (w64 (sum5 + e7.Weight)) (w64 (i6 + (1 : Int)))) else J (w64 (sum5 + e7.Weight)) (w64 (i6 + (1 : Int))))))) else (bif e7.Cold then (bif (decide (i6 > (1 : Int))) then kxr false else J (w64 (sum5 + e7.Weight)) (w64 (i6 + (1 : Int)))) else J (w64 (sum5 + e7.Weight)) (w64 (i6 + (1 : Int)))))))))
def spec_StackOk_L3 {R : Type} (n : Nat) (kx0 : Int → Option R) (kxr : Bool → Option R) (J : Int → Int → Option R) (boxes1 : List SBox) (most2 : Int) (sum3 : Int) (i4 : Int) : Option R :=
  (bif (decide (i4 < (boxes1.length : Int))) then spec_StackOk_k0 n kx0 kxr J boxes1 most2 sum3 i4 else kx0 sum3)
def spec_StackOk (n : Nat) (boxes0 : List SBox) (most1 : Int) : Option Bool :=
  loopN (fun (x : Int × Int) J' => spec_StackOk_L3 n (fun sum68 => (spec_l1In n most1 (0 : Int) (1000000 : Int)).bind fun r69 => (bif r69 then some ((decide (sum68 ≤ most1))) else some (false))) (fun t71 => some (t71)) (fun sum72 i73 => J' (sum72, i73)) boxes0 most1 x.1 x.2) n ((0 : Int), (0 : Int))
def spec_l12Cold_k0 {R : Type} (n : Nat) (kx0 : Int → Option R) (J : Int → Int → Option R) (list1 : List SStow) (bay2 : Int) (n5 : Int) (i6 : Int) : Option R :=
  ix i6 list1.length ((bd (list1.getD i6.toNat dSStow) fun (e7 : SStow) => (bif (decide (e7.Spot.Bay = bay2)) then ix i6 list1.length ((bd (list1.getD i6.toNat dSStow) fun (e8 : SStow) => (bif e8.Box.Cold then J (w64 (n5 + (1 : Int))) (w64 (i6 + (1 : Int))) else J n5 (w64 (i6 + (1 : Int)))))) else J n5 (w64 (i6 + (1 : Int))))))
def spec_l12Cold_L3 {R : Type} (n : Nat) (kx0 : Int → Option R) (J : Int → Int → Option R) (list1 : List SStow) (bay2 : Int) (n3 : Int) (i4 : Int) : Option R :=
  (bif (decide (i4 < (list1.length : Int))) then spec_l12Cold_k0 n kx0 J list1 bay2 n3 i4 else kx0 n3)
def spec_l12Cold (n : Nat) (list0 : List SStow) (bay1 : Int) : Option Int :=
  loopN (fun (x : Int × Int) J' => spec_l12Cold_L3 n (fun n26 => some (n26)) (fun n27 i28 => J' (n27, i28)) list0 bay1 x.1 x.2) n ((0 : Int), (0 : Int))
def spec_l11Spot (n : Nat) (s0 : SSpot) : Option Bool :=
  (spec_l1In n s0.Bay (0 : Int) (19 : Int)).bind fun r1 => (bif r1 then (spec_l1In n s0.Row (0 : Int) (19 : Int)).bind fun r2 => (bif r2 then (spec_l1In n s0.Tier (0 : Int) (19 : Int)).bind fun r3 => some (r3) else some (false)) else some (false))
def spec_l3Size (n : Nat) (x0 : Int) : Option Int :=
  (bif (decide (x0 < (0 : Int))) then some ((w64 (0 - x0))) else some (x0))
def spec_l1Least (n : Nat) (a0 : Int) (b1 : Int) : Option Int :=
  (bif (decide (a0 < b1)) then some (a0) else some (b1))
def spec_Apart_k0 (n : Nat)  (a0 : Int) (b1 : Int) (x6 : Int) (t7 : Bool) : Option Int :=
  (bif t7 then some ((0 : Int)) else (bif (decide (x6 = (1 : Int))) then some ((3 : Int)) else (bd (Int.tmod (w64 (a0 * b1)) (6 : Int)) fun (v8 : Int) => (bif (decide (v8 = (0 : Int))) then some ((2 : Int)) else (bd (Int.tmod (w64 (a0 + b1)) (2 : Int)) fun (v9 : Int) => (bif (decide (v9 = (1 : Int))) then some ((1 : Int)) else some ((0 : Int))))))))
def spec_Apart (n : Nat) (a0 : Int) (b1 : Int) : Option Int :=
  (spec_l1In n a0 (0 : Int) (9 : Int)).bind fun r1 => (bif (!r1) then some ((-1 : Int)) else (spec_l1In n b1 (0 : Int) (9 : Int)).bind fun r2 => (bif (!r2) then some ((-1 : Int)) else (spec_l1Least n a0 b1).bind fun r14 => (bif (decide (r14 = (0 : Int))) then some ((0 : Int)) else spec_Apart_k0 n  a0 b1 r14 (decide (a0 = b1)))))
def spec_KeepsApart_k0 (n : Nat)  (a0 : SBox) (sa1 : SSpot) (b2 : SBox) (sb3 : SSpot) : Option Bool :=
  (bd (w64 (sa1.Bay - sb3.Bay)) fun (v6 : Int) => (spec_l3Size n v6).bind fun r7 => (bd (w64 (sa1.Row - sb3.Row)) fun (v8 : Int) => (spec_l3Size n v8).bind fun r9 => (bd (w64 (sa1.Tier - sb3.Tier)) fun (v10 : Int) => (spec_l3Size n v10).bind fun r11 => (spec_Apart n a0.Class b2.Class).bind fun r12 => (bif (decide (r12 = (1 : Int))) then (bd (w64 ((w64 (r7 + r9)) + r11)) fun (v13 : Int) => some ((!(decide (v13 = (1 : Int)))))) else (bif (decide (r12 = (2 : Int))) then some ((decide (r7 ≥ (2 : Int)))) else (bif (decide (r12 = (3 : Int))) then some (false) else some (true)))))))
def spec_KeepsApart (n : Nat) (a0 : SBox) (sa1 : SSpot) (b2 : SBox) (sb3 : SSpot) : Option Bool :=
  (spec_BoxOk n a0).bind fun r1 => (bif (!r1) then some (false) else (spec_BoxOk n b2).bind fun r2 => (bif (!r2) then some (false) else (spec_l11Spot n sa1).bind fun r3 => (bif (!r3) then some (false) else (spec_l11Spot n sb3).bind fun r4 => (bif (!r4) then some (false) else (bif ((decide (sa1.Bay = sb3.Bay)) && ((decide (sa1.Row = sb3.Row)) && (decide (sa1.Tier = sb3.Tier)))) then some (false) else spec_KeepsApart_k0 n  a0 sa1 b2 sb3)))))
def spec_l12Fails_k0 {R : Type} (n : Nat) (kx1 : Option R) (kxr : Bool → Option R) (J : Int → Option R) (list3 : List SStow) (i4 : Int) (k8 : Int) (x6 : SStow) (s7 : SSpot) : Option R :=
  ix k8 list3.length ((bd (list3.getD k8.toNat dSStow) fun (e9 : SStow) => (bif (decide (e9.Box.Name = x6.Box.Name)) then kxr true else ix k8 list3.length ((bd (list3.getD k8.toNat dSStow) fun (e11 : SStow) => (bif ((decide (e11.Spot.Bay = s7.Bay)) && ((decide (e11.Spot.Row = s7.Row)) && (decide (e11.Spot.Tier = s7.Tier)))) then kxr true else J (w64 (k8 + (1 : Int)))))))))
def spec_l12Fails_L8 {R : Type} (n : Nat) (kx1 : Option R) (kxr : Bool → Option R) (J : Int → Option R) (list3 : List SStow) (i4 : Int) (k5 : Int) (x6 : SStow) (s7 : SSpot) : Option R :=
  (bif (decide (k5 < i4)) then spec_l12Fails_k0 n kx1 kxr J list3 i4 k5 x6 s7 else kx1)
def spec_l12Fails_k1 {R : Type} (n : Nat) (kx3 : Option R) (kxr : Bool → Option R) (J : Int → Option R) (list40 : List SStow) (i41 : Int) (k45 : Int) (x43 : SStow) (s44 : SSpot) : Option R :=
  ix k45 list40.length ((bd (list40.getD k45.toNat dSStow) fun (e46 : SStow) => ix k45 list40.length ((bd (list40.getD k45.toNat dSStow) fun (e47 : SStow) => (spec_KeepsApart n e46.Box e47.Spot x43.Box s44).bind fun r48 => (bif (!r48) then kxr true else J (w64 (k45 + (1 : Int))))))))
def spec_l12Fails_L22 {R : Type} (n : Nat) (kx3 : Option R) (kxr : Bool → Option R) (J : Int → Option R) (list40 : List SStow) (i41 : Int) (k42 : Int) (x43 : SStow) (s44 : SSpot) : Option R :=
  (bif (decide (k42 < i41)) then spec_l12Fails_k1 n kx3 kxr J list40 i41 k42 x43 s44 else kx3)
def spec_l12Fails (n : Nat) (bays0 : List SHatch) (list1 : List SStow) (i2 : Int) (code3 : Int) : Option Bool :=
  ix i2 list1.length ((bd (list1.getD i2.toNat dSStow) fun (e1 : SStow) => (bif (decide (code3 = (1 : Int))) then (spec_BoxOk n e1.Box).bind fun r2 => some ((!r2)) else (bif (decide (code3 = (2 : Int))) then loopN (fun (x : Int) J' => spec_l12Fails_L8 n (some (false)) (fun t16 => some (t16)) J' list1 i2 x e1 e1.Spot) n ((0 : Int)) else (bif (decide (code3 = (3 : Int))) then (bd (w64 ((bays0.length : Int) - (1 : Int))) fun (v18 : Int) => (spec_l1In n e1.Spot.Bay (0 : Int) v18).bind fun r19 => (bif (!r19) then some (true) else ix e1.Spot.Bay bays0.length ((bd (bays0.getD e1.Spot.Bay.toNat dSHatch) fun (e20 : SHatch) => (bd (w64 (e20.Rows - (1 : Int))) fun (v21 : Int) => (spec_l1In n e1.Spot.Row (0 : Int) v21).bind fun r22 => (bif (!r22) then some (true) else ix e1.Spot.Bay bays0.length ((bd (bays0.getD e1.Spot.Bay.toNat dSHatch) fun (e23 : SHatch) => (bd (w64 (e23.Tiers - (1 : Int))) fun (v24 : Int) => (spec_l1In n e1.Spot.Tier (0 : Int) v24).bind fun r25 => some ((!r25))))))))))) else (bif (decide (code3 = (4 : Int))) then (bif (decide (e1.Spot.Tier > (0 : Int))) then (bd (w64 (e1.Spot.Tier - (1 : Int))) fun (v27 : Int) => (spec_l12At n list1 (⟨e1.Spot.Bay, e1.Spot.Row, v27⟩ : SSpot)).bind fun r28 => some ((decide (r28 < (0 : Int))))) else some (false)) else (bif (decide (code3 = (5 : Int))) then (spec_l12Stack n list1 e1.Spot.Bay e1.Spot.Row).bind fun r30 => ix e1.Spot.Bay bays0.length ((bd (bays0.getD e1.Spot.Bay.toNat dSHatch) fun (e31 : SHatch) => (spec_StackOk n r30 e31.Most).bind fun r32 => some ((!r32)))) else (bif (decide (code3 = (6 : Int))) then (bif e1.Box.Cold then (spec_l12Cold n list1 e1.Spot.Bay).bind fun r33 => ix e1.Spot.Bay bays0.length ((bd (bays0.getD e1.Spot.Bay.toNat dSHatch) fun (e34 : SHatch) => some ((decide (r33 > e34.Plugs))))) else some (false)) else loopN (fun (x : Int) J' => spec_l12Fails_L22 n (some (false)) (fun t52 => some (t52)) J' list1 i2 x e1 e1.Spot) n ((0 : Int))))))))))
def spec_StowCode_L7 {R : Type} (n : Nat) (kx2 : Option R) (kxr : Int → Option R) (J : Int → Option R) (bays7 : List SHatch) (list8 : List SStow) (code9 : Int) (i10 : Int) : Option R :=
  (bif (decide (i10 < (list8.length : Int))) then (spec_l12Fails n bays7 list8 i10 code9).bind fun r14 => (bif r14 then kxr i10 else J (w64 (i10 + (1 : Int)))) else kx2)
def spec_StowCode_L4 {R : Type} (n : Nat) (kx0 : Option R) (kxr : Int → Int → Option R) (J : Int → Option R) (bays3 : List SHatch) (list4 : List SStow) (code5 : Int) : Option R :=
  (bif (decide (code5 ≤ (7 : Int))) then loopN (fun (x : Int) J' => spec_StowCode_L7 n ((bd (w64 (code5 + (1 : Int))) fun (v19 : Int) => J v19)) (fun t20 => kxr code5 t20) J' bays3 list4 code5 x) n ((0 : Int)) else kx0)
def spec_StowCode (n : Nat) (bays0 : List SHatch) (list1 : List SStow) : Option (Int × Int) :=
  (spec_HatchesOk n bays0).bind fun r1 => (bif (!r1) then some ((1 : Int), (0 : Int)) else (bif (decide ((list1.length : Int) > (40 : Int))) then some ((1 : Int), (0 : Int)) else loopN (fun (x : Int) J' => spec_StowCode_L4 n (some ((0 : Int), (0 : Int))) (fun t28 t29 => some (t28, t29)) J' bays0 list1 x) n ((1 : Int))))
def spec_l12Over_k0 {R : Type} (n : Nat) (kx2 : Int → Option R) (J : Int → Int → Option R) (list6 : List SStow) (n10 : Int) (i8 : Int) (k11 : Int) : Option R :=
  ix i8 list6.length ((bd (list6.getD i8.toNat dSStow) fun (e12 : SStow) => ix k11 list6.length ((bd (list6.getD k11.toNat dSStow) fun (e13 : SStow) => (bif (decide (e12.Spot.Bay = e13.Spot.Bay)) then (bif (decide (e12.Spot.Row = e13.Spot.Row)) then (bif (decide (e12.Spot.Tier > e13.Spot.Tier)) then (bif (decide (e12.Box.To > e13.Box.To)) then J (w64 (n10 + (1 : Int))) (w64 (k11 + (1 : Int))) else J n10 (w64 (k11 + (1 : Int)))) else J n10 (w64 (k11 + (1 : Int)))) else J n10 (w64 (k11 + (1 : Int)))) else J n10 (w64 (k11 + (1 : Int))))))))
def spec_l12Over_L6 {R : Type} (n : Nat) (kx2 : Int → Option R) (J : Int → Int → Option R) (list6 : List SStow) (n7 : Int) (i8 : Int) (k9 : Int) : Option R :=
  (bif (decide (k9 < (list6.length : Int))) then spec_l12Over_k0 n kx2 J list6 n7 i8 k9 else kx2 n7)
def spec_l12Over_L3 {R : Type} (n : Nat) (kx0 : Int → Option R) (J : Int → Int → Option R) (list1 : List SStow) (n2 : Int) (i3 : Int) : Option R :=
  (bif (decide (i3 < (list1.length : Int))) then loopN (fun (x : Int × Int) J' => spec_l12Over_L6 n (fun n42 => J n42 (w64 (i3 + (1 : Int)))) (fun n43 k44 => J' (n43, k44)) list1 x.1 i3 x.2) n (n2, (0 : Int)) else kx0 n2)
def spec_l12Over (n : Nat) (list0 : List SStow) : Option Int :=
  loopN (fun (x : Int × Int) J' => spec_l12Over_L3 n (fun n45 => some (n45)) (fun n46 i47 => J' (n46, i47)) list0 x.1 x.2) n ((0 : Int), (0 : Int))
def spec_l12Seek_k0 {R : Type} (n : Nat) (rc : List SHatch → List SBox → List SSpot → List SStow → List SStow → Bool → Option (List SStow × Bool)) (kx0 : Bool → List SStow → Option R) (J : Bool → Int → List SStow → Option R) (bays21 : List SHatch) (boxes22 : List SBox) (spots23 : List SSpot) (so24 : List SStow) (has28 : Bool) (i29 : Int) (best30 : List SStow) : Option R :=
  ix i29 spots23.length ((bd (spots23.getD i29.toNat dSSpot) fun (e31 : SSpot) => (spec_l12At n so24 e31).bind fun r32 => (bif (decide (r32 < (0 : Int))) then chk (decide (so24.length * 80 ≤ 140737488355328)) (ix (so24.length : Int) boxes22.length ((bd (boxes22.getD ((so24.length : Int).toNat) dSBox) fun (e33 : SBox) => ix i29 spots23.length ((bd (spots23.getD i29.toNat dSSpot) fun (e34 : SSpot) => (bd (so24 ++ [(⟨e33, e34⟩ : SStow)]) fun (l35 : List SStow) => chk (decide (l35.length * 80 ≤ 140737488355328)) ((rc bays21 boxes22 spots23 l35 best30 has28).bind fun r36 => J r36.2 (w64 (i29 + (1 : Int))) r36.1))))))) else J has28 (w64 (i29 + (1 : Int))) best30)))
def spec_l12Seek_L7 {R : Type} (n : Nat) (rc : List SHatch → List SBox → List SSpot → List SStow → List SStow → Bool → Option (List SStow × Bool)) (kx0 : Bool → List SStow → Option R) (J : Bool → Int → List SStow → Option R) (bays21 : List SHatch) (boxes22 : List SBox) (spots23 : List SSpot) (so24 : List SStow) (has25 : Bool) (i26 : Int) (best27 : List SStow) : Option R :=
  (bif (decide (i26 < (spots23.length : Int))) then spec_l12Seek_k0 n rc kx0 J bays21 boxes22 spots23 so24 has25 i26 best27 else kx0 has25 best27)
def spec_l12Seek_b (n : Nat) (rc : List SHatch → List SBox → List SSpot → List SStow → List SStow → Bool → Option (List SStow × Bool)) (bays0 : List SHatch) (boxes1 : List SBox) (spots2 : List SSpot) (so3 : List SStow) (best4 : List SStow) (has5 : Bool) : Option (List SStow × Bool) :=
  (bif (decide ((so3.length : Int) = (boxes1.length : Int))) then (spec_StowCode n bays0 so3).bind fun r1 => (bif (decide (r1.1 = (0 : Int))) then (bif (!has5) then chk (decide (so3.length * 80 ≤ 140737488355328)) (some (so3, true)) else (spec_l12Over n so3).bind fun r4 => (spec_l12Over n best4).bind fun r5 => (bif (decide (r4 < r5)) then chk (decide (so3.length * 80 ≤ 140737488355328)) (some (so3, true)) else some (best4, has5))) else some (best4, has5)) else loopN (fun (x : Bool × Int × List SStow) J' => spec_l12Seek_L7 n rc (fun has48 best49 => some (best49, has48)) (fun has50 i51 best52 => J' (has50, i51, best52)) bays0 boxes1 spots2 so3 x.1 x.2.1 x.2.2) n (has5, (0 : Int), best4))
def spec_l12Seek_r (n : Nat) : Nat → List SHatch → List SBox → List SSpot → List SStow → List SStow → Bool → Option (List SStow × Bool)
  | 0 => fun _ _ _ _ _ _ => none
  | m + 1 => fun bays0 boxes1 spots2 so3 best4 has5 => spec_l12Seek_b n (spec_l12Seek_r n m) bays0 boxes1 spots2 so3 best4 has5
def spec_l12Seek (n : Nat) (bays0 : List SHatch) (boxes1 : List SBox) (spots2 : List SSpot) (so3 : List SStow) (best4 : List SStow) (has5 : Bool) : Option (List SStow × Bool) := spec_l12Seek_r n n bays0 boxes1 spots2 so3 best4 has5
def spec_Fewest_L7 {R : Type} (n : Nat) (kx2 : Option R) (kxr : Bool → List SStow → Option R) (J : Int → Option R) (bays7 : List SHatch) (boxes8 : List SBox) (i9 : Int) (k10 : Int) : Option R :=
  (bif (decide (k10 < i9)) then ix k10 boxes8.length ((bd (boxes8.getD k10.toNat dSBox) fun (e15 : SBox) => ix i9 boxes8.length ((bd (boxes8.getD i9.toNat dSBox) fun (e16 : SBox) => (bif (decide (e15.Name = e16.Name)) then kxr false [] else J (w64 (k10 + (1 : Int)))))))) else kx2)
def spec_Fewest_k0 {R : Type} (n : Nat) (kx0 : Option R) (kxr : Bool → List SStow → Option R) (J : Int → Option R) (bays3 : List SHatch) (boxes4 : List SBox) (i6 : Int) : Option R :=
  loopN (fun (x : Int) J' => spec_Fewest_L7 n (ix i6 boxes4.length ((bd (boxes4.getD i6.toNat dSBox) fun (e18 : SBox) => (spec_BoxOk n e18).bind fun r19 => (bif (!r19) then kxr false [] else J (w64 (i6 + (1 : Int))))))) (fun t21 t22 => kxr t21 t22) J' bays3 boxes4 i6 x) n ((0 : Int))
def spec_Fewest_L4 {R : Type} (n : Nat) (kx0 : Option R) (kxr : Bool → List SStow → Option R) (J : Int → Option R) (bays3 : List SHatch) (boxes4 : List SBox) (i5 : Int) : Option R :=
  (bif (decide (i5 < (boxes4.length : Int))) then spec_Fewest_k0 n kx0 kxr J bays3 boxes4 i5 else kx0)
def spec_Fewest_L21 {R : Type} (n : Nat) (kx8 : List SSpot → Option R) (J : Int → List SSpot → Option R) (bays38 : List SHatch) (boxes39 : List SBox) (b40 : Int) (r41 : Int) (t42 : Int) (spots43 : List SSpot) : Option R :=
  ix b40 bays38.length ((bd (bays38.getD b40.toNat dSHatch) fun (e44 : SHatch) => (bif (decide (t42 < e44.Tiers)) then (bd (spots43 ++ [(⟨b40, r41, t42⟩ : SSpot)]) fun (l48 : List SSpot) => chk (decide (l48.length * 24 ≤ 140737488355328)) (J (w64 (t42 + (1 : Int))) l48)) else kx8 spots43)))
def spec_Fewest_L18 {R : Type} (n : Nat) (kx6 : List SSpot → Option R) (J : Int → List SSpot → Option R) (bays30 : List SHatch) (boxes31 : List SBox) (b32 : Int) (r33 : Int) (spots34 : List SSpot) : Option R :=
  ix b32 bays30.length ((bd (bays30.getD b32.toNat dSHatch) fun (e35 : SHatch) => (bif (decide (r33 < e35.Rows)) then loopN (fun (x : Int × List SSpot) J' => spec_Fewest_L21 n (fun spots52 => J (w64 (r33 + (1 : Int))) spots52) (fun t53 spots54 => J' (t53, spots54)) bays30 boxes31 b32 r33 x.1 x.2) n ((0 : Int), spots34) else kx6 spots34)))
def spec_Fewest_L15 {R : Type} (n : Nat) (kx4 : List SSpot → Option R) (J : Int → List SSpot → Option R) (bays24 : List SHatch) (boxes25 : List SBox) (b26 : Int) (spots27 : List SSpot) : Option R :=
  (bif (decide (b26 < (bays24.length : Int))) then loopN (fun (x : Int × List SSpot) J' => spec_Fewest_L18 n (fun spots58 => J (w64 (b26 + (1 : Int))) spots58) (fun r59 spots60 => J' (r59, spots60)) bays24 boxes25 b26 x.1 x.2) n ((0 : Int), spots27) else kx4 spots27)
def spec_Fewest_k1 (n : Nat)  (bays0 : List SHatch) (boxes1 : List SBox) : Option (List SStow × Bool) :=
  loopN (fun (x : Int) J' => spec_Fewest_L4 n (loopN (fun (x : Int × List SSpot) J' => spec_Fewest_L15 n (fun spots61 => (bif (decide ((spots61.length : Int) > (8 : Int))) then some ([], false) else (spec_l12Seek n bays0 boxes1 spots61 [] [] false).bind fun r64 => some (r64.1, r64.2))) (fun b65 spots66 => J' (b65, spots66)) bays0 boxes1 x.1 x.2) n ((0 : Int), [])) (fun t67 t68 => some (t68, t67)) J' bays0 boxes1 x) n ((0 : Int))
def spec_Fewest (n : Nat) (bays0 : List SHatch) (boxes1 : List SBox) : Option (List SStow × Bool) :=
  (spec_HatchesOk n bays0).bind fun r1 => (bif (!r1) then some ([], false) else (bif (decide ((boxes1.length : Int) > (5 : Int))) then some ([], false) else spec_Fewest_k1 n  bays0 boxes1))
def laws_at (n : Nat) (code0 : List Int) (i1 : Int) : Option Int :=
  (bif (decide (i1 < (code0.length : Int))) then ix i1 code0.length (some ((w64 (code0.getD i1.toNat (0 : Int))))) else (bd (w64 ((w64 (i1 * (7 : Int))) + (code0.length : Int))) fun (v3 : Int) => (bd (Int.tmod v3 (256 : Int)) fun (v4 : Int) => some (v4))))
def laws_overs_k0 {R : Type} (n : Nat) (kx2 : Int → Option R) (J : Int → Int → Option R) (list6 : List SStow) (n10 : Int) (i8 : Int) (k11 : Int) : Option R :=
  ix i8 list6.length ((bd (list6.getD i8.toNat dSStow) fun (e12 : SStow) => ix k11 list6.length ((bd (list6.getD k11.toNat dSStow) fun (e13 : SStow) => (bif (decide (e12.Spot.Bay = e13.Spot.Bay)) then (bif (decide (e12.Spot.Row = e13.Spot.Row)) then (bif (decide (e12.Spot.Tier > e13.Spot.Tier)) then (bif (decide (e12.Box.To > e13.Box.To)) then J (w64 (n10 + (1 : Int))) (w64 (k11 + (1 : Int))) else J n10 (w64 (k11 + (1 : Int)))) else J n10 (w64 (k11 + (1 : Int)))) else J n10 (w64 (k11 + (1 : Int)))) else J n10 (w64 (k11 + (1 : Int))))))))
def laws_overs_L6 {R : Type} (n : Nat) (kx2 : Int → Option R) (J : Int → Int → Option R) (list6 : List SStow) (n7 : Int) (i8 : Int) (k9 : Int) : Option R :=
  (bif (decide (k9 < (list6.length : Int))) then laws_overs_k0 n kx2 J list6 n7 i8 k9 else kx2 n7)
def laws_overs_L3 {R : Type} (n : Nat) (kx0 : Int → Option R) (J : Int → Int → Option R) (list1 : List SStow) (n2 : Int) (i3 : Int) : Option R :=
  (bif (decide (i3 < (list1.length : Int))) then loopN (fun (x : Int × Int) J' => laws_overs_L6 n (fun n42 => J n42 (w64 (i3 + (1 : Int)))) (fun n43 k44 => J' (n43, k44)) list1 x.1 i3 x.2) n (n2, (0 : Int)) else kx0 n2)
def laws_overs (n : Nat) (list0 : List SStow) : Option Int :=
  loopN (fun (x : Int × Int) J' => laws_overs_L3 n (fun n45 => some (n45)) (fun n46 i47 => J' (n46, i47)) list0 x.1 x.2) n ((0 : Int), (0 : Int))
def laws_FnFewest_k0 {R : Type} (n : Nat) (kx0 : Option R) (kxr : Bool → Option R) (J : Int → Option R) (code30 : List Int) (i35 : Int) (bays32 : List SHatch) (boxes33 : List SBox) (plan34 : List SStow) : Option R :=
  ix i35 plan34.length (chk (decide (i35.toNat < plan34.length)) ((bd (plan34.getD i35.toNat dSStow) fun (e36 : SStow) => ix i35 boxes33.length (chk (decide (i35.toNat < boxes33.length)) ((bd (boxes33.getD i35.toNat dSBox) fun (e37 : SBox) => (bif (!((decide (e36.Box.Name = e37.Name)) && ((decide (e36.Box.Weight = e37.Weight)) && ((decide (e36.Box.Class = e37.Class)) && ((e36.Box.Cold == e37.Cold) && ((decide (e36.Box.From = e37.From)) && (decide (e36.Box.To = e37.To)))))))) then kxr false else J (w64 (i35 + (1 : Int))))))))))
def laws_FnFewest_L12 {R : Type} (n : Nat) (kx0 : Option R) (kxr : Bool → Option R) (J : Int → Option R) (code30 : List Int) (i31 : Int) (bays32 : List SHatch) (boxes33 : List SBox) (plan34 : List SStow) : Option R :=
  (bif (decide (i31 < (plan34.length : Int))) then laws_FnFewest_k0 n kx0 kxr J code30 i31 bays32 boxes33 plan34 else kx0)
def laws_FnFewest_k1 {R : Type} (n : Nat) (kx2 : List SStow → Option R) (J : Int → List SStow → Option R) (code39 : List Int) (i44 : Int) (bays41 : List SHatch) (plan42 : List SStow) (other45 : List SStow) : Option R :=
  (laws_at n code39 i44).bind fun r46 => (bif decide ((w64 (i44 + (1 : Int))) = 0) then none else (bd (Int.tmod r46 (w64 (i44 + (1 : Int)))) fun (v47 : Int) => ix i44 other45.length (chk (decide (i44.toNat < other45.length)) ((bd (other45.getD i44.toNat dSStow) fun (e48 : SStow) => ix v47 other45.length (chk (decide (v47.toNat < other45.length)) ((bd (other45.getD v47.toNat dSStow) fun (e49 : SStow) => ix i44 other45.length (chk (decide (i44.toNat < other45.length)) ((bd (other45.getD i44.toNat dSStow) fun (e50 : SStow) => (bd (other45.set i44.toNat (⟨e50.Box, e49.Spot⟩ : SStow)) fun (l51 : List SStow) => ix v47 l51.length (chk (decide (v47.toNat < l51.length)) ((bd (l51.getD v47.toNat dSStow) fun (e52 : SStow) => (bd (l51.set v47.toNat (⟨e52.Box, e48.Spot⟩ : SStow)) fun (l53 : List SStow) => J (w64 (i44 + (1 : Int))) l53))))))))))))))))
def laws_FnFewest_L18 {R : Type} (n : Nat) (kx2 : List SStow → Option R) (J : Int → List SStow → Option R) (code39 : List Int) (i40 : Int) (bays41 : List SHatch) (plan42 : List SStow) (other43 : List SStow) : Option R :=
  (bif (decide (i40 < (other43.length : Int))) then laws_FnFewest_k1 n kx2 J code39 i40 bays41 plan42 other43 else kx2 other43)
def laws_FnFewest_k2 (n : Nat)  (code0 : List Int) (t27 : List SHatch) (t28 : List SBox) (t29 : List SStow) : Option Bool :=
  loopN (fun (x : Int) J' => laws_FnFewest_L12 n (chk (decide (t29.length * 80 ≤ 140737488355328)) (loopN (fun (x : Int × List SStow) J' => laws_FnFewest_L18 n (fun other54 => (impl_StowCode n t27 other54).bind fun r55 => (bif (!(decide (r55.1 = (0 : Int)))) then some (true) else (laws_overs n other54).bind fun r56 => (laws_overs n t29).bind fun r57 => some ((decide (r56 ≥ r57))))) (fun i59 other60 => J' (i59, other60)) code0 x.1 t27 t29 x.2) n ((1 : Int), t29))) (fun t61 => some (t61)) J' code0 x t27 t28 t29) n ((0 : Int))
def laws_FnFewest_k3 (n : Nat)  (code0 : List Int) : Option Bool :=
  (spec_DrawFewest n code0).bind fun r2 => (impl_Fewest n r2.1 r2.2).bind fun r3 => (spec_Fewest n r2.1 r2.2).bind fun r4 => (bif (!(r3.2 == r4.2)) then some ((r3.2 == r4.2)) else (bif (!r3.2) then some ((r3.2 == r4.2)) else (impl_StowCode n r2.1 r3.1).bind fun r80 => (bif (!(decide (r80.1 = (0 : Int)))) then some (false) else (bif (!(decide ((r3.1.length : Int) = (r2.2.length : Int)))) then some (false) else laws_FnFewest_k2 n  code0 r2.1 r2.2 r3.1))))
def laws_FnFewest (n : Nat) (code0 : List Int) : Option Bool :=
  (laws_big n code0).bind fun r1 => (bif r1 then some (true) else laws_FnFewest_k3 n  code0)
def rng (a b x : Int) : Prop := a ≤ x ∧ x ≤ b
def wfSHatch (x : SHatch) : Prop := rng (-9223372036854775808) 9223372036854775807 x.Rows ∧ rng (-9223372036854775808) 9223372036854775807 x.Tiers ∧ rng (-9223372036854775808) 9223372036854775807 x.Most ∧ rng (-9223372036854775808) 9223372036854775807 x.Plugs
def wfSBox (x : SBox) : Prop := x.Name.size ≤ 9223372036854775807 ∧ rng (-9223372036854775808) 9223372036854775807 x.Weight ∧ rng (-9223372036854775808) 9223372036854775807 x.Class ∧ True ∧ rng (-9223372036854775808) 9223372036854775807 x.From ∧ rng (-9223372036854775808) 9223372036854775807 x.To
def wfSl1Cur (x : Sl1Cur) : Prop := (x.b.length ≤ 9223372036854775807 ∧ ∀ y ∈ x.b, rng 0 255 y) ∧ rng (-9223372036854775808) 9223372036854775807 x.i ∧ rng (-9223372036854775808) 9223372036854775807 x.h
def wfSSpot (x : SSpot) : Prop := rng (-9223372036854775808) 9223372036854775807 x.Bay ∧ rng (-9223372036854775808) 9223372036854775807 x.Row ∧ rng (-9223372036854775808) 9223372036854775807 x.Tier
def wfSStow (x : SStow) : Prop := wfSBox x.Box ∧ wfSSpot x.Spot
end Go.Sm

section
set_option linter.unusedVariables false
namespace Go.Sm
/-! ### Of the words that printed functions are made of -/
theorem w64_id {x : Int} (h1 : -9223372036854775808 ≤ x) (h2 : x ≤ 9223372036854775807) : w64 x = x := by
  show (let m := x % (2 ^ 64 : Int); if (true && decide ((2 : Int) ^ 63 ≤ m)) = true then m - 2 ^ 64 else m) = x
  simp only [Bool.true_and, decide_eq_true_eq]
  split <;> omega
theorem chk_of {R : Type} {b : Bool} {x : Option R} (h : b = true) : chk b x = x := by rw [h]; rfl
theorem chk_dec {R : Type} {p : Prop} [Decidable p] {x : Option R} (h : p) : chk (decide p) x = x := chk_of (decide_eq_true h)
theorem ix_of {R : Type} {i : Int} {len : Nat} {x : Option R} (h0 : 0 ≤ i) (h1 : i < (len : Int)) : ix i len x = x := by
  unfold ix
  rw [decide_eq_true h0, decide_eq_true h1]
  rfl
theorem ix_nat {R : Type} {i len : Nat} {x : Option R} (h1 : i < len) : ix (i : Int) len x = x := ix_of (by omega) (by omega)
theorem bif_dec {α : Type} {p : Prop} [Decidable p] {x y : α} : (bif decide p then x else y) = if p then x else y := by
  by_cases h : p <;> simp [h]
theorem loopN_succ {X R : Type} (b : X → (X → Option R) → Option R) (m : Nat) (x : X) : loopN b (m + 1) x = b x (loopN b m) := rfl
/-- What holds of a loop: by what is left to go. -/
theorem loopN_ind {X R : Type} {b : X → (X → Option R) → Option R} (μ : X → Nat) (I : X → Prop) (Q : X → Option R → Prop)
    (h : ∀ x J, I x → (∀ y, I y → μ y < μ x → Q y (J y)) → Q x (b x J)) : ∀ n x, I x → μ x < n → Q x (loopN b n x)
  | 0, x, hi, hm => absurd hm (Nat.not_lt_zero _)
  | n + 1, x, hi, hm => h x (loopN b n) hi fun y hy hl => loopN_ind μ I Q h n y hy (by omega)
theorem getD_eq {α : Type} {l : List α} {i : Nat} {d : α} (h : i < l.length) : l.getD i d = l[i] := by
  simp [List.getD, h]
theorem w64_succ {k : Nat} (h : k < 9223372036854775807) : w64 ((k : Int) + 1) = ((k + 1 : Nat) : Int) := by
  rw [w64_id (by omega) (by omega)]
  rfl
theorem take_succ_getD {α : Type} {l : List α} {i : Nat} {d : α} (h : i < l.length) : l.take (i + 1) = l.take i ++ [l.getD i d] := by
  rw [List.take_succ, getD_eq h, List.getElem?_eq_getElem h]
  rfl
theorem bd_eq {α β : Type} (e : α) (f : α → β) : bd e f = f e := rfl
theorem bif_and' {α : Type} {a b : Bool} {x y : α} : (bif a then (bif b then x else y) else y) = bif a && b then x else y := by cases a <;> rfl
theorem bif_sf {a b : Bool} : (bif a then some b else some false) = some (a && b) := by cases a <;> rfl
theorem all_range_succ {p : Nat → Bool} {k : Nat} : (List.range (k + 1)).all p = ((List.range k).all p && p k) := by
  rw [List.range_succ, List.all_append]
  simp
theorem any_range_succ {p : Nat → Bool} {k : Nat} : (List.range (k + 1)).any p = ((List.range k).any p || p k) := by
  rw [List.range_succ, List.any_append]
  simp
theorem all_range_not {p : Nat → Bool} {k m : Nat} (hk : k < m) (h : p k = false) : (List.range m).all p = false := by
  rw [Bool.eq_false_iff]
  intro e
  rw [List.all_eq_true] at e
  rw [e k (List.mem_range.2 hk)] at h
  cases h
/-- A loop that looks at k = 0, 1, .. and leaves at the first that is not so. -/
theorem loop_all {R : Type} {b : Int → (Int → Option R) → Option R} {len : Nat} {p : Nat → Bool} {no yes : Option R} (hlen : len ≤ 9223372036854775807)
    (hstep : ∀ (k : Nat) (J : Int → Option R), k < len → (∀ j, j < k → p j = true) → b (k : Int) J = bif p k then J ((k + 1 : Nat) : Int) else no) (hfin : ∀ J, (∀ j, j < len → p j = true) → b (len : Int) J = yes) {n : Nat} (hn : len < n) :
    loopN b n (0 : Int) = bif (List.range len).all p then yes else no := by
  refine loopN_ind (fun x => len - x.toNat) (fun x => ∃ k : Nat, k ≤ len ∧ x = (k : Int) ∧ (List.range k).all p = true) (fun x r => r = bif (List.range len).all p then yes else no) ?_ n _ ⟨0, by omega, rfl, rfl⟩ (by simp; omega)
  rintro _ J ⟨k, hk, rfl, hb⟩ ih
  have hb' : ∀ j, j < k → p j = true := fun j hj => List.all_eq_true.1 hb j (List.mem_range.2 hj)
  by_cases h : k < len
  · rw [hstep k J h hb']
    cases hp : p k with
    | true => exact ih _ ⟨k + 1, h, rfl, by rw [all_range_succ, hb, hp]; rfl⟩ (by simp; omega)
    | false => rw [all_range_not h hp]; rfl
  · have : k = len := by omega
    subst this
    rw [hfin _ hb', hb]
    rfl
/-- A loop over 0 .. len that never leaves early; its state: I. -/
theorem loop_runS {S R : Type} {X : Type} {enc : Int → S → X} {b : X → (X → Option R) → Option R} {len : Nat} {I : Nat → S → Prop} {Q : Option R → Prop}
    (hstep : ∀ (k : Nat) (s : S) (J : X → Option R), k < len → I k s → ∃ s', I (k + 1) s' ∧ b (enc (k : Int) s) J = J (enc ((k + 1 : Nat) : Int) s')) (hfin : ∀ s J, I len s → Q (b (enc (len : Int) s) J)) {n : Nat} (hn : len < n) {s0 : S} (h0 : I 0 s0) :
    Q (loopN b n (enc (0 : Int) s0)) := by
  have key : ∀ m (k : Nat) (s : S) n, k + m = len → m < n → I k s → Q (loopN b n (enc (k : Int) s)) := by
    intro m
    induction m with
    | zero =>
      intro k s n hk hn hi
      have hk : k = len := by omega
      subst hk
      cases n with
      | zero => omega
      | succ n => rw [loopN_succ]; exact hfin s _ hi
    | succ m ih =>
      intro k s n hk hn hi
      cases n with
      | zero => omega
      | succ n =>
        rw [loopN_succ]
        obtain ⟨s', h1, h2⟩ := hstep k s (loopN b n) (by omega) hi
        rw [h2]
        exact ih (k + 1) s' n (by omega) (by omega) h1
  exact key len 0 s0 n (by omega) hn h0
/-! ### Sums over lists -/
theorem getD_set {α : Type} {l : List α} {k : Nat} {x d : α} (h : k < l.length) : (l.set k x).getD k d = x := by simp [List.getD, h]
theorem getD_set_ne {α : Type} {l : List α} {k j : Nat} {x d : α} (h : j ≠ k) : (l.set k x).getD j d = l.getD j d := by simp [List.getD, List.getElem?_set, Ne.symm h]
theorem getD_mem {α : Type} {l : List α} {k : Nat} {d : α} (h : k < l.length) : l.getD k d ∈ l := by rw [getD_eq h]; exact List.getElem_mem h
def idxOf (p : Nat → Bool) (m : Nat) : Int := match (List.range m).find? p with
  | some k => (k : Int)
  | none => -1
theorem find_range_none {p : Nat → Bool} {m : Nat} (h : ∀ j, j < m → p j = false) : (List.range m).find? p = none := by
  rw [List.find?_eq_none]
  intro x hx
  rw [h x (List.mem_range.1 hx)]
  simp
theorem find_range_some {p : Nat → Bool} {m k : Nat} (hk : k < m) (hp : p k = true) (h : ∀ j, j < k → p j = false) : (List.range m).find? p = some k := by
  have e : m = k + (m - k) := by omega
  rw [e, List.range_add, List.find?_append, find_range_none h, Option.none_or]
  obtain ⟨r, hr⟩ : ∃ r, m - k = r + 1 := ⟨m - k - 1, by omega⟩
  rw [hr, List.range_succ_eq_map]
  simp [hp]
theorem idxOf_ge (p : Nat → Bool) (m : Nat) : decide (idxOf p m ≥ 0) = (List.range m).any p := by
  unfold idxOf
  cases h : (List.range m).find? p with
  | none =>
    rw [List.find?_eq_none] at h
    rw [show (List.range m).any p = false from by rw [List.any_eq_false]; exact h]
    rfl
  | some k =>
    have h1 := List.find?_some h
    rw [show (List.range m).any p = true from List.any_eq_true.2 ⟨k, List.mem_of_find?_eq_some h, h1⟩]
    exact decide_eq_true (by show (0 : Int) ≤ (k : Int); omega)
theorem idxOf_lt (p : Nat → Bool) (m : Nat) : decide (idxOf p m < 0) = !(List.range m).any p := by
  rw [← idxOf_ge]
  by_cases h : idxOf p m < 0
  · rw [decide_eq_true h, decide_eq_false (by omega)]; rfl
  · rw [decide_eq_false h, decide_eq_true (by omega)]; rfl
theorem find_range (p : Nat → Bool) : ∀ m, ((List.range m).find? p = none ∧ ∀ j, j < m → p j = false) ∨ ∃ k, (List.range m).find? p = some k ∧ k < m ∧ p k = true ∧ ∀ j, j < k → p j = false
  | 0 => .inl ⟨rfl, fun j hj => absurd hj (Nat.not_lt_zero _)⟩
  | m + 1 => by
    rcases find_range p m with ⟨h1, h2⟩ | ⟨k, h1, h2, h3, h4⟩
    · cases hp : p m with
      | true => exact .inr ⟨m, find_range_some (by omega) hp h2, by omega, hp, h2⟩
      | false =>
        have : ∀ j, j < m + 1 → p j = false := fun j hj => by
          by_cases e : j = m
          · rw [e]; exact hp
          · exact h2 j (by omega)
        exact .inl ⟨find_range_none this, this⟩
    · exact .inr ⟨k, find_range_some (by omega) h3 h4, by omega, h3, h4⟩
theorem idxOf_spec (p : Nat → Bool) (m : Nat) : (idxOf p m = -1 ∧ ∀ j, j < m → p j = false) ∨ ∃ k : Nat, idxOf p m = (k : Int) ∧ k < m ∧ p k = true ∧ ∀ j, j < k → p j = false := by
  unfold idxOf
  rcases find_range p m with ⟨h1, h2⟩ | ⟨k, h1, h2, h3, h4⟩
  · rw [h1]; exact .inl ⟨rfl, h2⟩
  · rw [h1]; exact .inr ⟨k, rfl, h2, h3, h4⟩
/-- A loop that looks at k = 0, 1, .. and leaves at the first that is so. -/
theorem loop_find {R : Type} {b : Int → (Int → Option R) → Option R} {len : Nat} {p : Nat → Bool} {yes : Nat → Option R} {no : Option R} (hlen : len ≤ 9223372036854775807)
    (hstep : ∀ (k : Nat) (J : Int → Option R), k < len → (∀ j, j < k → p j = false) → b (k : Int) J = bif p k then yes k else J ((k + 1 : Nat) : Int)) (hfin : ∀ J, (∀ j, j < len → p j = false) → b (len : Int) J = no) {n : Nat} (hn : len < n) :
    loopN b n (0 : Int) = match (List.range len).find? p with | some k => yes k | none => no := by
  refine loopN_ind (fun x => len - x.toNat) (fun x => ∃ k : Nat, k ≤ len ∧ x = (k : Int) ∧ ∀ j, j < k → p j = false) (fun x r => r = match (List.range len).find? p with | some k => yes k | none => no) ?_ n _ ⟨0, by omega, rfl, fun j hj => absurd hj (Nat.not_lt_zero _)⟩ (by simp; omega)
  rintro _ J ⟨k, hk, rfl, hb⟩ ih
  by_cases h : k < len
  · rw [hstep k J h hb]
    cases hp : p k with
    | false => exact ih _ ⟨k + 1, h, rfl, fun j hj => by
        by_cases e : j = k
        · rw [e]; exact hp
        · exact hb j (by omega)⟩ (by simp; omega)
    | true => rw [find_range_some h hp hb]; rfl
  · have : k = len := by omega
    subst this
    rw [hfin _ hb, find_range_none hb]
theorem loop_idx {b : Int → (Int → Option Int) → Option Int} {len : Nat} {p : Nat → Bool} (hlen : len ≤ 9223372036854775807)
    (hstep : ∀ (k : Nat) (J : Int → Option Int), k < len → (∀ j, j < k → p j = false) → b (k : Int) J = bif p k then some (k : Int) else J ((k + 1 : Nat) : Int)) (hfin : ∀ J, (∀ j, j < len → p j = false) → b (len : Int) J = some (-1)) {n : Nat} (hn : len < n) :
    loopN b n (0 : Int) = some (idxOf p len) := by
  rw [loop_find (yes := fun k => some (k : Int)) (no := some (-1)) hlen hstep hfin hn]
  unfold idxOf
  cases (List.range len).find? p <;> rfl
theorem byteAt_rng (s : ByteArray) (k : Nat) : 0 ≤ byteAt s k ∧ byteAt s k ≤ 255 := by
  unfold byteAt
  have := (s.data.getD k 0).toNat_lt
  omega
theorem any_congr_lt {p q : Nat → Bool} {m : Nat} (h : ∀ k, k < m → p k = q k) : (List.range m).any p = (List.range m).any q := by
  rw [Bool.eq_iff_iff, List.any_eq_true, List.any_eq_true]
  constructor
  · rintro ⟨x, hx, g⟩; exact ⟨x, hx, by rw [← h x (List.mem_range.1 hx)]; exact g⟩
  · rintro ⟨x, hx, g⟩; exact ⟨x, hx, by rw [h x (List.mem_range.1 hx)]; exact g⟩
end Go.Sm
end

section
set_option linter.unusedVariables false
set_option linter.unusedSimpArgs false
namespace Go.Sm
attribute [local irreducible] bd chk ix loopN
end Go.Sm
end

section
set_option linter.unusedVariables false
set_option linter.unusedSimpArgs false
namespace Go.Sm
attribute [local irreducible] bd chk ix loopN
/-! ### Draws -/
structure CurOk (c : Sl1Cur) : Prop where
  i : 0 ≤ c.i ∧ c.i ≤ (c.b.length : Int)
  len : c.b.length ≤ 1048576
theorem and255 (v : Int) : 0 ≤ w64 (((BitVec.ofInt 64 v &&& BitVec.ofInt 64 (255 : Int)).toNat : Nat) : Int) ∧ w64 (((BitVec.ofInt 64 v &&& BitVec.ofInt 64 (255 : Int)).toNat : Nat) : Int) ≤ 255 := by
  have h : (BitVec.ofInt 64 v &&& BitVec.ofInt 64 (255 : Int)).toNat ≤ 255 := by
    rw [BitVec.toNat_and]
    exact Nat.and_le_right
  rw [w64_id (by omega) (by omega)]
  omega
theorem byte_ok {n : Nat} {c : Sl1Cur} (h : CurOk c) : ∃ v c', spec_l1Byte n c = some (v, c') ∧ (0 ≤ v ∧ v ≤ 255) ∧ CurOk c' := by
  have h1 := h.i
  have h2 := h.len
  unfold spec_l1Byte
  simp only [bd_eq]
  by_cases hc : c.i < (c.b.length : Int)
  · rw [decide_eq_true hc, cond_true, ix_of h1.1 hc]
    refine ⟨_, _, rfl, and255 _, ⟨?_, h2⟩⟩
    show 0 ≤ w64 (c.i + 1) ∧ w64 (c.i + 1) ≤ (c.b.length : Int)
    rw [w64_id (by omega) (by omega)]
    omega
  · rw [decide_eq_false hc, cond_false]
    exact ⟨_, _, rfl, and255 _, ⟨h1, h2⟩⟩
theorem below_ok {n : Nat} {c : Sl1Cur} (h : CurOk c) {m : Int} (hm : 1 ≤ m ∧ m ≤ 256) : ∃ v c', spec_l1Below n c m = some (v, c') ∧ (0 ≤ v ∧ v < m) ∧ CurOk c' := by
  obtain ⟨v, c', h1, h2, h3⟩ := byte_ok (n := n) h
  unfold spec_l1Below
  rw [decide_eq_false (show ¬ m ≤ 0 by omega), cond_false, decide_eq_true (show m ≤ 256 by omega), cond_true, h1, Option.bind_some, decide_eq_false (show ¬ m = 0 by omega), cond_false]
  exact ⟨_, _, rfl, ⟨Int.tmod_nonneg _ h2.1, Int.tmod_lt_of_pos _ (by omega)⟩, h3⟩
theorem new_ok {n : Nat} (code : List Int) (hc : code.length ≤ 1048576) (hn : 1000000000 < n) : ∃ c, spec_l1New n code = some c ∧ CurOk c := by
  have hw : w64 ((59059 : Int) + (code.length : Int)) = 59059 + (code.length : Int) := w64_id (by omega) (by omega)
  unfold spec_l1New
  rw [bd_eq]
  have key : ∀ m k h fu, k + m = code.length → m < fu → ∃ c, loopN (fun (x : Int × Int) J' => spec_l1New_L3 n (fun h16 => some ((⟨code, (0 : Int), h16⟩ : Sl1Cur))) (fun h17 i18 => J' (h17, i18)) code x.1 x.2) fu (h, (k : Int)) = some c ∧ CurOk c := by
    intro m
    induction m with
    | zero =>
      intro k h fu hk hfu
      obtain ⟨f, rfl⟩ : ∃ f, fu = f + 1 := ⟨fu - 1, by omega⟩
      rw [loopN_succ]
      refine ⟨⟨code, 0, h⟩, ?_, ⟨by show (0 : Int) ≤ 0 ∧ (0 : Int) ≤ (code.length : Int); omega, hc⟩⟩
      show spec_l1New_L3 n _ _ code h (k : Int) = _
      unfold spec_l1New_L3
      rw [decide_eq_false (by omega), cond_false]
    | succ m ih =>
      intro k h fu hk hfu
      obtain ⟨f, rfl⟩ : ∃ f, fu = f + 1 := ⟨fu - 1, by omega⟩
      rw [loopN_succ]
      have hstep : ∀ J : Int → Int → Option Sl1Cur, ∃ h', spec_l1New_L3 n (fun h16 => some ((⟨code, (0 : Int), h16⟩ : Sl1Cur))) J code h (k : Int) = J h' ((k + 1 : Nat) : Int) ∨ spec_l1New_L3 n (fun h16 => some ((⟨code, (0 : Int), h16⟩ : Sl1Cur))) J code h (k : Int) = some ⟨code, 0, h⟩ := by
        intro J
        unfold spec_l1New_L3 spec_l1New_k0
        rw [decide_eq_true (show (k : Int) < (code.length : Int) by omega), cond_true]
        cases decide ((k : Int) < 4000) with
        | true =>
          rw [cond_true, ix_nat (by omega), bd_eq, bd_eq, w64_succ (show k < 9223372036854775807 by omega)]
          exact ⟨_, .inl rfl⟩
        | false => exact ⟨0, .inr rfl⟩
      obtain ⟨h', e | e⟩ := hstep (fun h17 i18 => loopN (fun (x : Int × Int) J' => spec_l1New_L3 n (fun h16 => some ((⟨code, (0 : Int), h16⟩ : Sl1Cur))) (fun h17 i18 => J' (h17, i18)) code x.1 x.2) f (h17, i18))
      · obtain ⟨c, g1, g2⟩ := ih (k + 1) h' f (by omega) (by omega)
        exact ⟨c, e.trans g1, g2⟩
      · exact ⟨⟨code, 0, h⟩, e, ⟨by show (0 : Int) ≤ 0 ∧ (0 : Int) ≤ (code.length : Int); omega, hc⟩⟩
  exact key code.length 0 _ n (by omega) (by omega)
theorem wu8_id {x : Int} (h1 : 0 ≤ x) (h2 : x ≤ 255) : wu8 x = x := by
  show (let m := x % (2 ^ 8 : Int); if (false && decide ((2 : Int) ^ 7 ≤ m)) = true then m - 2 ^ 8 else m) = x
  simp only [Bool.false_and, Bool.false_eq_true, if_false]
  omega
theorem in_specB (n : Nat) (x a b : Int) : spec_l1In n x a b = some (decide (a ≤ x ∧ x ≤ b)) := by
  unfold spec_l1In
  by_cases h0 : a ≤ x <;> by_cases h1 : x ≤ b <;> simp [h0, h1]
theorem in_implB (n : Nat) (x a b : Int) : impl_in n x a b = some (decide (a ≤ x ∧ x ≤ b)) := by
  unfold impl_in
  by_cases h0 : a ≤ x <;> by_cases h1 : x ≤ b <;> simp [h0, h1]
/-! ### What a letter counts -/
def letU : Nat → Int
  | 0 => 10
  | k + 1 => if Int.tmod (letU k + 1) 11 = 0 then letU k + 2 else letU k + 1
theorem letU_rng : ∀ k, 0 ≤ letU k ∧ letU k ≤ 10 + 2 * (k : Int)
  | 0 => ⟨by decide, by decide⟩
  | k + 1 => by
    have := letU_rng k
    unfold letU
    split <;> omega
theorem letter_spec {n : Nat} (K : Nat) (hK : K ≤ 1000) (hn : 1000000000 < n) : spec_l11Letter n (K : Int) = some (letU K) := by
  unfold spec_l11Letter
  refine loopN_ind (fun x => x.1.toNat) (fun x => ∃ j : Nat, x.1 = (j : Int) ∧ j ≤ K ∧ x.2 = letU (K - j)) (fun x r => r = some (letU K)) ?_ n _ ⟨K, rfl, Nat.le_refl _, by simp; rfl⟩ (by simp; omega)
  rintro ⟨_, _⟩ J ⟨j, rfl, hj, rfl⟩ ih
  show spec_l11Letter_L2 n _ _ (j : Int) (letU (K - j)) = _
  unfold spec_l11Letter_L2
  cases j with
  | zero => rw [decide_eq_false (by omega), cond_false]; rfl
  | succ j =>
    have hb := letU_rng (K - (j + 1))
    have e : letU (K - j) = if Int.tmod (letU (K - (j + 1)) + 1) 11 = 0 then letU (K - (j + 1)) + 2 else letU (K - (j + 1)) + 1 := by
      rw [show K - j = (K - (j + 1)) + 1 from by omega]; rfl
    rw [decide_eq_true (by omega), cond_true]
    simp only [bd_eq]
    rw [w64_id (x := letU (K - (j + 1)) + 1) (by omega) (by omega), show w64 (((j + 1 : Nat) : Int) - 1) = (j : Int) from by rw [w64_id (by omega) (by omega)]; omega, w64_id (x := letU (K - (j + 1)) + 1 + 1) (by omega) (by omega), bif_dec]
    split
    · rename_i h0
      rw [if_pos h0] at e
      exact ih _ ⟨j, rfl, by omega, by rw [e]; dsimp only; omega⟩ (by simp)
    · rename_i h0
      rw [if_neg h0] at e
      exact ih _ ⟨j, rfl, by omega, by rw [e]⟩ (by simp)
theorem value_impl {n : Nat} {c : Int} (hc : 65 ≤ c ∧ c ≤ 255) (hn : 1000000000 < n) : impl_valueOf n c = some (letU (c - 65).toNat) := by
  unfold impl_valueOf
  refine loopN_ind (fun x => (c - x.2).toNat) (fun x => ∃ j : Nat, x.2 = 65 + (j : Int) ∧ 65 + (j : Int) ≤ c ∧ x.1 = letU j) (fun x r => r = some (letU (c - 65).toNat)) ?_ n _ ⟨0, rfl, by omega, rfl⟩ (by dsimp only; omega)
  rintro ⟨_, _⟩ J ⟨j, rfl, hj, rfl⟩ ih
  show impl_valueOf_L3 n _ _ c (letU j) (65 + (j : Int)) = _
  unfold impl_valueOf_L3
  have hb := letU_rng j
  by_cases h : 65 + (j : Int) < c
  · have e : letU (j + 1) = if Int.tmod (letU j + 1) 11 = 0 then letU j + 2 else letU j + 1 := rfl
    have hu : wu8 (65 + (j : Int) + 1) = 65 + ((j + 1 : Nat) : Int) := by
      rw [wu8_id (by omega) (by omega)]; omega
    rw [decide_eq_true h, cond_true]
    simp only [bd_eq]
    rw [w64_id (x := letU j + 1) (by omega) (by omega), w64_id (x := letU j + 1 + 1) (by omega) (by omega), bif_dec, hu]
    split
    · rename_i h0
      rw [if_pos h0] at e
      exact ih _ ⟨j + 1, rfl, by omega, by rw [e]; dsimp only; omega⟩ (by dsimp only; omega)
    · rename_i h0
      rw [if_neg h0] at e
      exact ih _ ⟨j + 1, rfl, by omega, by rw [e]⟩ (by dsimp only; omega)
  · rw [decide_eq_false h, cond_false]
    rw [show (c - 65).toNat = j from by omega]
/-! ### The check digit -/
def chV (s : ByteArray) (i : Nat) : Option Int :=
  if i < 4 then (if 65 ≤ byteAt s i ∧ byteAt s i ≤ 90 then some (letU (byteAt s i - 65).toNat) else none)
  else if 48 ≤ byteAt s i ∧ byteAt s i ≤ 57 then some (byteAt s i - 48) else none
def cdStep (a v : Int) (i : Nat) : Int := w64 (a + w64 (v * 2 ^ (min i 64)))
def cdU (s : ByteArray) : Nat → Option Int
  | 0 => some 0
  | i + 1 => match cdU s i, chV s i with
    | some a, some v => some (cdStep a v i)
    | _, _ => none
def cdR (s : ByteArray) : Int := if (s.size : Int) = 10 then (match cdU s 10 with
  | some a => Int.tmod (Int.tmod a 11) 10
  | none => -1) else -1
theorem cdR_rng (s : ByteArray) : -9 ≤ cdR s ∧ cdR s ≤ 9 := by
  have key : ∀ a : Int, -9 ≤ Int.tmod a 10 ∧ Int.tmod a 10 ≤ 9 := fun a => by
    have h1 := Int.tmod_lt_of_pos a (show (0 : Int) < 10 by omega)
    have h2 := Int.tmod_lt_of_pos (-a) (show (0 : Int) < 10 by omega)
    rw [Int.neg_tmod] at h2
    omega
  unfold cdR
  split
  · split
    · exact key _
    · omega
  · omega
theorem cdU_none {s : ByteArray} {i : Nat} (h : cdU s i = none) : ∀ j, cdU s (i + j) = none
  | 0 => h
  | j + 1 => by
    show (match cdU s (i + j), chV s (i + j) with | some a, some v => some (cdStep a v (i + j)) | _, _ => none) = none
    rw [cdU_none h j]
theorem cdR_stop {s : ByteArray} (hs : (s.size : Int) = 10) {i : Nat} (hi : i < 10) (h : chV s i = none) : cdR s = -1 := by
  have h1 : cdU s (i + 1) = none := by
    show (match cdU s i, chV s i with | some a, some v => some (cdStep a v i) | _, _ => none) = none
    rw [h]
    split
    · rename_i h2; cases h2
    · rfl
  have h2 := cdU_none h1 (10 - (i + 1))
  rw [show i + 1 + (10 - (i + 1)) = 10 from by omega] at h2
  unfold cdR
  rw [if_pos hs, h2]
theorem cdU_succ {s : ByteArray} {i : Nat} {a v : Int} (h : cdU s i = some a) (hv : chV s i = some v) : cdU s (i + 1) = some (cdStep a v i) := by
  show (match cdU s i, chV s i with | some a, some v => some (cdStep a v i) | _, _ => none) = _
  rw [h, hv]
theorem check_spec {n : Nat} (s : ByteArray) (hn : 1000000000 < n) : spec_CheckDigit n s = some (cdR s) := by
  unfold spec_CheckDigit
  by_cases hs : (s.size : Int) = 10
  · rw [decide_eq_true hs, Bool.not_true, cond_false]
    unfold spec_CheckDigit_k3
    refine loopN_ind (fun x => 10 - x.2.toNat) (fun x => ∃ i : Nat, x.2 = (i : Int) ∧ i ≤ 10 ∧ cdU s i = some x.1) (fun x r => r = some (cdR s)) ?_ n _ ⟨0, rfl, by omega, rfl⟩ (by simp; omega)
    rintro ⟨a, _⟩ J ⟨i, rfl, hi, ha⟩ ih
    dsimp only at ha
    show spec_CheckDigit_L5 n _ _ _ s a (i : Int) = _
    unfold spec_CheckDigit_L5
    by_cases h : i < 10
    · rw [decide_eq_true (by omega), cond_true]
      unfold spec_CheckDigit_k2
      have hb := byteAt_rng s i
      have hw : w64 (byteAt s i) = byteAt s i := w64_id (by omega) (by omega)
      have go : ∀ v, chV s i = some v → J (w64 (a + w64 (v * 2 ^ (min i 64))), ((i + 1 : Nat) : Int)) = some (cdR s) := fun v hv => ih _ ⟨i + 1, rfl, by omega, cdU_succ ha hv⟩ (by simp; omega)
      have stop : chV s i = none → some (-1) = some (cdR s) := fun hv => by rw [cdR_stop hs h hv]
      have digit : ¬ i < 4 → spec_CheckDigit_k1 n (fun sum58 => (bd (Int.tmod sum58 (11 : Int)) fun (v59 : Int) => (bd (Int.tmod v59 (10 : Int)) fun (v60 : Int) => some (v60)))) (fun t61 => some (t61)) (fun sum62 i63 => J (sum62, i63)) s a (i : Int) (byteAt s i) = some (cdR s) := fun h4 => by
        unfold spec_CheckDigit_k1
        rw [decide_eq_true (by omega), cond_true, in_specB, Option.bind_some]
        have e : chV s i = if 48 ≤ byteAt s i ∧ byteAt s i ≤ 57 then some (byteAt s i - 48) else none := by unfold chV; rw [if_neg h4]
        by_cases hd : 48 ≤ byteAt s i ∧ byteAt s i ≤ 57
        · rw [if_pos hd] at e
          rw [decide_eq_true hd, cond_true, chk_dec (by omega), bd_eq, w64_succ (show i < 9223372036854775807 by omega), Int.toNat_natCast, w64_id (x := byteAt s i - 48) (by omega) (by omega)]
          exact go _ e
        · rw [if_neg hd] at e
          rw [decide_eq_false hd, cond_false]
          exact stop e
      rw [ix_of (by omega) (by omega), Int.toNat_natCast, hw]
      by_cases h4 : i < 4
      · have e : chV s i = if 65 ≤ byteAt s i ∧ byteAt s i ≤ 90 then some (letU (byteAt s i - 65).toNat) else none := by unfold chV; rw [if_pos h4]
        rw [decide_eq_true (by omega), cond_true, in_specB, Option.bind_some]
        unfold spec_CheckDigit_k0
        by_cases hd : 65 ≤ byteAt s i ∧ byteAt s i ≤ 90
        · rw [if_pos hd] at e
          obtain ⟨m, hm⟩ : ∃ m : Nat, byteAt s i - 65 = (m : Int) := ⟨(byteAt s i - 65).toNat, by omega⟩
          rw [decide_eq_true hd, cond_true, w64_id (x := byteAt s i - 65) (by omega) (by omega), hm, letter_spec m (by omega) hn, Option.bind_some, chk_dec (by omega), bd_eq, w64_succ (show i < 9223372036854775807 by omega), Int.toNat_natCast]
          rw [hm, Int.toNat_natCast] at e
          exact go _ e
        · rw [if_neg hd] at e
          rw [decide_eq_false hd, cond_false, decide_eq_false (show ¬ (i : Int) ≥ 4 by omega), cond_false]
          exact stop e
      · rw [decide_eq_false (by omega), cond_false]
        exact digit h4
    · have : i = 10 := by omega
      subst this
      rw [decide_eq_false (by omega), cond_false]
      simp only [bd_eq]
      unfold cdR
      rw [if_pos hs, ha]
  · rw [decide_eq_false hs, Bool.not_false, cond_true]
    unfold cdR
    rw [if_neg hs]
theorem check_impl {n : Nat} (s : ByteArray) (hn : 1000000000 < n) : impl_CheckDigit n s = some (cdR s) := by
  unfold impl_CheckDigit
  by_cases hs : (s.size : Int) = 10
  · rw [decide_eq_true hs, Bool.not_true, cond_false]
    unfold impl_CheckDigit_k3
    refine loopN_ind (fun x => 10 - x.2.toNat) (fun x => ∃ i : Nat, x.2 = (i : Int) ∧ i ≤ 10 ∧ cdU s i = some x.1) (fun x r => r = some (cdR s)) ?_ n _ ⟨0, rfl, by omega, rfl⟩ (by simp; omega)
    rintro ⟨a, _⟩ J ⟨i, rfl, hi, ha⟩ ih
    dsimp only at ha
    show impl_CheckDigit_L5 n _ _ _ s a (i : Int) = _
    unfold impl_CheckDigit_L5
    by_cases h : i < 10
    · rw [decide_eq_true (by omega), cond_true]
      unfold impl_CheckDigit_k2
      have hb := byteAt_rng s i
      have go : ∀ v, chV s i = some v → J (w64 (a + w64 (v * 2 ^ (min i 64))), ((i + 1 : Nat) : Int)) = some (cdR s) := fun v hv => ih _ ⟨i + 1, rfl, by omega, cdU_succ ha hv⟩ (by simp; omega)
      have stop : chV s i = none → some (-1) = some (cdR s) := fun hv => by rw [cdR_stop hs h hv]
      have digit : (¬ i < 4 ∨ chV s i = none) → impl_CheckDigit_k1 n (fun sum77 => (bd (Int.tmod sum77 (11 : Int)) fun (v78 : Int) => (bd (Int.tmod v78 (10 : Int)) fun (v79 : Int) => some (v79)))) (fun t80 => some (t80)) (fun sum81 t82 => J (sum81, t82)) s a (i : Int) (byteAt s i) (i : Int) = some (cdR s) := fun h4 => by
        unfold impl_CheckDigit_k1
        by_cases h5 : i < 4
        · rw [decide_eq_false (by omega), cond_false]
          exact stop (h4.resolve_left (fun x => x h5))
        · rw [decide_eq_true (by omega), cond_true]
          have e : chV s i = if 48 ≤ byteAt s i ∧ byteAt s i ≤ 57 then some (byteAt s i - 48) else none := by unfold chV; rw [if_neg h5]
          by_cases hd : 48 ≤ byteAt s i ∧ byteAt s i ≤ 57
          · rw [if_pos hd] at e
            rw [decide_eq_true (show byteAt s i ≥ 48 from hd.1), cond_true, decide_eq_true hd.2, cond_true, chk_dec (by omega), bd_eq, w64_succ (show i < 9223372036854775807 by omega), Int.toNat_natCast, wu8_id (x := byteAt s i - 48) (by omega) (by omega), w64_id (x := byteAt s i - 48) (by omega) (by omega)]
            exact go _ e
          · rw [if_neg hd] at e
            by_cases h6 : byteAt s i ≥ 48
            · rw [decide_eq_true h6, cond_true, decide_eq_false (show ¬ byteAt s i ≤ 57 by omega), cond_false]
              exact stop e
            · rw [decide_eq_false h6, cond_false]
              exact stop e
      rw [ix_of (by omega) (by omega), Int.toNat_natCast]
      by_cases h4 : i < 4
      · have e : chV s i = if 65 ≤ byteAt s i ∧ byteAt s i ≤ 90 then some (letU (byteAt s i - 65).toNat) else none := by unfold chV; rw [if_pos h4]
        rw [decide_eq_true (by omega), cond_true]
        by_cases hd : 65 ≤ byteAt s i ∧ byteAt s i ≤ 90
        · rw [if_pos hd] at e
          unfold impl_CheckDigit_k0
          rw [decide_eq_true (show byteAt s i ≥ 65 from hd.1), cond_true, decide_eq_true hd.2, cond_true, value_impl ⟨hd.1, hb.2⟩ hn, Option.bind_some, chk_dec (by omega), bd_eq, w64_succ (show i < 9223372036854775807 by omega), Int.toNat_natCast]
          exact go _ e
        · rw [if_neg hd] at e
          by_cases h6 : byteAt s i ≥ 65
          · unfold impl_CheckDigit_k0
            rw [decide_eq_true h6, cond_true, decide_eq_false (show ¬ byteAt s i ≤ 90 by omega), cond_false, decide_eq_false (show ¬ (i : Int) ≥ 4 by omega), cond_false]
            exact stop e
          · rw [decide_eq_false h6, cond_false]
            exact digit (.inr e)
      · rw [decide_eq_false (by omega), cond_false]
        exact digit (.inl h4)
    · have : i = 10 := by omega
      subst this
      rw [decide_eq_false (by omega), cond_false]
      simp only [bd_eq]
      unfold cdR
      rw [if_pos hs, ha]
  · rw [decide_eq_false hs, Bool.not_false, cond_true]
    unfold cdR
    rw [if_neg hs]
/-! ### Boxes -/
def nameB (s : ByteArray) : Bool := decide ((s.size : Int) = 11) && (decide (cdR (s.extract 0 10) ≥ 0) && decide (byteAt s 10 = 48 + cdR (s.extract 0 10)))
theorem nameB_spec {n : Nat} (s : ByteArray) (hn : 1000000000 < n) : spec_BoxName n s = some (nameB s) := by
  unfold spec_BoxName nameB
  by_cases h : (s.size : Int) = 11
  · have hr := cdR_rng (s.extract 0 10)
    have hb := byteAt_rng s 10
    rw [decide_eq_true h, Bool.not_true, cond_false, chk_dec (by omega), check_spec _ hn, Option.bind_some, ix_of (by omega) (by omega), w64_id (x := byteAt s 10) (by omega) (by omega), w64_id (x := 48 + cdR (s.extract 0 10)) (by omega) (by omega)]
    cases decide (cdR (s.extract 0 10) ≥ 0) <;> rfl
  · rw [decide_eq_false h]; rfl
theorem nameB_impl {n : Nat} (s : ByteArray) (hn : 1000000000 < n) : impl_BoxName n s = some (nameB s) := by
  unfold impl_BoxName nameB
  by_cases h : (s.size : Int) = 11
  · have hr := cdR_rng (s.extract 0 10)
    have hb := byteAt_rng s 10
    rw [decide_eq_true h, Bool.not_true, cond_false, chk_dec (by omega), check_impl _ hn, Option.bind_some, ix_of (by omega) (by omega), w64_id (x := 48 + cdR (s.extract 0 10)) (by omega) (by omega)]
    by_cases h0 : cdR (s.extract 0 10) ≥ 0
    · rw [decide_eq_true h0, cond_true, wu8_id (by omega) (by omega)]; rfl
    · rw [decide_eq_false h0]; rfl
  · rw [decide_eq_false h]; rfl
def boxB (b : SBox) : Bool := nameB b.Name && (decide (1 ≤ b.Weight ∧ b.Weight ≤ 40000) && (decide (0 ≤ b.Class ∧ b.Class ≤ 9) && (decide (0 ≤ b.From ∧ b.From ≤ 19) && decide (b.From < b.To ∧ b.To ≤ 19))))
theorem boxB_spec {n : Nat} (b : SBox) (hn : 1000000000 < n) : spec_BoxOk n b = some (boxB b) := by
  unfold spec_BoxOk boxB
  rw [nameB_spec _ hn]
  simp only [in_specB, Option.bind_some, bd_eq]
  cases nameB b.Name with
  | false => rfl
  | true =>
    cases decide (1 ≤ b.Weight ∧ b.Weight ≤ 40000) with
    | false => rfl
    | true =>
      cases decide (0 ≤ b.Class ∧ b.Class ≤ 9) with
      | false => rfl
      | true =>
        by_cases h : 0 ≤ b.From ∧ b.From ≤ 19
        · rw [decide_eq_true h, w64_id (by omega) (by omega)]
          simp only [cond_true, Bool.true_and, Option.some.injEq, decide_eq_decide]
          omega
        · rw [decide_eq_false h]; rfl
theorem boxB_impl {n : Nat} (b : SBox) (hn : 1000000000 < n) : impl_BoxOk n b = some (boxB b) := by
  unfold impl_BoxOk boxB impl_portOk
  rw [nameB_impl _ hn]
  simp only [in_implB, Option.bind_some]
  cases nameB b.Name with
  | false => rfl
  | true =>
    cases decide (1 ≤ b.Weight ∧ b.Weight ≤ 40000) with
    | false => rfl
    | true =>
      cases decide (0 ≤ b.Class ∧ b.Class ≤ 9) with
      | false => rfl
      | true =>
        by_cases h : 0 ≤ b.From ∧ b.From ≤ 19
        · rw [decide_eq_true h]
          by_cases h2 : 0 ≤ b.To ∧ b.To ≤ 19
          · rw [decide_eq_true h2]
            simp only [cond_true, Bool.true_and, Option.some.injEq, decide_eq_decide]
            omega
          · rw [decide_eq_false h2]
            simp only [cond_true, cond_false, Bool.true_and, Option.some.injEq]
            exact (decide_eq_false (by omega)).symm
        · rw [decide_eq_false h]; rfl
abbrev bx (l : List SBox) (i : Nat) : SBox := l.getD i dSBox
def wU (l : List SBox) : Nat → Int
  | 0 => 0
  | k + 1 => w64 (wU l k + (bx l k).Weight)
def okAt (l : List SBox) (i : Nat) : Bool := boxB (bx l i) && ((bif decide ((i : Int) > 0) then !decide ((bx l i).Weight > (bx l (i - 1)).Weight) else true) && (bif (bx l i).Cold then !decide ((i : Int) > 1) else true))
def stackB (l : List SBox) (most : Int) : Bool := decide ((l.length : Int) ≤ 20) && ((List.range l.length).all (okAt l) && (decide (0 ≤ most ∧ most ≤ 1000000) && decide (wU l l.length ≤ most)))
theorem stack_step {α : Type} {l : List SBox} {k : Nat} (hk : k < l.length) (hl : l.length ≤ 1000) {no : Option α} {J : Int → Int → Option α} (s : Int) :
    (bif !boxB (bx l k) then no else (bif decide ((k : Int) > 0) then ix (w64 ((k : Int) - 1)) l.length (bif decide ((bx l k).Weight > (l.getD (w64 ((k : Int) - 1)).toNat dSBox).Weight) then no else (bif (bx l k).Cold then (bif decide ((k : Int) > 1) then no else J (w64 (s + (bx l k).Weight)) (w64 ((k : Int) + 1))) else J (w64 (s + (bx l k).Weight)) (w64 ((k : Int) + 1)))) else (bif (bx l k).Cold then (bif decide ((k : Int) > 1) then no else J (w64 (s + (bx l k).Weight)) (w64 ((k : Int) + 1))) else J (w64 (s + (bx l k).Weight)) (w64 ((k : Int) + 1))))) =
    bif okAt l k then J (w64 (s + (bx l k).Weight)) ((k + 1 : Nat) : Int) else no := by
  unfold okAt
  rw [w64_succ (show k < 9223372036854775807 by omega)]
  cases boxB (bx l k) with
  | false => rfl
  | true =>
    cases k with
    | zero => cases (bx l 0).Cold <;> rfl
    | succ k =>
      have e1 : w64 (((k + 1 : Nat) : Int) - 1) = (k : Int) := by rw [w64_id (by omega) (by omega)]; omega
      rw [e1, ix_nat (show k < l.length by omega), Int.toNat_natCast, decide_eq_true (show ((k + 1 : Nat) : Int) > 0 by omega)]
      simp only [Bool.not_true, cond_false, cond_true, Nat.add_sub_cancel, Bool.true_and]
      cases decide ((bx l (k + 1)).Weight > (bx l k).Weight) <;> cases (bx l (k + 1)).Cold <;> cases decide (((k + 1 : Nat) : Int) > 1) <;> rfl
theorem stack_impl {n : Nat} (l : List SBox) (most : Int) (hl : l.length ≤ 1000) (hn : 1000000000 < n) : impl_StackOk n l most = some (stackB l most) := by
  unfold impl_StackOk stackB
  by_cases h20 : (l.length : Int) ≤ 20
  · rw [decide_eq_false (show ¬ (l.length : Int) > 20 by omega), cond_false, decide_eq_true h20, Bool.true_and, in_implB, Option.bind_some]
    cases hm : decide (0 ≤ most ∧ most ≤ 1000000) with
    | false => cases (List.range l.length).all (okAt l) <;> rfl
    | true =>
      rw [Bool.not_true, cond_false, Bool.true_and]
      refine loopN_ind (fun x : Int × Int => l.length - x.2.toNat) (fun x => ∃ k : Nat, x.2 = (k : Int) ∧ k ≤ l.length ∧ x.1 = wU l k ∧ ∀ i, i < k → okAt l i = true) (fun x r => r = some ((List.range l.length).all (okAt l) && decide (wU l l.length ≤ most))) ?_ n _ ⟨0, rfl, by omega, rfl, fun i hi => absurd hi (Nat.not_lt_zero _)⟩ (by simp; omega)
      rintro ⟨_, _⟩ J ⟨k, rfl, hk, rfl, hg⟩ ih
      show impl_StackOk_L5 n _ _ _ l most (wU l k) l (l.length : Int) (k : Int) = _
      unfold impl_StackOk_L5
      by_cases h : k < l.length
      · rw [decide_eq_true (by omega), cond_true]
        unfold impl_StackOk_k0
        rw [ix_nat h, bd_eq, Int.toNat_natCast, boxB_impl _ hn, Option.bind_some]
        simp only [bd_eq]
        refine (stack_step (J := fun a b => J (a, b)) h hl (wU l k)).trans ?_
        cases ho : okAt l k with
        | true => exact ih _ ⟨k + 1, rfl, h, rfl, fun i hi => by
            by_cases e : i = k
            · rw [e]; exact ho
            · exact hg i (by omega)⟩ (by simp; omega)
        | false =>
          rw [all_range_not h ho]
          rfl
      · have : k = l.length := by omega
        subst this
        rw [decide_eq_false (by omega), cond_false, show (List.range l.length).all (okAt l) = true from by rw [List.all_eq_true]; exact fun i hi => hg i (List.mem_range.1 hi)]
        rfl
  · rw [decide_eq_true (show (l.length : Int) > 20 by omega), cond_true, decide_eq_false h20]
    rfl
theorem stack_spec {n : Nat} (l : List SBox) (most : Int) (hl : l.length ≤ 1000) (hn : 1000000000 < n) : spec_StackOk n l most = some (stackB l most) := by
  unfold spec_StackOk
  by_cases h20 : (l.length : Int) ≤ 20
  · unfold stackB
    rw [decide_eq_true h20, Bool.true_and]
    refine loopN_ind (fun x : Int × Int => l.length - x.2.toNat) (fun x => ∃ k : Nat, x.2 = (k : Int) ∧ k ≤ l.length ∧ x.1 = wU l k ∧ ∀ i, i < k → okAt l i = true) (fun x r => r = some ((List.range l.length).all (okAt l) && (decide (0 ≤ most ∧ most ≤ 1000000) && decide (wU l l.length ≤ most)))) ?_ n _ ⟨0, rfl, by omega, rfl, fun i hi => absurd hi (Nat.not_lt_zero _)⟩ (by simp; omega)
    rintro ⟨_, _⟩ J ⟨k, rfl, hk, rfl, hg⟩ ih
    show spec_StackOk_L3 n _ _ _ l most (wU l k) (k : Int) = _
    unfold spec_StackOk_L3
    by_cases h : k < l.length
    · rw [decide_eq_true (by omega), cond_true]
      unfold spec_StackOk_k0
      rw [ix_nat h, bd_eq, Int.toNat_natCast, decide_eq_false (show ¬ (l.length : Int) > 20 by omega), cond_false, boxB_spec _ hn, Option.bind_some]
      simp only [bd_eq]
      refine (stack_step (J := fun a b => J (a, b)) h hl (wU l k)).trans ?_
      cases ho : okAt l k with
      | true => exact ih _ ⟨k + 1, rfl, h, rfl, fun i hi => by
          by_cases e : i = k
          · rw [e]; exact ho
          · exact hg i (by omega)⟩ (by simp; omega)
      | false =>
        rw [all_range_not h ho]
        rfl
    · have : k = l.length := by omega
      subst this
      rw [decide_eq_false (by omega), cond_false, show (List.range l.length).all (okAt l) = true from by rw [List.all_eq_true]; exact fun i hi => hg i (List.mem_range.1 hi), in_specB]
      dsimp only
      rw [Option.bind_some, Bool.true_and]
      cases decide (0 ≤ most ∧ most ≤ 1000000) <;> rfl
  · obtain ⟨m, rfl⟩ : ∃ m, n = m + 1 := ⟨n - 1, by omega⟩
    rw [loopN_succ]
    unfold spec_StackOk_L3 spec_StackOk_k0 stackB
    rw [decide_eq_true (show (0 : Int) < (l.length : Int) by omega), cond_true, ix_of (by omega) (by omega), bd_eq, decide_eq_true (show (l.length : Int) > 20 by omega), cond_true, decide_eq_false h20]
    rfl
theorem onceB_ok {n : Nat} {c : Sl1Cur} (h : CurOk c) {m : Int} (hm : 1 ≤ m ∧ m ≤ 256) : ∃ v c', spec_l1Once n c m = some (v, c') ∧ CurOk c' := by
  obtain ⟨v, c', h1, h2, h3⟩ := below_ok (n := n) h hm
  unfold spec_l1Once
  rw [h1, Option.bind_some]
  exact ⟨_, _, rfl, h3⟩
theorem pickB_ok {n : Nat} {c : Sl1Cur} (h : CurOk c) {l : List ByteArray} (hl : 1 ≤ l.length ∧ l.length ≤ 256) : ∃ v c', spec_l1Pick n c l = some (v, c') ∧ v ∈ l ∧ CurOk c' := by
  obtain ⟨v, c', h1, h2, h3⟩ := below_ok (n := n) h (m := (l.length : Int)) (by omega)
  unfold spec_l1Pick
  rw [h1, Option.bind_some, ix_of h2.1 h2.2]
  exact ⟨_, _, rfl, getD_mem (by omega), h3⟩
theorem pickIntB_ok {n : Nat} {c : Sl1Cur} (h : CurOk c) {l : List Int} (hl : 1 ≤ l.length ∧ l.length ≤ 256) : ∃ v c', spec_l1PickInt n c l = some (v, c') ∧ CurOk c' := by
  obtain ⟨v, c', h1, h2, h3⟩ := below_ok (n := n) h (m := (l.length : Int)) (by omega)
  unfold spec_l1PickInt
  rw [h1, Option.bind_some, ix_of h2.1 h2.2]
  exact ⟨_, _, rfl, h3⟩
theorem bstr_size (l : List Int) : (bstr l).size = l.length := by
  show (List.map _ l).toArray.size = _
  simp
theorem strb_length (s : ByteArray) : (strb s).length = s.size := by
  unfold strb
  rw [List.length_map]
  rfl
theorem drawName_ok {n : Nat} {c : Sl1Cur} (hc : CurOk c) (hn : 1000000000 < n) : ∃ s c', spec_l11DrawName n c = some (s, c') ∧ s.size = 11 ∧ CurOk c' := by
  unfold spec_l11DrawName
  refine loop_runS (S := Sl1Cur × List Int) (X := Int × Sl1Cur × List Int) (enc := fun k s => (k, s.1, s.2)) (len := 4) (I := fun k s => CurOk s.1 ∧ s.2.length = k)
    (Q := fun r => ∃ (s : ByteArray) (c' : Sl1Cur), r = some (s, c') ∧ s.size = 11 ∧ CurOk c') (fun k s J hk hI => ?_) (fun s J hI => ?_) (by omega) (s0 := (c, [])) ⟨hc, rfl⟩
  · obtain ⟨i1, i2⟩ := hI
    obtain ⟨a, p1, e4, a4, q4⟩ := below_ok (n := n) i1 (m := 26) (by omega)
    refine ⟨(p1, s.2 ++ [wu8 (w64 (65 + a))]), ⟨q4, by rw [List.length_append, List.length_singleton, i2]⟩, ?_⟩
    show spec_l11DrawName_L3 n _ _ (k : Int) s.1 s.2 = _
    unfold spec_l11DrawName_L3
    rw [decide_eq_true (by omega), cond_true, e4, Option.bind_some, bd_eq, chk_dec (by rw [List.length_append, List.length_singleton, i2]; omega), w64_succ (by omega)]
  · obtain ⟨i1, i2⟩ := hI
    show ∃ s' c', spec_l11DrawName_L3 n _ _ ((4 : Nat) : Int) s.1 s.2 = some (s', c') ∧ _
    unfold spec_l11DrawName_L3
    rw [decide_eq_false (by omega), cond_false]
    refine loop_runS (S := Sl1Cur × List Int) (X := Int × Sl1Cur × List Int) (enc := fun k s => (k, s.1, s.2)) (len := 6) (I := fun k s => CurOk s.1 ∧ s.2.length = 4 + k)
      (Q := fun r => ∃ (s : ByteArray) (c' : Sl1Cur), r = some (s, c') ∧ s.size = 11 ∧ CurOk c') (fun k s J hk hI => ?_) (fun s J hI => ?_) (by omega) (s0 := (s.1, s.2)) ⟨i1, i2⟩
    · obtain ⟨i1, i2⟩ := hI
      obtain ⟨a, p1, e4, a4, q4⟩ := below_ok (n := n) i1 (m := 10) (by omega)
      refine ⟨(p1, s.2 ++ [wu8 (w64 (48 + a))]), ⟨q4, by rw [List.length_append, List.length_singleton, i2]; omega⟩, ?_⟩
      show spec_l11DrawName_L7 n _ _ (k : Int) s.1 s.2 = _
      unfold spec_l11DrawName_L7
      rw [decide_eq_true (by omega), cond_true, e4, Option.bind_some, bd_eq, chk_dec (by rw [List.length_append, List.length_singleton, i2]; omega), w64_succ (by omega)]
    · obtain ⟨i1, i2⟩ := hI
      show ∃ s' c', spec_l11DrawName_L7 n _ _ ((6 : Nat) : Int) s.1 s.2 = some (s', c') ∧ _
      unfold spec_l11DrawName_L7
      rw [decide_eq_false (by omega), cond_false]
      dsimp only
      rw [check_spec _ hn, Option.bind_some, bd_eq, chk_dec (by rw [List.length_append, List.length_singleton, i2]; omega)]
      exact ⟨_, _, rfl, by rw [bstr_size, List.length_append, List.length_singleton, i2], i1⟩
theorem drawB_ok {n : Nat} {c : Sl1Cur} (hc : CurOk c) (hn : 1000000000 < n) : ∃ b c', spec_l11Draw n c = some (b, c') ∧ CurOk c' := by
  obtain ⟨v1, c1, e1, a1, q1⟩ := below_ok (n := n) hc (m := 4) (by omega)
  obtain ⟨s, c2, e2, a2, q2⟩ := drawName_ok (n := n) q1 hn
  obtain ⟨v3, c3, e3, a3, q3⟩ := below_ok (n := n) q2 (m := 30) (by omega)
  obtain ⟨v4, c4, e4, a4, q4⟩ := below_ok (n := n) q3 (m := 4) (by omega)
  obtain ⟨v5, c5, e5, q5⟩ := onceB_ok (n := n) q4 (m := 4) (by omega)
  unfold spec_l11Draw
  simp only [e1, e2, e3, e4, e5, Option.bind_some, bd_eq]
  cases v5 with
  | true =>
    obtain ⟨v6, c6, e6, a6, q6⟩ := below_ok (n := n) q5 (m := 10) (by omega)
    obtain ⟨v7, c7, e7, q7⟩ := onceB_ok (n := n) q6 (m := 8) (by omega)
    simp only [cond_true, e6, e7, Option.bind_some]
    exact ⟨_, _, rfl, q7⟩
  | false =>
    obtain ⟨v7, c7, e7, q7⟩ := onceB_ok (n := n) q5 (m := 8) (by omega)
    simp only [cond_false, e7, Option.bind_some]
    exact ⟨_, _, rfl, q7⟩
theorem drawText_ok {n : Nat} {c : Sl1Cur} (hc : CurOk c) (hn : 1000000000 < n) : ∃ s c', spec_l11DrawText n c = some (s, c') ∧ CurOk c' := by
  obtain ⟨s, c1, e1, a1, q1⟩ := drawName_ok (n := n) hc hn
  obtain ⟨k, c2, e2, a2, q2⟩ := below_ok (n := n) q1 (m := ((strb s).length : Int)) (by rw [strb_length, a1]; omega)
  obtain ⟨v, c3, e3, a3, q3⟩ := below_ok (n := n) q2 (m := 5) (by omega)
  have hl : (strb s).length = 11 := by rw [strb_length, a1]
  unfold spec_l11DrawText
  rw [e1, Option.bind_some]
  dsimp only
  rw [e2, Option.bind_some]
  dsimp only
  rw [e3, Option.bind_some]
  dsimp only
  cases decide (v = 0) with
  | true =>
    rw [cond_true]
    obtain ⟨t, c4, e4, m4, q4⟩ := pickB_ok (n := n) q3 (l := [str [97], str [48], str [90], str [32], str [53], str [75]]) (by simp)
    have ht : t.size = 1 := by
      simp only [List.mem_cons, List.not_mem_nil, or_false] at m4
      rcases m4 with rfl | rfl | rfl | rfl | rfl | rfl <;> rfl
    rw [e4, Option.bind_some]
    dsimp only
    rw [ix_of (by omega) (by omega), ix_of a2.1 a2.2, chk_dec (by omega), bd_eq]
    exact ⟨_, _, rfl, q4⟩
  | false =>
    rw [cond_false]
    cases decide (v = 1) with
    | true =>
      rw [cond_true, bd_eq, chk_dec (by rw [List.length_append, List.length_singleton, hl]; omega)]
      exact ⟨_, _, rfl, q3⟩
    | false =>
      rw [cond_false]
      cases decide (v = 2) with
      | true =>
        rw [cond_true, chk_dec (by omega), chk_dec (by omega), chk_dec (by omega)]
        exact ⟨_, _, rfl, q3⟩
      | false =>
        rw [cond_false]
        cases decide (v = 3) with
        | true =>
          rw [cond_true]
          obtain ⟨t, c4, e4, m4, q4⟩ := below_ok (n := n) q3 (m := 10) (by omega)
          rw [e4, Option.bind_some, bd_eq]
          dsimp only
          rw [ix_of (by omega) (by omega), chk_dec (by omega), bd_eq]
          exact ⟨_, _, rfl, q4⟩
        | false => exact ⟨_, _, rfl, q3⟩
theorem drawAnyB_ok {n : Nat} {c : Sl1Cur} (hc : CurOk c) (hn : 1000000000 < n) : ∃ b c', spec_l11DrawAny n c = some (b, c') ∧ CurOk c' := by
  obtain ⟨b, c1, e1, q1⟩ := drawB_ok (n := n) hc hn
  obtain ⟨v, c2, e2, a2, q2⟩ := below_ok (n := n) q1 (m := 30) (by omega)
  unfold spec_l11DrawAny
  rw [e1, Option.bind_some]
  dsimp only
  rw [e2, Option.bind_some]
  dsimp only
  cases decide (v = 0) with
  | true =>
    rw [cond_true]
    obtain ⟨t, c3, e3, q3⟩ := drawText_ok (n := n) q2 hn
    rw [e3, Option.bind_some]
    exact ⟨_, _, rfl, q3⟩
  | false =>
    rw [cond_false]
    cases decide (v = 1) with
    | true =>
      rw [cond_true]
      obtain ⟨t, c3, e3, q3⟩ := pickIntB_ok (n := n) q2 (l := [(0 : Int), (40000 : Int), (40001 : Int), (-1 : Int)]) (by simp)
      rw [e3, Option.bind_some]
      exact ⟨_, _, rfl, q3⟩
    | false =>
      rw [cond_false]
      cases decide (v = 2) with
      | true =>
        rw [cond_true]
        obtain ⟨t, c3, e3, q3⟩ := pickIntB_ok (n := n) q2 (l := [(-1 : Int), (9 : Int), (10 : Int)]) (by simp)
        rw [e3, Option.bind_some]
        exact ⟨_, _, rfl, q3⟩
      | false =>
        rw [cond_false]
        cases decide (v = 3) with
        | true =>
          rw [cond_true]
          obtain ⟨t, c3, e3, q3⟩ := pickIntB_ok (n := n) q2 (l := [(-1 : Int), (18 : Int), (19 : Int)]) (by simp)
          rw [e3, Option.bind_some]
          exact ⟨_, _, rfl, q3⟩
        | false =>
          rw [cond_false]
          cases decide (v = 4) with
          | true =>
            rw [cond_true]
            obtain ⟨t, c3, e3, q3⟩ := pickIntB_ok (n := n) q2 (l := [(0 : Int), (19 : Int), (20 : Int)]) (by simp)
            rw [e3, Option.bind_some]
            exact ⟨_, _, rfl, q3⟩
          | false => exact ⟨_, _, rfl, q2⟩
def spEq (b s : SSpot) : Bool := (decide (b.Bay = s.Bay)) && ((decide (b.Row = s.Row)) && (decide (b.Tier = s.Tier)))
def dupAt (l : List SStow) (i : Nat) : Bool := (l.take i).any fun b => spEq b.Spot (l.getD i dSStow).Spot
def noDup (l : List SStow) : Prop := ∀ i, i < l.length → dupAt l i = false
instance (l : List SStow) : Decidable (noDup l) := Nat.decidableBallLT _ _
end Go.Sm
end

section
set_option linter.unusedVariables false
set_option linter.unusedSimpArgs false
namespace Go.Sm
attribute [local irreducible] bd chk ix loopN
/-- The same, no state: what came before did not hold. -/
theorem loop_findE {R X : Type} {enc : Nat → X} {b : X → (X → Option R) → Option R} {len : Nat} {p : Nat → Bool} {yes : Nat → Option R} {no : Option R}
    (hstep : ∀ (k : Nat) (J : X → Option R), k < len → (∀ j, j < k → p j = false) → b (enc k) J = bif p k then yes k else J (enc (k + 1))) (hfin : ∀ J, b (enc len) J = no) {n : Nat} (hn : len < n) :
    loopN b n (enc 0) = ((List.range len).find? p).elim no yes := by
  have key : ∀ m (k : Nat) n, k + m = len → m < n → (∀ j, j < k → p j = false) → loopN b n (enc k) = ((List.range len).find? p).elim no yes := by
    intro m
    induction m with
    | zero =>
      intro k n hk hn hp
      have hk : k = len := by omega
      subst hk
      cases n with
      | zero => omega
      | succ n => rw [loopN_succ, hfin, find_range_none hp]; rfl
    | succ m ih =>
      intro k n hk hn hp
      cases n with
      | zero => omega
      | succ n =>
        rw [loopN_succ, hstep k (loopN b n) (by omega) hp]
        cases hpk : p k with
        | true => rw [find_range_some (by omega) hpk hp]; rfl
        | false =>
          refine ih (k + 1) n (by omega) (by omega) fun j hj => ?_
          by_cases e : j = k
          · rw [e]; exact hpk
          · exact hp j (by omega)
  exact key len 0 n (by omega) hn fun j hj => absurd hj (Nat.not_lt_zero _)
/-! ### Hatches -/
def hatchB (h : SHatch) : Bool := decide (1 ≤ h.Rows ∧ h.Rows ≤ 6) && (decide (1 ≤ h.Tiers ∧ h.Tiers ≤ 6) && (decide (0 ≤ h.Most ∧ h.Most ≤ 1000000) && decide (0 ≤ h.Plugs ∧ h.Plugs ≤ 36)))
def hatchesB (l : List SHatch) : Bool := decide (1 ≤ (l.length : Int) ∧ (l.length : Int) ≤ 6) && (List.range l.length).all fun k => hatchB (l.getD k dSHatch)
theorem hatches_spec {n : Nat} (l : List SHatch) (hl : l.length ≤ 100000000) (hn : 1000000000 < n) : spec_HatchesOk n l = some (hatchesB l) := by
  unfold spec_HatchesOk
  rw [loop_all (len := l.length) (p := fun k => hatchB (l.getD k dSHatch)) (no := some false) (yes := some (decide (1 ≤ (l.length : Int) ∧ (l.length : Int) ≤ 6))) (by omega) (fun i J hi _ => ?_) (fun J _ => ?_) (by omega)]
  · unfold hatchesB
    generalize decide (1 ≤ (l.length : Int) ∧ (l.length : Int) ≤ 6) = a
    generalize (List.range l.length).all _ = b
    cases a <;> cases b <;> rfl
  · have e : w64 ((i : Int) + 1) = ((i + 1 : Nat) : Int) := w64_succ (by omega)
    unfold spec_HatchesOk_L2 spec_HatchesOk_k0
    rw [decide_eq_true (by omega), cond_true, ix_nat hi, bd_eq, Int.toNat_natCast, e]
    simp only [in_specB, Option.bind_some]
    unfold hatchB
    generalize l.getD i dSHatch = h
    generalize decide (1 ≤ h.Rows ∧ h.Rows ≤ 6) = a
    generalize decide (1 ≤ h.Tiers ∧ h.Tiers ≤ 6) = b
    generalize decide (0 ≤ h.Most ∧ h.Most ≤ 1000000) = c
    generalize decide (0 ≤ h.Plugs ∧ h.Plugs ≤ 36) = d
    cases a <;> cases b <;> cases c <;> cases d <;> rfl
  · unfold spec_HatchesOk_L2
    rw [decide_eq_false (by omega), cond_false, in_specB]; rfl
theorem hatches_impl {n : Nat} (l : List SHatch) (hl : l.length ≤ 100000000) (hn : 1000000000 < n) : impl_HatchesOk n l = some (hatchesB l) := by
  have hc : sContains_HatchesOk_1 n l = some (!((List.range l.length).all fun k => hatchB (l.getD k dSHatch))) := by
    unfold sContains_HatchesOk_1 sIndex_HatchesOk_1
    rw [loop_idx (len := l.length) (p := fun k => !hatchB (l.getD k dSHatch)) (by omega) (fun k J hk _ => ?_) (fun J _ => ?_) (by omega), Option.bind_some, idxOf_ge, List.not_all_eq_any_not]
    · have e2 : w64 ((k : Int) + 1) = ((k + 1 : Nat) : Int) := w64_succ (by omega)
      unfold sIndex_HatchesOk_1_L2 impl_HatchesOk_1
      rw [decide_eq_true (by omega), cond_true, ix_nat hk, bd_eq, Int.toNat_natCast, e2]
      simp only [in_implB, Option.bind_some]
      unfold hatchB
      generalize l.getD k dSHatch = h
      generalize decide (1 ≤ h.Rows ∧ h.Rows ≤ 6) = a
      generalize decide (1 ≤ h.Tiers ∧ h.Tiers ≤ 6) = b
      generalize decide (0 ≤ h.Most ∧ h.Most ≤ 1000000) = c
      generalize decide (0 ≤ h.Plugs ∧ h.Plugs ≤ 36) = d
      cases a <;> cases b <;> cases c <;> cases d <;> rfl
    · unfold sIndex_HatchesOk_1_L2
      rw [decide_eq_false (by omega), cond_false]
  unfold impl_HatchesOk
  rw [in_implB, Option.bind_some, hc, Option.bind_some, Bool.not_not]
  unfold hatchesB
  generalize decide (1 ≤ (l.length : Int) ∧ (l.length : Int) ≤ 6) = a
  cases a <;> simp
theorem hatchesB_at {l : List SHatch} (h : hatchesB l = true) : l.length ≤ 6 ∧ 1 ≤ l.length ∧ ∀ k, k < l.length → (1 ≤ (l.getD k dSHatch).Rows ∧ (l.getD k dSHatch).Rows ≤ 6) ∧ (1 ≤ (l.getD k dSHatch).Tiers ∧ (l.getD k dSHatch).Tiers ≤ 6) := by
  unfold hatchesB at h
  rw [Bool.and_eq_true, decide_eq_true_eq] at h
  refine ⟨by omega, by omega, fun k hk => ?_⟩
  have := List.all_eq_true.1 h.2 k (List.mem_range.2 hk)
  unfold hatchB at this
  rw [Bool.and_eq_true, Bool.and_eq_true, decide_eq_true_eq, decide_eq_true_eq] at this
  exact ⟨this.1, this.2.1⟩
/-! ### Apart -/
theorem apart_all : ∀ a : Fin 10, ∀ b : Fin 10, spec_Apart 0 ((a.val : Nat) : Int) ((b.val : Nat) : Int) = impl_Apart 0 ((a.val : Nat) : Int) ((b.val : Nat) : Int) ∧ ((spec_Apart 0 ((a.val : Nat) : Int) ((b.val : Nat) : Int)).any fun r => decide (0 ≤ r ∧ r ≤ 3)) = true := by decide +kernel
theorem apart_both (n : Nat) {a b : Int} (ha : 0 ≤ a ∧ a ≤ 9) (hb : 0 ≤ b ∧ b ≤ 9) : ∃ r, spec_Apart n a b = some r ∧ impl_Apart n a b = some r ∧ 0 ≤ r ∧ r ≤ 3 := by
  have h := apart_all ⟨a.toNat, by omega⟩ ⟨b.toNat, by omega⟩
  have ea : ((a.toNat : Nat) : Int) = a := by omega
  have eb : ((b.toNat : Nat) : Int) = b := by omega
  dsimp only at h
  rw [ea, eb] at h
  obtain ⟨h1, h2⟩ := h
  cases hr : spec_Apart 0 a b with
  | none => rw [hr] at h2; cases h2
  | some r =>
    rw [hr] at h1 h2
    refine ⟨r, hr, h1.symm, ?_⟩
    have : decide (0 ≤ r ∧ r ≤ 3) = true := h2
    simpa using this
theorem k0_both (n : Nat) {a b : SBox} (sa sb : SSpot) (ha : 0 ≤ a.Class ∧ a.Class ≤ 9) (hb : 0 ≤ b.Class ∧ b.Class ≤ 9) : ∃ r, spec_KeepsApart_k0 n a sa b sb = some r ∧ impl_KeepsApart_k0 n a sa b sb = some r := by
  obtain ⟨r, r1, r2, r3, r4⟩ := apart_both n ha hb
  have s1 : ∀ x, ∃ z, spec_l3Size n x = some z ∧ impl_size n x = some z := fun x => by
    unfold spec_l3Size impl_size
    by_cases hx : x < 0
    · rw [decide_eq_true hx]; exact ⟨_, rfl, rfl⟩
    · rw [decide_eq_false hx]; exact ⟨_, rfl, rfl⟩
  obtain ⟨z1, y1, y2⟩ := s1 (w64 (sa.Bay - sb.Bay))
  obtain ⟨z2, y3, y4⟩ := s1 (w64 (sa.Row - sb.Row))
  obtain ⟨z3, y5, y6⟩ := s1 (w64 (sa.Tier - sb.Tier))
  unfold spec_KeepsApart_k0 impl_KeepsApart_k0
  simp only [bd_eq, y1, y2, y3, y4, y5, y6, r1, r2, Option.bind_some]
  by_cases h0 : r = 0
  · subst h0; exact ⟨_, rfl, rfl⟩
  · by_cases h1 : r = 1
    · subst h1; exact ⟨_, rfl, rfl⟩
    · by_cases h2 : r = 2
      · subst h2; exact ⟨_, rfl, rfl⟩
      · have h3 : r = 3 := by omega
        subst h3; exact ⟨_, rfl, rfl⟩
def spotB (s : SSpot) : Bool := decide (0 ≤ s.Bay ∧ s.Bay ≤ 19) && (decide (0 ≤ s.Row ∧ s.Row ≤ 19) && decide (0 ≤ s.Tier ∧ s.Tier ≤ 19))
theorem spot_spec (n : Nat) (s : SSpot) : spec_l11Spot n s = some (spotB s) := by
  unfold spec_l11Spot spotB
  simp only [in_specB, Option.bind_some, bif_sf]
theorem spot_impl (n : Nat) (s : SSpot) : impl_spotOk n s = some (spotB s) := by
  unfold impl_spotOk spotB
  simp only [in_implB, Option.bind_some, bif_sf]
def keepsV (a : SBox) (sa : SSpot) (b : SBox) (sb : SSpot) : Bool := boxB a && (boxB b && (spotB sa && (spotB sb && (!spEq sa sb && (spec_KeepsApart_k0 0 a sa b sb).getD false))))
theorem boxB_c {b : SBox} (h : boxB b = true) : 0 ≤ b.Class ∧ b.Class ≤ 9 := by
  unfold boxB at h
  simp only [Bool.and_eq_true, decide_eq_true_eq] at h
  exact h.2.2.1
theorem keeps_spec {n : Nat} (a : SBox) (sa : SSpot) (b : SBox) (sb : SSpot) (hn : 1000000000 < n) : spec_KeepsApart n a sa b sb = some (keepsV a sa b sb) ∧ impl_KeepsApart n a sa b sb = some (keepsV a sa b sb) := by
  unfold spec_KeepsApart impl_KeepsApart keepsV
  rw [boxB_spec a hn, boxB_spec b hn, boxB_impl a hn, boxB_impl b hn, spot_spec, spot_spec, spot_impl, spot_impl]
  simp only [Option.bind_some]
  cases ha : boxB a with
  | false => exact ⟨rfl, rfl⟩
  | true =>
    cases hb : boxB b with
    | false => exact ⟨rfl, rfl⟩
    | true =>
      obtain ⟨r, r1, r2⟩ := k0_both n sa sb (boxB_c ha) (boxB_c hb)
      have r0 : spec_KeepsApart_k0 0 a sa b sb = some r := r1
      rw [r0, r1, r2, ← spEq]
      generalize spotB sa = p
      generalize spotB sb = q
      generalize spEq sa sb = s
      cases p <;> cases q <;> cases s <;> exact ⟨rfl, rfl⟩
end Go.Sm
end

section
set_option linter.unusedVariables false
set_option linter.unusedSimpArgs false
namespace Go.Sm
attribute [local irreducible] bd chk ix loopN
/-! ### The stack at a place -/
def nd (l : List SStow) : Prop := ∀ i k, i < l.length → k < i → spEq (l.getD k dSStow).Spot (l.getD i dSStow).Spot = false
theorem spEq_iff {a b : SSpot} : spEq a b = true ↔ a.Bay = b.Bay ∧ a.Row = b.Row ∧ a.Tier = b.Tier := by
  unfold spEq; simp only [Bool.and_eq_true, decide_eq_true_eq]
theorem nd_eq {l : List SStow} (h : nd l) {i j : Nat} (hi : i < l.length) (hj : j < l.length) (he : spEq (l.getD i dSStow).Spot (l.getD j dSStow).Spot = true) : i = j := by
  by_cases c1 : i < j
  · rw [h j i hj c1] at he; cases he
  · by_cases c2 : j < i
    · have := h i j hi c2
      have he' := spEq_iff.1 he
      rw [spEq_iff.2 ⟨he'.1.symm, he'.2.1.symm, he'.2.2.symm⟩] at this
      cases this
    · omega
theorem mem_getS {l : List SStow} {x : SStow} (h : x ∈ l) : ∃ u, u < l.length ∧ l.getD u dSStow = x := by
  obtain ⟨u, hu, he⟩ := List.getElem_of_mem h
  exact ⟨u, hu, by rw [getD_eq hu]; exact he⟩
theorem nd_mem {l : List SStow} (h : nd l) {x y : SStow} (hx : x ∈ l) (hy : y ∈ l) (he : spEq x.Spot y.Spot = true) : x = y := by
  obtain ⟨i, i1, i2⟩ := mem_getS hx
  obtain ⟨j, j1, j2⟩ := mem_getS hy
  rw [← i2, ← j2] at he
  rw [← i2, ← j2, nd_eq h i1 j1 he]
theorem l12At_idx {n : Nat} (l : List SStow) (s : SSpot) (hl : l.length ≤ 100000000) (hn : 1000000000 < n) : spec_l12At n l s = some (idxOf (fun k => spEq (l.getD k dSStow).Spot s) l.length) := by
  unfold spec_l12At
  refine loop_idx (len := l.length) (by omega) (fun k J hk _ => ?_) (fun J _ => ?_) (by omega)
  · have e2 : w64 ((k : Int) + 1) = ((k + 1 : Nat) : Int) := w64_succ (by omega)
    unfold spec_l12At_L2
    rw [decide_eq_true (by omega), cond_true, ix_nat hk, bd_eq, Int.toNat_natCast, ← spEq, e2]
  · unfold spec_l12At_L2
    rw [decide_eq_false (by omega), cond_false]
abbrev tLt (a b : SStow) : Prop := a.Spot.Tier < b.Spot.Tier
/-- One sorted list has these members. -/
theorem sorted_uni : ∀ (a b : List SStow), a.Pairwise tLt → b.Pairwise tLt → (∀ x, x ∈ a ↔ x ∈ b) → a = b
  | [], [], _, _, _ => rfl
  | [], y :: b, _, _, h => absurd ((h y).2 List.mem_cons_self) List.not_mem_nil
  | x :: a, [], _, _, h => absurd ((h x).1 List.mem_cons_self) List.not_mem_nil
  | x :: a, y :: b, ha, hb, h => by
    rw [List.pairwise_cons] at ha hb
    have hxy : x = y := by
      rcases List.mem_cons.1 ((h x).1 List.mem_cons_self) with e | e
      · exact e
      · rcases List.mem_cons.1 ((h y).2 List.mem_cons_self) with e2 | e2
        · exact e2.symm
        · have h1 := hb.1 x e
          have h2 := ha.1 y e2
          unfold tLt at h1 h2
          omega
    subst hxy
    rw [sorted_uni a b ha.2 hb.2 fun z => ?_]
    constructor
    · intro hz
      rcases List.mem_cons.1 ((h z).1 (List.mem_cons_of_mem _ hz)) with e | e
      · have := ha.1 z hz
        rw [e] at this; unfold tLt at this; omega
      · exact e
    · intro hz
      rcases List.mem_cons.1 ((h z).2 (List.mem_cons_of_mem _ hz)) with e | e
      · have := hb.1 z hz
        rw [e] at this; unfold tLt at this; omega
      · exact e
theorem stack_walk {n : Nat} {l : List SStow} (h : nd l) (bay row : Int) (hl : l.length ≤ 40) (ht : ∀ x ∈ l, 0 ≤ x.Spot.Tier ∧ x.Spot.Tier < 20) (hn : 1000000000 < n) :
    ∃ L : List SStow, spec_l12Stack n l bay row = some (L.map SStow.Box) ∧ L.Pairwise tLt ∧ L.length ≤ 20 ∧ ∀ x, x ∈ L ↔ (x ∈ l ∧ x.Spot.Bay = bay ∧ x.Spot.Row = row) := by
  unfold spec_l12Stack
  refine loop_runS (enc := fun k (s : List SBox) => (k, s)) (I := fun k s => ∃ L : List SStow, s = L.map SStow.Box ∧ L.Pairwise tLt ∧ L.length ≤ k ∧ ∀ x, x ∈ L ↔ (x ∈ l ∧ x.Spot.Bay = bay ∧ x.Spot.Row = row ∧ x.Spot.Tier < (k : Int))) (Q := fun r => ∃ L : List SStow, r = some (L.map SStow.Box) ∧ L.Pairwise tLt ∧ L.length ≤ 20 ∧ ∀ x, x ∈ L ↔ (x ∈ l ∧ x.Spot.Bay = bay ∧ x.Spot.Row = row)) (len := 20) (fun k s J hk hI => ?_) (fun s J hI => ?_) (by omega) ⟨[], rfl, List.Pairwise.nil, Nat.le_refl _, fun x => ⟨fun hh => absurd hh List.not_mem_nil, fun hh => by have := (ht x hh.1).1; omega⟩⟩
  · obtain ⟨L, i1, i2, i3, i4⟩ := hI
    have e : w64 ((k : Int) + 1) = ((k + 1 : Nat) : Int) := w64_succ (by omega)
    have hst : spec_l12Stack_L3 n (fun out14 => some (out14)) (fun t15 out16 => J (t15, out16)) l bay row (k : Int) s = (bif decide (idxOf (fun j => spEq (l.getD j dSStow).Spot ⟨bay, row, (k : Int)⟩) l.length ≥ 0) then ix (idxOf (fun j => spEq (l.getD j dSStow).Spot ⟨bay, row, (k : Int)⟩) l.length) l.length (bd (l.getD (idxOf (fun j => spEq (l.getD j dSStow).Spot ⟨bay, row, (k : Int)⟩) l.length).toNat dSStow) fun (e9 : SStow) => chk (decide ((s ++ [e9.Box]).length * 56 ≤ 140737488355328)) (J (((k + 1 : Nat) : Int), (s ++ [e9.Box])))) else J (((k + 1 : Nat) : Int), s)) := by
      unfold spec_l12Stack_L3 spec_l12Stack_k0
      rw [decide_eq_true (show (k : Int) < 20 by omega), cond_true, l12At_idx l _ (by omega) hn, Option.bind_some, e]
    rcases idxOf_spec (fun j => spEq (l.getD j dSStow).Spot ⟨bay, row, (k : Int)⟩) l.length with ⟨h1, h2⟩ | ⟨u, h1, h2, h3, h4⟩
    · refine ⟨s, ⟨L, i1, i2, by omega, fun x => ?_⟩, ?_⟩
      · rw [i4]
        refine ⟨fun hh => ⟨hh.1, hh.2.1, hh.2.2.1, by omega⟩, fun hh => ⟨hh.1, hh.2.1, hh.2.2.1, ?_⟩⟩
        obtain ⟨v, v1, v2⟩ := mem_getS hh.1
        by_cases c : x.Spot.Tier = (k : Int)
        · have := h2 v v1
          rw [v2, spEq_iff.2 ⟨hh.2.1, hh.2.2.1, c⟩] at this
          cases this
        · have := hh.2.2.2
          omega
      · refine hst.trans ?_
        rw [h1, decide_eq_false (by omega), cond_false]
    · have h3 := spEq_iff.1 h3
      dsimp only at h3
      refine ⟨s ++ [(l.getD u dSStow).Box], ⟨L ++ [l.getD u dSStow], by rw [i1, List.map_append]; rfl, ?_, by rw [List.length_append]; simp; omega, fun x => ?_⟩, ?_⟩
      · rw [List.pairwise_append]
        refine ⟨i2, List.pairwise_singleton _ _, fun x hx y hy => ?_⟩
        rw [List.mem_singleton.1 hy]
        have := ((i4 x).1 hx).2.2.2
        unfold tLt
        omega
      · rw [List.mem_append, List.mem_singleton, i4]
        constructor
        · rintro (hh | hh)
          · exact ⟨hh.1, hh.2.1, hh.2.2.1, by omega⟩
          · rw [hh]; exact ⟨getD_mem h2, h3.1, h3.2.1, by omega⟩
        · rintro ⟨a1, a2, a3, a4⟩
          by_cases c : x.Spot.Tier = (k : Int)
          · exact .inr (nd_mem h a1 (getD_mem h2) (spEq_iff.2 ⟨by omega, by omega, by omega⟩))
          · exact .inl ⟨a1, a2, a3, by omega⟩
      · refine hst.trans ?_
        have hlen : s.length ≤ 20 := by rw [i1, List.length_map]; omega
        rw [h1, decide_eq_true (by omega), cond_true, ix_nat h2, bd_eq, Int.toNat_natCast, chk_dec (by rw [List.length_append]; simp; omega)]
  · obtain ⟨L, i1, i2, i3, i4⟩ := hI
    refine ⟨L, ?_, i2, i3, fun x => ?_⟩
    · show spec_l12Stack_L3 n _ (fun t15 out16 => J (t15, out16)) l bay row ((20 : Nat) : Int) s = _
      unfold spec_l12Stack_L3
      rw [decide_eq_false (by omega), cond_false, i1]
    · rw [i4]
      exact ⟨fun hh => ⟨hh.1, hh.2.1, hh.2.2.1⟩, fun hh => ⟨hh.1, hh.2.1, hh.2.2, (ht x hh.1).2⟩⟩
theorem cmp_int12 (n : Nat) (x y : Int) : cmp_Compare_int n x y = some (if x < y then -1 else if x > y then 1 else 0) := by
  unfold cmp_Compare_int cmp_isNaN_int
  simp only [decide_true, Bool.not_true, Option.bind_some, cond_false]
  by_cases h : x < y
  · simp [h]
  · by_cases h2 : x > y <;> simp [h, h2]
def cmpT (a b : SStow) : Int := if a.Spot.Tier < b.Spot.Tier then -1 else if a.Spot.Tier > b.Spot.Tier then 1 else 0
theorem cmpT_lt {a b : SStow} : cmpT a b < 0 ↔ a.Spot.Tier < b.Spot.Tier := by
  unfold cmpT
  split
  · omega
  · split <;> omega
def atPlace (bay row : Int) (x : SStow) : Bool := decide (x.Spot.Bay = bay) && decide (x.Spot.Row = row)
theorem pw_idx {R : SStow → SStow → Prop} {l : List SStow} (h : ∀ i k, i < l.length → k < i → R (l.getD k dSStow) (l.getD i dSStow)) : l.Pairwise R :=
  List.pairwise_iff_getElem.2 fun i j hi hj hij => by
    have := h j i hj hij
    rw [getD_eq hi, getD_eq hj] at this; exact this
theorem stackOf_walk {n : Nat} {l : List SStow} (h : nd l) (bay row : Int) (hl : l.length ≤ 40) (hn : 1000000000 < n) :
    ∃ L : List SStow, impl_stackOf n l bay row = some (L.map SStow.Box) ∧ L.Pairwise tLt ∧ ∀ x, x ∈ L ↔ (x ∈ l ∧ x.Spot.Bay = bay ∧ x.Spot.Row = row) := by
  unfold impl_stackOf
  refine loop_runS (enc := fun k (s : List SStow) => (k, s)) (I := fun k s => s = (l.take k).filter (atPlace bay row)) (Q := fun r => ∃ L : List SStow, r = some (L.map SStow.Box) ∧ L.Pairwise tLt ∧ ∀ x, x ∈ L ↔ (x ∈ l ∧ x.Spot.Bay = bay ∧ x.Spot.Row = row)) (len := l.length) (fun k s J hk hI => ?_) (fun s J hI => ?_) (by omega) rfl
  · have e : w64 ((k : Int) + 1) = ((k + 1 : Nat) : Int) := w64_succ (by omega)
    have hs : s.length ≤ 40 := by
      rw [hI]
      exact Nat.le_trans (List.length_filter_le _ _) (by rw [List.length_take]; omega)
    have hn' : (l.take (k + 1)).filter (atPlace bay row) = if atPlace bay row (l.getD k dSStow) = true then s ++ [l.getD k dSStow] else s := by
      rw [take_succ_getD (d := dSStow) hk, List.filter_append, ← hI]
      by_cases c : atPlace bay row (l.getD k dSStow) = true
      · rw [if_pos c, List.filter_cons_of_pos c]; rfl
      · rw [if_neg c, List.filter_cons_of_neg c]; simp
    refine ⟨_, hn'.symm, ?_⟩
    show impl_stackOf_L3 n _ (fun t42 l43 => J (t42, l43)) bay row l (l.length : Int) (k : Int) s = _
    unfold impl_stackOf_L3 impl_stackOf_k0
    rw [decide_eq_true (by omega), cond_true, ix_nat hk, bd_eq, Int.toNat_natCast, e, chk_dec (by rw [List.length_append]; simp; omega)]
    unfold atPlace
    by_cases c1 : (l.getD k dSStow).Spot.Bay = bay
    · by_cases c2 : (l.getD k dSStow).Spot.Row = row
      · rw [decide_eq_true c1, decide_eq_true c2]; rfl
      · rw [decide_eq_true c1, decide_eq_false c2]; rfl
    · rw [decide_eq_false c1]; rfl
  · rw [List.take_length] at hI
    have hmem : ∀ x, x ∈ s ↔ (x ∈ l ∧ x.Spot.Bay = bay ∧ x.Spot.Row = row) := fun x => by
      rw [hI, List.mem_filter]
      unfold atPlace
      simp only [Bool.and_eq_true, decide_eq_true_eq]
    have hs : s.length ≤ 40 := by
      rw [hI]
      exact Nat.le_trans (List.length_filter_le _ _) hl
    have hne : s.Pairwise fun x y => x.Spot.Tier ≠ y.Spot.Tier := by
      have h0 : s.Pairwise fun x y => spEq x.Spot y.Spot = false := by
        rw [hI]; exact (pw_idx (R := fun x y => spEq x.Spot y.Spot = false) (l := l) h).filter _
      refine List.Pairwise.imp_of_mem (fun {a b} ha hb hab hT => ?_) h0
      have ha := (hmem a).1 ha
      have hb := (hmem b).1 hb
      rw [spEq_iff.2 ⟨by omega, by omega, hT⟩] at hab
      cases hab
    obtain ⟨o, o1, o2, o3⟩ := sortL_ok (d := dSStow) (cmp := fun a b => impl_stackOf_1 n a b) (cf := cmpT) (l := s) (fun x _ y _ => by
      unfold impl_stackOf_1
      rw [cmp_int12, Option.bind_some]; rfl) (fun x _ => by rw [cmpT_lt]; omega) (fun x _ y _ z _ h1 h2 => by
      rw [cmpT_lt] at h1 h2 ⊢; omega) (fun x _ y _ z _ h1 h2 => by
      rw [cmpT_lt] at h1 h2 ⊢; omega) (by omega)
    have hol : o.length = s.length := o2.length_eq
    show ∃ L : List SStow, impl_stackOf_L3 n _ (fun t42 l43 => J (t42, l43)) bay row l (l.length : Int) (l.length : Int) s = some (L.map SStow.Box) ∧ _
    refine ⟨o, ?_, ?_, fun x => by rw [o2.mem_iff]; exact hmem x⟩
    · unfold impl_stackOf_L3 sSort_stackOf_1
      rw [decide_eq_false (by omega), cond_false]
      show (sortL dSStow (fun a b => impl_stackOf_1 n a b) s).bind _ = _
      rw [o1, Option.bind_some]
      refine loop_runS (enc := fun k (s : List SBox) => (k, s)) (I := fun k x => x = (o.take k).map SStow.Box) (Q := fun r => r = some (o.map SStow.Box)) (len := o.length) (fun k x J' hk hI' => ?_) (fun x J' hI' => ?_) (by omega) rfl
      · have e : w64 ((k : Int) + 1) = ((k + 1 : Nat) : Int) := w64_succ (by omega)
        have hx : x.length ≤ 40 := by rw [hI', List.length_map, List.length_take]; omega
        refine ⟨x ++ [(o.getD k dSStow).Box], by rw [take_succ_getD (d := dSStow) hk, List.map_append, hI']; rfl, ?_⟩
        show impl_stackOf_L11 n _ (fun t40 out41 => J' (t40, out41)) (o.length : Int) (k : Int) x o = _
        unfold impl_stackOf_L11
        rw [decide_eq_true (by omega), cond_true, ix_nat hk, Int.toNat_natCast, chk_dec hk, bd_eq, chk_dec (by rw [List.length_append]; simp; omega), e]
      · show impl_stackOf_L11 n _ (fun t40 out41 => J' (t40, out41)) (o.length : Int) (o.length : Int) x o = _
        unfold impl_stackOf_L11
        rw [decide_eq_false (by omega), cond_false, hI', List.take_length]
    · have hne' : o.Pairwise fun x y => x.Spot.Tier ≠ y.Spot.Tier := (o2.pairwise_iff (fun {a b} hab => Ne.symm hab)).2 hne
      refine (o3.and hne').imp fun {a b} hab => ?_
      have h1 := hab.1
      rw [cmpT_lt] at h1
      have h2 := hab.2
      unfold tLt
      omega
theorem stacks_same {n : Nat} {l : List SStow} (h : nd l) (bay row : Int) (hl : l.length ≤ 40) (ht : ∀ x ∈ l, 0 ≤ x.Spot.Tier ∧ x.Spot.Tier < 20) (hn : 1000000000 < n) : ∃ B : List SBox, spec_l12Stack n l bay row = some B ∧ impl_stackOf n l bay row = some B ∧ B.length ≤ 20 := by
  obtain ⟨L, a1, a2, a3, a4⟩ := stack_walk h bay row hl ht hn
  obtain ⟨M, b1, b2, b3⟩ := stackOf_walk h bay row hl hn
  have : M = L := sorted_uni M L b2 a2 fun x => by rw [b3, a4]
  rw [this] at b1
  exact ⟨_, a1, b1, by rw [List.length_map]; exact a3⟩
end Go.Sm
end

section
set_option linter.unusedVariables false
set_option linter.unusedSimpArgs false
namespace Go.Sm
attribute [local irreducible] bd chk ix loopN
/-! ### What fails -/
def insideB (bays : List SHatch) (s : SSpot) : Bool := decide (0 ≤ s.Bay ∧ s.Bay ≤ w64 ((bays.length : Int) - 1)) && (decide (0 ≤ s.Row ∧ s.Row ≤ w64 ((bays.getD s.Bay.toNat dSHatch).Rows - 1)) && decide (0 ≤ s.Tier ∧ s.Tier ≤ w64 ((bays.getD s.Bay.toNat dSHatch).Tiers - 1)))
def coldU (l : List SStow) (bay : Int) : Nat → Int
  | 0 => 0
  | k + 1 => bif decide ((l.getD k dSStow).Spot.Bay = bay) && (l.getD k dSStow).Box.Cold then w64 (coldU l bay k + 1) else coldU l bay k
def fl (n : Nat) (bays : List SHatch) (l : List SStow) : Nat → Nat → Bool
  | 0, i => !boxB (l.getD i dSStow).Box
  | 1, i => (List.range i).any fun k => decide ((l.getD k dSStow).Box.Name = (l.getD i dSStow).Box.Name) || spEq (l.getD k dSStow).Spot (l.getD i dSStow).Spot
  | 2, i => !insideB bays (l.getD i dSStow).Spot
  | 3, i => decide ((l.getD i dSStow).Spot.Tier > 0) && !((List.range l.length).any fun k => spEq (l.getD k dSStow).Spot ⟨(l.getD i dSStow).Spot.Bay, (l.getD i dSStow).Spot.Row, w64 ((l.getD i dSStow).Spot.Tier - 1)⟩)
  | 4, i => !stackB ((spec_l12Stack n l (l.getD i dSStow).Spot.Bay (l.getD i dSStow).Spot.Row).getD []) (bays.getD (l.getD i dSStow).Spot.Bay.toNat dSHatch).Most
  | 5, i => (l.getD i dSStow).Box.Cold && decide (coldU l (l.getD i dSStow).Spot.Bay l.length > (bays.getD (l.getD i dSStow).Spot.Bay.toNat dSHatch).Plugs)
  | 6, i => (List.range i).any fun k => !keepsV (l.getD k dSStow).Box (l.getD k dSStow).Spot (l.getD i dSStow).Box (l.getD i dSStow).Spot
  | _, _ => false
theorem any_all {m : Nat} {c : Nat → Bool} : (bif (List.range m).all (fun k => !c k) then (some false : Option Bool) else some true) = some ((List.range m).any c) := by
  rw [← List.not_any_eq_all_not]
  cases (List.range m).any c <;> rfl
theorem take_any {α : Type} {l : List SStow} {i : Nat} (hi : i ≤ l.length) {c : SStow → Bool} : ((List.range (l.take i).length).any fun k => c ((l.take i).getD k dSStow)) = (List.range i).any fun k => c (l.getD k dSStow) := by
  have ht : (l.take i).length = i := by rw [List.length_take]; omega
  rw [ht]
  refine any_congr_lt fun k hk => ?_
  rw [getD_eq (by omega), getD_eq (by omega), List.getElem_take]
theorem inside_at {bays : List SHatch} (hb : hatchesB bays = true) {s : SSpot} (h : insideB bays s = true) : 0 ≤ s.Bay ∧ s.Bay < (bays.length : Int) ∧ 0 ≤ s.Tier ∧ s.Tier < 20 := by
  obtain ⟨b1, b2, b3⟩ := hatchesB_at hb
  unfold insideB at h
  simp only [Bool.and_eq_true, decide_eq_true_eq] at h
  have e1 : w64 ((bays.length : Int) - 1) = (bays.length : Int) - 1 := w64_id (by omega) (by omega)
  rw [e1] at h
  have h3 := b3 s.Bay.toNat (by omega)
  have e2 : w64 ((bays.getD s.Bay.toNat dSHatch).Tiers - 1) = (bays.getD s.Bay.toNat dSHatch).Tiers - 1 := w64_id (by omega) (by omega)
  rw [e2] at h
  omega
/-- What the earlier ones left. -/
def Past (n : Nat) (bays : List SHatch) (l : List SStow) (k : Nat) : Prop := ∀ j, j < k → ∀ i, i < l.length → fl n bays l j i = false
theorem Past.nd {n : Nat} {bays : List SHatch} {l : List SStow} {k : Nat} (h : Past n bays l k) (hk : 1 < k) : nd l := fun i k' hi hk' => by
  have h1 := h 1 hk i hi
  have h2 : ∀ x, x ∈ List.range i → ¬ (decide ((l.getD x dSStow).Box.Name = (l.getD i dSStow).Box.Name) || spEq (l.getD x dSStow).Spot (l.getD i dSStow).Spot) = true := List.any_eq_false.1 h1
  have h3 := h2 k' (List.mem_range.2 hk')
  cases hc : spEq (l.getD k' dSStow).Spot (l.getD i dSStow).Spot with
  | false => rfl
  | true => rw [hc, Bool.or_true] at h3; exact absurd rfl h3
theorem Past.ins {n : Nat} {bays : List SHatch} {l : List SStow} {k : Nat} (h : Past n bays l k) (hk : 2 < k) {i : Nat} (hi : i < l.length) : insideB bays (l.getD i dSStow).Spot = true := by
  have h1 := h 2 hk i hi
  have h2 : (!insideB bays (l.getD i dSStow).Spot) = false := h1
  cases hc : insideB bays (l.getD i dSStow).Spot with
  | true => rfl
  | false => rw [hc] at h2; cases h2
theorem Past.tiers {n : Nat} {bays : List SHatch} {l : List SStow} {k : Nat} (hb : hatchesB bays = true) (h : Past n bays l k) (hk : 2 < k) : ∀ x ∈ l, 0 ≤ x.Spot.Tier ∧ x.Spot.Tier < 20 := fun x hx => by
  obtain ⟨i, i1, i2⟩ := mem_getS hx
  have := inside_at hb (h.ins hk i1)
  rw [i2] at this
  exact this.2.2
theorem cold_spec {n : Nat} (l : List SStow) (bay : Int) (hl : l.length ≤ 100000000) (hn : 1000000000 < n) : spec_l12Cold n l bay = some (coldU l bay l.length) := by
  unfold spec_l12Cold
  refine loop_runS (enc := fun k (s : Int) => (s, k)) (I := fun k s => s = coldU l bay k) (Q := fun r => r = some (coldU l bay l.length)) (len := l.length) (fun k s J hk hI => ⟨_, rfl, ?_⟩) (fun s J hI => ?_) (by omega) rfl
  · have e : w64 ((k : Int) + 1) = ((k + 1 : Nat) : Int) := w64_succ (by omega)
    show spec_l12Cold_L3 n _ (fun n27 i28 => J (n27, i28)) l bay s (k : Int) = _
    unfold spec_l12Cold_L3 spec_l12Cold_k0
    rw [decide_eq_true (by omega), cond_true, ix_nat hk, bd_eq, Int.toNat_natCast, ix_nat hk, bd_eq, e, hI]
    show _ = J (bif decide ((l.getD k dSStow).Spot.Bay = bay) && (l.getD k dSStow).Box.Cold then w64 (coldU l bay k + 1) else coldU l bay k, ((k + 1 : Nat) : Int))
    generalize decide ((l.getD k dSStow).Spot.Bay = bay) = a
    cases a <;> cases (l.getD k dSStow).Box.Cold <;> rfl
  · show spec_l12Cold_L3 n _ (fun n27 i28 => J (n27, i28)) l bay s (l.length : Int) = _
    unfold spec_l12Cold_L3
    rw [decide_eq_false (by omega), cond_false, hI]
theorem spec_fl {n : Nat} {bays : List SHatch} {l : List SStow} (hb : hatchesB bays = true) (hl : l.length ≤ 40) (hn : 1000000000 < n) {k : Nat} (hk : k < 7) (hp : Past n bays l k) {i : Nat} (hi : i < l.length) : spec_l12Fails n bays l (i : Int) ((k + 1 : Nat) : Int) = some (fl n bays l k i) := by
  unfold spec_l12Fails
  rw [ix_nat hi, bd_eq, Int.toNat_natCast]
  rcases (show k = 0 ∨ k = 1 ∨ k = 2 ∨ k = 3 ∨ k = 4 ∨ k = 5 ∨ k = 6 by omega) with e | e | e | e | e | e | e <;> subst e
  · rw [decide_eq_true (by omega), cond_true, boxB_spec _ hn]; rfl
  · rw [decide_eq_false (by omega), cond_false, decide_eq_true (by omega), cond_true]
    rw [loop_all (len := i) (p := fun k => !(decide ((l.getD k dSStow).Box.Name = (l.getD i dSStow).Box.Name) || spEq (l.getD k dSStow).Spot (l.getD i dSStow).Spot)) (no := some true) (yes := some false) (by omega) (fun k J hk' _ => ?_) (fun J _ => ?_) (by omega)]
    · exact any_all
    · have e2 : w64 ((k : Int) + 1) = ((k + 1 : Nat) : Int) := w64_succ (by omega)
      have hk2 : k < l.length := by omega
      unfold spec_l12Fails_L8 spec_l12Fails_k0
      rw [decide_eq_true (by omega), cond_true, ix_nat hk2, bd_eq, Int.toNat_natCast, ix_nat hk2, bd_eq, ← spEq, e2]
      generalize decide ((l.getD k dSStow).Box.Name = (l.getD i dSStow).Box.Name) = a
      generalize spEq (l.getD k dSStow).Spot (l.getD i dSStow).Spot = b
      cases a <;> cases b <;> rfl
    · unfold spec_l12Fails_L8
      rw [decide_eq_false (by omega), cond_false]
  · rw [decide_eq_false (by omega), cond_false, decide_eq_false (by omega), cond_false, decide_eq_true (by omega), cond_true, bd_eq, in_specB, Option.bind_some]
    show _ = some (!insideB bays (l.getD i dSStow).Spot)
    obtain ⟨b1, b2, b3⟩ := hatchesB_at hb
    have e1 : w64 ((bays.length : Int) - 1) = (bays.length : Int) - 1 := w64_id (by omega) (by omega)
    unfold insideB
    by_cases c : 0 ≤ (l.getD i dSStow).Spot.Bay ∧ (l.getD i dSStow).Spot.Bay ≤ w64 ((bays.length : Int) - 1)
    · rw [decide_eq_true c, Bool.not_true, cond_false, Bool.true_and]
      rw [e1] at c
      rw [ix_of c.1 (by omega), bd_eq, bd_eq, in_specB, Option.bind_some, ix_of c.1 (by omega), bd_eq, bd_eq, in_specB, Option.bind_some]
      generalize decide (0 ≤ (l.getD i dSStow).Spot.Row ∧ (l.getD i dSStow).Spot.Row ≤ w64 ((bays.getD (l.getD i dSStow).Spot.Bay.toNat dSHatch).Rows - 1)) = a
      cases a <;> rfl
    · rw [decide_eq_false c]; rfl
  · rw [decide_eq_false (by omega), cond_false, decide_eq_false (by omega), cond_false, decide_eq_false (by omega), cond_false, decide_eq_true (by omega), cond_true, bd_eq, l12At_idx l _ (by omega) hn, Option.bind_some, idxOf_lt]
    show _ = some (decide _ && _)
    generalize decide ((l.getD i dSStow).Spot.Tier > 0) = a
    cases a <;> rfl
  · rw [decide_eq_false (by omega), cond_false, decide_eq_false (by omega), cond_false, decide_eq_false (by omega), cond_false, decide_eq_false (by omega), cond_false, decide_eq_true (by omega), cond_true]
    obtain ⟨B, s1, s2, s3⟩ := stacks_same (n := n) (hp.nd (by omega)) (l.getD i dSStow).Spot.Bay (l.getD i dSStow).Spot.Row hl (hp.tiers hb (by omega)) hn
    have hin := inside_at hb (hp.ins (by omega) hi)
    show _ = some (!stackB ((spec_l12Stack n l (l.getD i dSStow).Spot.Bay (l.getD i dSStow).Spot.Row).getD []) (bays.getD (l.getD i dSStow).Spot.Bay.toNat dSHatch).Most)
    rw [s1, Option.bind_some, ix_of hin.1 hin.2.1, bd_eq, stack_spec _ _ (by omega) hn, Option.bind_some, Option.getD_some]
  · rw [decide_eq_false (by omega), cond_false, decide_eq_false (by omega), cond_false, decide_eq_false (by omega), cond_false, decide_eq_false (by omega), cond_false, decide_eq_false (by omega), cond_false, decide_eq_true (by omega), cond_true]
    have hin := inside_at hb (hp.ins (by omega) hi)
    rw [cold_spec l _ (by omega) hn, Option.bind_some, ix_of hin.1 hin.2.1, bd_eq]
    show _ = some ((l.getD i dSStow).Box.Cold && _)
    cases (l.getD i dSStow).Box.Cold <;> rfl
  · rw [decide_eq_false (by omega), cond_false, decide_eq_false (by omega), cond_false, decide_eq_false (by omega), cond_false, decide_eq_false (by omega), cond_false, decide_eq_false (by omega), cond_false, decide_eq_false (by omega), cond_false]
    rw [loop_all (len := i) (p := fun k => !(!keepsV (l.getD k dSStow).Box (l.getD k dSStow).Spot (l.getD i dSStow).Box (l.getD i dSStow).Spot)) (no := some true) (yes := some false) (by omega) (fun k J hk' _ => ?_) (fun J _ => ?_) (by omega)]
    · exact any_all
    · have e2 : w64 ((k : Int) + 1) = ((k + 1 : Nat) : Int) := w64_succ (by omega)
      have hk2 : k < l.length := by omega
      unfold spec_l12Fails_L22 spec_l12Fails_k1
      rw [decide_eq_true (by omega), cond_true, ix_nat hk2, bd_eq, Int.toNat_natCast, ix_nat hk2, bd_eq, (keeps_spec _ _ _ _ hn).1, Option.bind_some, e2]
      cases keepsV (l.getD k dSStow).Box (l.getD k dSStow).Spot (l.getD i dSStow).Box (l.getD i dSStow).Spot <;> rfl
    · unfold spec_l12Fails_L22
      rw [decide_eq_false (by omega), cond_false]
/-! ### The same, told by the built one -/
theorem contains2 {n : Nat} (l : List SStow) (s : SStow) (hl : l.length ≤ 100000000) (hn : 1000000000 < n) : sContains_StowCode_2_1 n l s = some ((List.range l.length).any fun k => decide ((l.getD k dSStow).Box.Name = s.Box.Name) || spEq (l.getD k dSStow).Spot s.Spot) := by
  unfold sContains_StowCode_2_1 sIndex_StowCode_2_1
  rw [loop_idx (len := l.length) (p := fun k => decide ((l.getD k dSStow).Box.Name = s.Box.Name) || spEq (l.getD k dSStow).Spot s.Spot) (by omega) (fun k J hk _ => ?_) (fun J _ => ?_) (by omega), Option.bind_some, idxOf_ge]
  · have e2 : w64 ((k : Int) + 1) = ((k + 1 : Nat) : Int) := w64_succ (by omega)
    unfold sIndex_StowCode_2_1_L2 impl_StowCode_2_1
    rw [decide_eq_true (by omega), cond_true, ix_nat hk, bd_eq, Int.toNat_natCast, ← spEq, e2]
    generalize decide ((l.getD k dSStow).Box.Name = s.Box.Name) = a
    generalize spEq (l.getD k dSStow).Spot s.Spot = b
    cases a <;> cases b <;> rfl
  · unfold sIndex_StowCode_2_1_L2
    rw [decide_eq_false (by omega), cond_false]
theorem contains4 {n : Nat} (l : List SStow) (s : SSpot) (hl : l.length ≤ 100000000) (hn : 1000000000 < n) : sContains_StowCode_4_1 n l s = some ((List.range l.length).any fun k => spEq (l.getD k dSStow).Spot s) := by
  unfold sContains_StowCode_4_1 sIndex_StowCode_4_1
  rw [loop_idx (len := l.length) (p := fun k => spEq (l.getD k dSStow).Spot s) (by omega) (fun k J hk _ => ?_) (fun J _ => ?_) (by omega), Option.bind_some, idxOf_ge]
  · have e2 : w64 ((k : Int) + 1) = ((k + 1 : Nat) : Int) := w64_succ (by omega)
    unfold sIndex_StowCode_4_1_L2 impl_StowCode_4_1
    rw [decide_eq_true (by omega), cond_true, ix_nat hk, bd_eq, Int.toNat_natCast, ← spEq, e2, Option.bind_some]
  · unfold sIndex_StowCode_4_1_L2
    rw [decide_eq_false (by omega), cond_false]
theorem contains7 {n : Nat} (l : List SStow) (s : SStow) (hl : l.length ≤ 100000000) (hn : 1000000000 < n) : sContains_StowCode_7_1 n l s = some ((List.range l.length).any fun k => !keepsV (l.getD k dSStow).Box (l.getD k dSStow).Spot s.Box s.Spot) := by
  unfold sContains_StowCode_7_1 sIndex_StowCode_7_1
  rw [loop_idx (len := l.length) (p := fun k => !keepsV (l.getD k dSStow).Box (l.getD k dSStow).Spot s.Box s.Spot) (by omega) (fun k J hk _ => ?_) (fun J _ => ?_) (by omega), Option.bind_some, idxOf_ge]
  · have e2 : w64 ((k : Int) + 1) = ((k + 1 : Nat) : Int) := w64_succ (by omega)
    unfold sIndex_StowCode_7_1_L2 impl_StowCode_7_1
    rw [decide_eq_true (by omega), cond_true, ix_nat hk, bd_eq, Int.toNat_natCast, (keeps_spec _ _ _ _ hn).2, Option.bind_some, Option.bind_some, e2]
  · unfold sIndex_StowCode_7_1_L2
    rw [decide_eq_false (by omega), cond_false]
theorem cold_impl {n : Nat} (l : List SStow) (bays : List SHatch) (s : SStow) (i : Int) (hl : l.length ≤ 100000000) (hn : 1000000000 < n) (hs : 0 ≤ s.Spot.Bay ∧ s.Spot.Bay < (bays.length : Int)) : impl_StowCode_6 n i s l bays = some (s.Box.Cold && decide (coldU l s.Spot.Bay l.length > (bays.getD s.Spot.Bay.toNat dSHatch).Plugs)) := by
  unfold impl_StowCode_6
  refine loop_runS (enc := fun k (s : Int) => (s, k)) (I := fun k x => x = coldU l s.Spot.Bay k) (Q := fun r => r = some (s.Box.Cold && decide (coldU l s.Spot.Bay l.length > (bays.getD s.Spot.Bay.toNat dSHatch).Plugs))) (len := l.length) (fun k x J hk hI => ⟨_, rfl, ?_⟩) (fun x J hI => ?_) (by omega) rfl
  · have e : w64 ((k : Int) + 1) = ((k + 1 : Nat) : Int) := w64_succ (by omega)
    show impl_StowCode_6_L3 n _ (fun n42 t43 => J (n42, t43)) bays x l (l.length : Int) (k : Int) s = _
    unfold impl_StowCode_6_L3
    rw [decide_eq_true (by omega), cond_true, ix_nat hk, bd_eq, Int.toNat_natCast, e, hI]
    show _ = J (bif decide ((l.getD k dSStow).Spot.Bay = s.Spot.Bay) && (l.getD k dSStow).Box.Cold then w64 (coldU l s.Spot.Bay k + 1) else coldU l s.Spot.Bay k, ((k + 1 : Nat) : Int))
    generalize decide ((l.getD k dSStow).Spot.Bay = s.Spot.Bay) = a
    cases a <;> cases (l.getD k dSStow).Box.Cold <;> rfl
  · show impl_StowCode_6_L3 n _ (fun n42 t43 => J (n42, t43)) bays x l (l.length : Int) (l.length : Int) s = _
    unfold impl_StowCode_6_L3
    rw [decide_eq_false (by omega), cond_false, hI]
    dsimp only
    rw [ix_of hs.1 hs.2, bd_eq]
    cases s.Box.Cold <;> rfl
end Go.Sm
end

section
set_option linter.unusedVariables false
set_option linter.unusedSimpArgs false
namespace Go.Sm
attribute [local irreducible] bd chk ix loopN
theorem impl_f1 (n : Nat) (l : List SStow) (i : Nat) (hn : 1000000000 < n) : impl_StowCode_1 n (i : Int) (l.getD i dSStow) = some (!boxB (l.getD i dSStow).Box) := by
  unfold impl_StowCode_1
  rw [boxB_impl _ hn]; rfl
theorem impl_f2 (n : Nat) (l : List SStow) {i : Nat} (hi : i < l.length) (hl : l.length ≤ 40) (hn : 1000000000 < n) : impl_StowCode_2 n (i : Int) (l.getD i dSStow) l = some ((List.range i).any fun k => decide ((l.getD k dSStow).Box.Name = (l.getD i dSStow).Box.Name) || spEq (l.getD k dSStow).Spot (l.getD i dSStow).Spot) := by
  unfold impl_StowCode_2
  rw [chk_dec (by omega), chk_dec (by omega), Int.toNat_natCast, contains2 _ _ (by rw [List.length_take]; omega) hn, Option.bind_some, take_any (α := Nat) (by omega) (c := fun x => decide (x.Box.Name = (l.getD i dSStow).Box.Name) || spEq x.Spot (l.getD i dSStow).Spot)]
theorem impl_f3 (n : Nat) {bays : List SHatch} (hb : hatchesB bays = true) (l : List SStow) (i : Nat) : impl_StowCode_3 n (i : Int) (l.getD i dSStow) bays = some (!insideB bays (l.getD i dSStow).Spot) := by
  obtain ⟨b1, b2, b3⟩ := hatchesB_at hb
  have e1 : w64 ((bays.length : Int) - 1) = (bays.length : Int) - 1 := w64_id (by omega) (by omega)
  unfold impl_StowCode_3 insideB
  rw [bd_eq, in_implB, Option.bind_some]
  by_cases c : 0 ≤ (l.getD i dSStow).Spot.Bay ∧ (l.getD i dSStow).Spot.Bay ≤ w64 ((bays.length : Int) - 1)
  · rw [decide_eq_true c, Bool.not_true, cond_false, Bool.true_and]
    rw [e1] at c
    rw [ix_of c.1 (by omega), bd_eq, bd_eq, in_implB, Option.bind_some, ix_of c.1 (by omega), bd_eq, bd_eq, in_implB, Option.bind_some]
    generalize decide (0 ≤ (l.getD i dSStow).Spot.Row ∧ (l.getD i dSStow).Spot.Row ≤ w64 ((bays.getD (l.getD i dSStow).Spot.Bay.toNat dSHatch).Rows - 1)) = a
    cases a <;> rfl
  · rw [decide_eq_false c]; rfl
theorem impl_f4 (n : Nat) (l : List SStow) (i : Nat) (ht : 0 ≤ (l.getD i dSStow).Spot.Tier ∧ (l.getD i dSStow).Spot.Tier < 20) (hl : l.length ≤ 40) (hn : 1000000000 < n) : impl_StowCode_4 n (i : Int) (l.getD i dSStow) l = some (decide ((l.getD i dSStow).Spot.Tier > 0) && !((List.range l.length).any fun k => spEq (l.getD k dSStow).Spot ⟨(l.getD i dSStow).Spot.Bay, (l.getD i dSStow).Spot.Row, w64 ((l.getD i dSStow).Spot.Tier - 1)⟩)) := by
  unfold impl_StowCode_4
  have e1 : w64 ((l.getD i dSStow).Spot.Tier - 1) = (l.getD i dSStow).Spot.Tier - 1 := w64_id (by omega) (by omega)
  have e2 : decide (w64 ((l.getD i dSStow).Spot.Tier - 1) ≥ 0) = decide ((l.getD i dSStow).Spot.Tier > 0) := by
    rw [e1, decide_eq_decide]; omega
  rw [bd_eq, e2, contains4 l _ (by omega) hn, Option.bind_some]
  generalize decide ((l.getD i dSStow).Spot.Tier > 0) = a
  cases a <;> rfl
theorem impl_f5 {n : Nat} {bays : List SHatch} {l : List SStow} (hnd : nd l) (hl : l.length ≤ 40) (ht : ∀ x ∈ l, 0 ≤ x.Spot.Tier ∧ x.Spot.Tier < 20) {i : Nat} (hs : 0 ≤ (l.getD i dSStow).Spot.Bay ∧ (l.getD i dSStow).Spot.Bay < (bays.length : Int)) (hn : 1000000000 < n) : impl_StowCode_5 n (i : Int) (l.getD i dSStow) l bays = some (!stackB ((spec_l12Stack n l (l.getD i dSStow).Spot.Bay (l.getD i dSStow).Spot.Row).getD []) (bays.getD (l.getD i dSStow).Spot.Bay.toNat dSHatch).Most) := by
  obtain ⟨B, s1, s2, s3⟩ := stacks_same (n := n) hnd (l.getD i dSStow).Spot.Bay (l.getD i dSStow).Spot.Row hl ht hn
  unfold impl_StowCode_5
  rw [s1, s2, Option.bind_some, ix_of hs.1 hs.2, bd_eq, stack_impl _ _ (by omega) hn, Option.bind_some, Option.getD_some]
theorem impl_f7 (n : Nat) (l : List SStow) {i : Nat} (hi : i < l.length) (hl : l.length ≤ 40) (hn : 1000000000 < n) : impl_StowCode_7 n (i : Int) (l.getD i dSStow) l = some ((List.range i).any fun k => !keepsV (l.getD k dSStow).Box (l.getD k dSStow).Spot (l.getD i dSStow).Box (l.getD i dSStow).Spot) := by
  unfold impl_StowCode_7
  rw [chk_dec (by omega), chk_dec (by omega), Int.toNat_natCast, contains7 _ _ (by rw [List.length_take]; omega) hn, Option.bind_some, take_any (α := Nat) (by omega) (c := fun x => !keepsV x.Box x.Spot (l.getD i dSStow).Box (l.getD i dSStow).Spot)]
def tab (bays : List SHatch) (l : List SStow) : List SAnon113 := [(⟨(1 : Int), (⟨0, [], []⟩ : SFn112)⟩ : SAnon113), (⟨(2 : Int), (⟨1, l, []⟩ : SFn112)⟩ : SAnon113), (⟨(3 : Int), (⟨2, [], bays⟩ : SFn112)⟩ : SAnon113), (⟨(4 : Int), (⟨3, l, []⟩ : SFn112)⟩ : SAnon113), (⟨(5 : Int), (⟨4, l, bays⟩ : SFn112)⟩ : SAnon113), (⟨(6 : Int), (⟨5, l, bays⟩ : SFn112)⟩ : SAnon113), (⟨(7 : Int), (⟨6, l, []⟩ : SFn112)⟩ : SAnon113)]
theorem impl_fl {R : Type} {n : Nat} {bays : List SHatch} {l : List SStow} (kx : Option R) (kxr : Int → Int → Option R) (J : Int → Option R) (t10 t11 t13 : Int) (hb : hatchesB bays = true) (hl : l.length ≤ 40) (hn : 1000000000 < n) {k : Nat} (hk : k < 7) (hp : Past n bays l k) {i : Nat} (hi : i < l.length) :
    impl_StowCode_k0 n kx kxr J l t10 t11 l t13 (i : Int) ((tab bays l).getD k dSAnon113) (tab bays l) = bif fl n bays l k i then kxr ((k + 1 : Nat) : Int) (i : Int) else J ((i + 1 : Nat) : Int) := by
  have e : w64 ((i : Int) + 1) = ((i + 1 : Nat) : Int) := w64_succ (by omega)
  unfold impl_StowCode_k0
  rw [ix_nat hi, bd_eq, Int.toNat_natCast, e]
  rcases (show k = 0 ∨ k = 1 ∨ k = 2 ∨ k = 3 ∨ k = 4 ∨ k = 5 ∨ k = 6 by omega) with e | e | e | e | e | e | e <;> subst e
  · show (impl_StowCode_1 n (i : Int) (l.getD i dSStow)).bind _ = _
    rw [impl_f1 n l i hn, Option.bind_some]; rfl
  · show (impl_StowCode_2 n (i : Int) (l.getD i dSStow) l).bind _ = _
    rw [impl_f2 n l hi hl hn, Option.bind_some]; rfl
  · show (impl_StowCode_3 n (i : Int) (l.getD i dSStow) bays).bind _ = _
    rw [impl_f3 n hb l i, Option.bind_some]; rfl
  · have hin := inside_at hb (hp.ins (by omega) hi)
    show (impl_StowCode_4 n (i : Int) (l.getD i dSStow) l).bind _ = _
    rw [impl_f4 n l i hin.2.2 hl hn, Option.bind_some]; rfl
  · have hin := inside_at hb (hp.ins (by omega) hi)
    show (impl_StowCode_5 n (i : Int) (l.getD i dSStow) l bays).bind _ = _
    rw [impl_f5 (hp.nd (by omega)) hl (hp.tiers hb (by omega)) ⟨hin.1, hin.2.1⟩ hn, Option.bind_some]; rfl
  · have hin := inside_at hb (hp.ins (by omega) hi)
    show (impl_StowCode_6 n (i : Int) (l.getD i dSStow) l bays).bind _ = _
    rw [cold_impl l bays _ _ (by omega) hn ⟨hin.1, hin.2.1⟩, Option.bind_some]; rfl
  · show (impl_StowCode_7 n (i : Int) (l.getD i dSStow) l).bind _ = _
    rw [impl_f7 n l hi hl hn, Option.bind_some]; rfl
def firstF (n : Nat) (bays : List SHatch) (l : List SStow) (k : Nat) : Option Nat := (List.range l.length).find? (fl n bays l k)
theorem past_of {n : Nat} {bays : List SHatch} {l : List SStow} {k : Nat} (h : ∀ j, j < k → (firstF n bays l j).isSome = false) : Past n bays l k := fun j hj i hi => by
  have := h j hj
  unfold firstF at this
  rcases find_range (fl n bays l j) l.length with ⟨h1, h2⟩ | ⟨u, h1, _⟩
  · exact h2 i hi
  · rw [h1] at this; cases this
def stowV (n : Nat) (bays : List SHatch) (l : List SStow) : Int × Int := bif hatchesB bays && decide (l.length ≤ 40) then ((List.range 7).find? fun k => (firstF n bays l k).isSome).elim (0, 0) (fun k => (firstF n bays l k).elim (0, 0) fun i => (((k + 1 : Nat) : Int), (i : Int))) else (1, 0)
theorem stow_spec {n : Nat} (bays : List SHatch) (l : List SStow) (hbl : bays.length ≤ 100000000) (hn : 1000000000 < n) : spec_StowCode n bays l = some (stowV n bays l) := by
  unfold spec_StowCode stowV
  rw [hatches_spec bays hbl hn, Option.bind_some]
  cases hb : hatchesB bays with
  | false => rfl
  | true =>
    rw [Bool.not_true, cond_false, Bool.true_and]
    by_cases hl : l.length ≤ 40
    · rw [decide_eq_false (by omega), cond_false, decide_eq_true hl, cond_true]
      have key : loopN (fun (x : Int) J' => spec_StowCode_L4 n (some ((0 : Int), (0 : Int))) (fun t28 t29 => some (t28, t29)) J' bays l x) n (((0 + 1 : Nat)) : Int) = ((List.range 7).find? fun k => (firstF n bays l k).isSome).elim (some ((0 : Int), (0 : Int))) (fun k => (firstF n bays l k).elim none fun i => some (((k + 1 : Nat) : Int), (i : Int))) := by
        refine loop_findE (enc := fun k => ((k + 1 : Nat) : Int)) (fun k J hk hpast => ?_) (fun J => ?_) (by omega)
        · have hp := past_of hpast
          have e2 : w64 (((k + 1 : Nat) : Int) + 1) = ((k + 1 + 1 : Nat) : Int) := w64_succ (by omega)
          unfold spec_StowCode_L4
          rw [decide_eq_true (by omega), cond_true]
          have hin : loopN (fun (x : Int) J' => spec_StowCode_L7 n (bd (w64 (((k + 1 : Nat) : Int) + 1)) fun v19 => J v19) (fun t20 => (fun t28 t29 => some (t28, t29)) ((k + 1 : Nat) : Int) t20) J' bays l ((k + 1 : Nat) : Int) x) n ((0 : Nat) : Int) = (firstF n bays l k).elim (J ((k + 1 + 1 : Nat) : Int)) (fun i => some (((k + 1 : Nat) : Int), (i : Int))) := by
            refine loop_findE (enc := fun i => ((i : Nat) : Int)) (fun i J' hi _ => ?_) (fun J' => ?_) (by omega)
            · have e : w64 ((i : Int) + 1) = ((i + 1 : Nat) : Int) := w64_succ (by omega)
              unfold spec_StowCode_L7
              rw [decide_eq_true (by omega), cond_true, spec_fl hb hl hn hk hp hi, Option.bind_some, e]
            · unfold spec_StowCode_L7
              rw [decide_eq_false (by omega), cond_false, bd_eq, e2]
          refine hin.trans ?_
          cases firstF n bays l k <;> rfl
        · unfold spec_StowCode_L4
          rw [decide_eq_false (by omega), cond_false]
      refine (show _ = _ from key).trans ?_
      cases hf : (List.range 7).find? fun k => (firstF n bays l k).isSome with
      | none => rfl
      | some k =>
        have := List.find?_some hf
        show (firstF n bays l k).elim none _ = some ((firstF n bays l k).elim _ _)
        cases hk : firstF n bays l k with
        | none => rw [hk] at this; cases this
        | some i => rfl
    · rw [decide_eq_true (by omega), cond_true, decide_eq_false hl]; rfl
theorem stow_impl {n : Nat} (bays : List SHatch) (l : List SStow) (hbl : bays.length ≤ 100000000) (hn : 1000000000 < n) : impl_StowCode n bays l = some (stowV n bays l) := by
  unfold impl_StowCode stowV
  rw [hatches_impl bays hbl hn, Option.bind_some]
  cases hb : hatchesB bays with
  | false => rfl
  | true =>
    rw [Bool.not_true, cond_false, Bool.true_and]
    by_cases hl : l.length ≤ 40
    · rw [decide_eq_false (by omega), cond_false, decide_eq_true hl, cond_true]
      have key : loopN (fun (x : Int) J' => impl_StowCode_L4 n (some ((0 : Int), (0 : Int))) (fun t39 t40 => some (t39, t40)) J' l (7 : Int) x (tab bays l)) n ((0 : Nat) : Int) = ((List.range 7).find? fun k => (firstF n bays l k).isSome).elim (some ((0 : Int), (0 : Int))) (fun k => (firstF n bays l k).elim none fun i => some (((k + 1 : Nat) : Int), (i : Int))) := by
        refine loop_findE (enc := fun k => ((k : Nat) : Int)) (fun k J hk hpast => ?_) (fun J => ?_) (by omega)
        · have hp := past_of hpast
          have hkt : k < (tab bays l).length := hk
          have e2 : w64 ((k : Int) + 1) = ((k + 1 : Nat) : Int) := w64_succ (by omega)
          unfold impl_StowCode_L4 impl_StowCode_k1
          rw [decide_eq_true (by omega), cond_true, ix_nat hkt, Int.toNat_natCast, chk_dec hkt, bd_eq, decide_eq_false (Nat.not_lt_zero _), cond_false, e2]
          have hin : loopN (fun (x : Int) J' => impl_StowCode_L7 n (J ((k + 1 : Nat) : Int)) (fun t36 t37 => (fun t39 t40 => some (t39, t40)) t36 t37) J' l (7 : Int) (k : Int) l (l.length : Int) x ((tab bays l).getD k dSAnon113) (tab bays l)) n ((0 : Nat) : Int) = (firstF n bays l k).elim (J ((k + 1 : Nat) : Int)) (fun i => some (((k + 1 : Nat) : Int), (i : Int))) := by
            refine loop_findE (enc := fun i => ((i : Nat) : Int)) (fun i J' hi _ => ?_) (fun J' => ?_) (by omega)
            · unfold impl_StowCode_L7
              rw [decide_eq_true (by omega), cond_true]
              exact impl_fl _ _ J' _ _ _ hb hl hn hk hp hi
            · unfold impl_StowCode_L7
              rw [decide_eq_false (by omega), cond_false]
          refine hin.trans ?_
          cases firstF n bays l k <;> rfl
        · unfold impl_StowCode_L4
          rw [decide_eq_false (by omega), cond_false]
      refine (show impl_StowCode_k2 n bays l = _ from key).trans ?_
      cases hf : (List.range 7).find? fun k => (firstF n bays l k).isSome with
      | none => rfl
      | some k =>
        have := List.find?_some hf
        show (firstF n bays l k).elim none _ = some ((firstF n bays l k).elim _ _)
        cases hk : firstF n bays l k with
        | none => rw [hk] at this; cases this
        | some i => rfl
    · rw [decide_eq_true (by omega), cond_true, decide_eq_false hl]; rfl
/-! ### At a port -/
theorem own_stow {n : Nat} (l : List SStow) (hl : l.length ≤ 4000000) : impl_own_impl_Stow n l = some l := by
  unfold impl_own_impl_Stow
  rw [chk_dec (by omega), chk_dec (by omega), chk_dec (by omega)]
end Go.Sm
end

section
set_option linter.unusedVariables false
set_option linter.unusedSimpArgs false
namespace Go.Sm
attribute [local irreducible] bd chk ix loopN
/-! ### How many lie on top of one that leaves first -/
def ovB (a b : SStow) : Bool := decide (a.Spot.Bay = b.Spot.Bay) && (decide (a.Spot.Row = b.Spot.Row) && (decide (a.Spot.Tier > b.Spot.Tier) && decide (a.Box.To > b.Box.To)))
def ovA (l : List SStow) (i : Nat) (s : Int) : Nat → Int
  | 0 => s
  | k + 1 => bif ovB (l.getD i dSStow) (l.getD k dSStow) then ovA l i s k + 1 else ovA l i s k
def ovU (l : List SStow) : Nat → Int
  | 0 => 0
  | i + 1 => ovA l i (ovU l i) l.length
def ovV (l : List SStow) : Int := ovU l l.length
theorem ovA_rng (l : List SStow) (i : Nat) (s : Int) : ∀ k, s ≤ ovA l i s k ∧ ovA l i s k ≤ s + (k : Int)
  | 0 => ⟨Int.le_refl _, by unfold ovA; omega⟩
  | k + 1 => by
    have := ovA_rng l i s k
    unfold ovA
    cases ovB (l.getD i dSStow) (l.getD k dSStow)
    · rw [cond_false]; omega
    · rw [cond_true]; omega
theorem ovU_rng (l : List SStow) (hl : l.length ≤ 40) : ∀ i, 0 ≤ ovU l i ∧ ovU l i ≤ 40 * (i : Int)
  | 0 => ⟨Int.le_refl _, Int.le_refl _⟩
  | i + 1 => by
    have h1 := ovU_rng l hl i
    have h2 := ovA_rng l i (ovU l i) l.length
    show 0 ≤ ovA l i (ovU l i) l.length ∧ ovA l i (ovU l i) l.length ≤ _
    omega
theorem ovV_nn {l : List SStow} (hl : l.length ≤ 40) : 0 ≤ ovV l := (ovU_rng l hl _).1
theorem ovA_next {R : Type} {l : List SStow} {i k : Nat} {s : Int} {J : Int → Option R} (h : 0 ≤ ovA l i s k ∧ ovA l i s k ≤ 100000000) : (bif ovB (l.getD i dSStow) (l.getD k dSStow) then J (w64 (ovA l i s k + (1 : Int))) else J (ovA l i s k)) = J (ovA l i s (k + 1)) := by
  show _ = J (bif ovB (l.getD i dSStow) (l.getD k dSStow) then ovA l i s k + 1 else ovA l i s k)
  rw [w64_id (by omega) (by omega)]
  cases ovB (l.getD i dSStow) (l.getD k dSStow) <;> rfl
theorem over_spec {n : Nat} {l : List SStow} (hl : l.length ≤ 40) (hn : 1000000000 < n) : spec_l12Over n l = some (ovV l) := by
  unfold spec_l12Over
  refine loop_runS (enc := fun k (s : Int) => (s, k)) (I := fun k s => s = ovU l k) (Q := fun r => r = some (ovV l)) (len := l.length) (fun i s J hi hI => ⟨_, rfl, ?_⟩) (fun s J hI => ?_) (by omega) rfl
  · have e : w64 ((i : Int) + 1) = ((i + 1 : Nat) : Int) := w64_succ (by omega)
    have hU := ovU_rng l hl i
    unfold spec_l12Over_L3
    rw [decide_eq_true (by omega), cond_true, e]
    refine loop_runS (enc := fun k (s : Int) => (s, k)) (I := fun k t => t = ovA l i s k) (Q := fun r => r = J (ovU l (i + 1), ((i + 1 : Nat) : Int))) (len := l.length) (fun k t J' hk hI' => ⟨_, rfl, ?_⟩) (fun t J' hI' => ?_) (by omega) rfl
    · have e2 : w64 ((k : Int) + 1) = ((k + 1 : Nat) : Int) := w64_succ (by omega)
      have hA := ovA_rng l i s k
      unfold spec_l12Over_L6 spec_l12Over_k0
      rw [decide_eq_true (by omega), cond_true, ix_nat hi, bd_eq, ix_nat hk, bd_eq, Int.toNat_natCast, Int.toNat_natCast, e2, hI']
      simp only [bif_and']
      exact ovA_next (J := fun v => J' (v, ((k + 1 : Nat) : Int))) (by rw [hI] at hA ⊢; omega)
    · unfold spec_l12Over_L6
      rw [decide_eq_false (by omega), cond_false, hI', hI]; rfl
  · unfold spec_l12Over_L3
    rw [decide_eq_false (by omega), cond_false, hI]; rfl
theorem over_at (n : Nat) (a b : SSpot) : impl_over n a b = some (decide (a.Bay = b.Bay) && (decide (a.Row = b.Row) && decide (a.Tier > b.Tier))) := by
  unfold impl_over
  simp only [bif_sf]
theorem over_impl {n : Nat} {l : List SStow} (hl : l.length ≤ 40) (hn : 1000000000 < n) : impl_overstows n l = some (ovV l) := by
  unfold impl_overstows
  refine loop_runS (enc := fun k (s : Int) => (s, k)) (I := fun k s => s = ovU l k) (Q := fun r => r = some (ovV l)) (len := l.length) (fun i s J hi hI => ⟨_, rfl, ?_⟩) (fun s J hI => ?_) (by omega) rfl
  · have e : w64 ((i : Int) + 1) = ((i + 1 : Nat) : Int) := w64_succ (by omega)
    have hU := ovU_rng l hl i
    unfold impl_overstows_L3
    rw [decide_eq_true (by omega), cond_true, ix_nat hi, bd_eq, Int.toNat_natCast, e]
    refine loop_runS (enc := fun k (s : Int) => (s, k)) (I := fun k t => t = ovA l i s k) (Q := fun r => r = J (ovU l (i + 1), ((i + 1 : Nat) : Int))) (len := l.length) (fun k t J' hk hI' => ⟨_, rfl, ?_⟩) (fun t J' hI' => ?_) (by omega) rfl
    · have e2 : w64 ((k : Int) + 1) = ((k + 1 : Nat) : Int) := w64_succ (by omega)
      have hA := ovA_rng l i s k
      unfold impl_overstows_L6 impl_overstows_k0
      rw [decide_eq_true (by omega), cond_true, ix_nat hk, bd_eq, Int.toNat_natCast, over_at, Option.bind_some, e2, hI', bif_and', Bool.and_assoc, Bool.and_assoc]
      exact ovA_next (J := fun v => J' (v, ((k + 1 : Nat) : Int))) (by rw [hI] at hA ⊢; omega)
    · unfold impl_overstows_L6
      rw [decide_eq_false (by omega), cond_false, hI', hI]; rfl
  · unfold impl_overstows_L3
    rw [decide_eq_false (by omega), cond_false, hI]; rfl
/-! ### The spots -/
def tiersL (b r : Int) : Nat → List SSpot → List SSpot
  | 0, s => s
  | t + 1, s => tiersL b r t s ++ [⟨b, r, (t : Int)⟩]
def rowsL (b : Int) (T : Nat) : Nat → List SSpot → List SSpot
  | 0, s => s
  | r + 1, s => tiersL b (r : Int) T (rowsL b T r s)
def baysL (bays : List SHatch) : Nat → List SSpot
  | 0 => []
  | b + 1 => rowsL (b : Int) (bays.getD b dSHatch).Tiers.toNat (bays.getD b dSHatch).Rows.toNat (baysL bays b)
theorem tiersL_len (b r : Int) (s : List SSpot) : ∀ t, (tiersL b r t s).length = s.length + t
  | 0 => rfl
  | t + 1 => by unfold tiersL; rw [List.length_append, tiersL_len b r s t]; rfl
theorem rowsL_len (b : Int) {T : Nat} (hT : T ≤ 6) (s : List SSpot) : ∀ r, (rowsL b T r s).length ≤ s.length + 6 * r
  | 0 => Nat.le_refl _
  | r + 1 => by
    have := rowsL_len b hT s r
    show (tiersL b (r : Int) T (rowsL b T r s)).length ≤ _
    rw [tiersL_len]; omega
theorem baysL_len {bays : List SHatch} (hb : hatchesB bays = true) : ∀ b, b ≤ bays.length → (baysL bays b).length ≤ 36 * b
  | 0, _ => Nat.le_refl _
  | b + 1, h => by
    have h1 := baysL_len hb b (by omega)
    have h2 := (hatchesB_at hb).2.2 b (by omega)
    have h3 := rowsL_len (b : Int) (T := (bays.getD b dSHatch).Tiers.toNat) (by omega) (baysL bays b) (bays.getD b dSHatch).Rows.toNat
    show (rowsL (b : Int) (bays.getD b dSHatch).Tiers.toNat (bays.getD b dSHatch).Rows.toNat (baysL bays b)).length ≤ _
    omega
theorem spots_spec {R : Type} {n : Nat} {bays : List SHatch} {boxes : List SBox} {K : List SSpot → Option R} (hb : hatchesB bays = true) (hn : 1000000000 < n) : loopN (fun (x : Int × List SSpot) J' => spec_Fewest_L15 n K (fun b65 spots66 => J' (b65, spots66)) bays boxes x.1 x.2) n ((0 : Int), []) = K (baysL bays bays.length) := by
  have h6 := hatchesB_at hb
  refine loop_runS (enc := fun k (s : List SSpot) => (k, s)) (I := fun k s => s = baysL bays k) (Q := fun r => r = K (baysL bays bays.length)) (len := bays.length) (fun b s J hk hI => ⟨_, rfl, ?_⟩) (fun s J hI => ?_) (by omega) rfl
  · have e : w64 ((b : Int) + 1) = ((b + 1 : Nat) : Int) := w64_succ (by omega)
    have hh := h6.2.2 b hk
    have hL := baysL_len hb b (by omega)
    unfold spec_Fewest_L15
    rw [decide_eq_true (by omega), cond_true, e]
    refine loop_runS (enc := fun k (s : List SSpot) => (k, s)) (I := fun k t => t = rowsL (b : Int) (bays.getD b dSHatch).Tiers.toNat k s) (Q := fun r => r = J (((b + 1 : Nat) : Int), baysL bays (b + 1))) (len := (bays.getD b dSHatch).Rows.toNat) (fun r t J' hr hI' => ⟨_, rfl, ?_⟩) (fun t J' hI' => ?_) (by omega) rfl
    · have e2 : w64 ((r : Int) + 1) = ((r + 1 : Nat) : Int) := w64_succ (by omega)
      have hR := rowsL_len (b : Int) (T := (bays.getD b dSHatch).Tiers.toNat) (by omega) s r
      unfold spec_Fewest_L18
      rw [ix_nat hk, bd_eq, Int.toNat_natCast, decide_eq_true (by omega), cond_true, e2]
      refine loop_runS (enc := fun k (s : List SSpot) => (k, s)) (I := fun k u => u = tiersL (b : Int) (r : Int) k t) (Q := fun q => q = J' (((r + 1 : Nat) : Int), rowsL (b : Int) (bays.getD b dSHatch).Tiers.toNat (r + 1) s)) (len := (bays.getD b dSHatch).Tiers.toNat) (fun z u J2 hz hI2 => ⟨_, rfl, ?_⟩) (fun u J2 hI2 => ?_) (by omega) rfl
      · have e3 : w64 ((z : Int) + 1) = ((z + 1 : Nat) : Int) := w64_succ (by omega)
        have hT := tiersL_len (b : Int) (r : Int) t z
        unfold spec_Fewest_L21
        rw [ix_nat hk, bd_eq, Int.toNat_natCast, decide_eq_true (by omega), cond_true, bd_eq, chk_dec (by rw [List.length_append, hI2, hT, hI', List.length_singleton]; rw [hI] at hR ⊢; omega), e3, hI2]; rfl
      · unfold spec_Fewest_L21
        rw [ix_nat hk, bd_eq, Int.toNat_natCast, decide_eq_false (by omega), cond_false, hI2, hI']; rfl
    · unfold spec_Fewest_L18
      rw [ix_nat hk, bd_eq, Int.toNat_natCast, decide_eq_false (by omega), cond_false, hI', hI]; rfl
  · unfold spec_Fewest_L15
    rw [decide_eq_false (by omega), cond_false, hI]
theorem spots_impl {R : Type} {n : Nat} {bays : List SHatch} {boxes : List SBox} {K : List SSpot → Option R} (hb : hatchesB bays = true) (hn : 1000000000 < n) : loopN (fun (x : Int × List SSpot) J' => impl_Fewest_L11 n K (fun t68 c69 => J' (t68, c69)) bays (bays.length : Int) x.1 bays boxes x.2) n ((0 : Int), []) = K (baysL bays bays.length) := by
  have h6 := hatchesB_at hb
  refine loop_runS (enc := fun k (s : List SSpot) => (k, s)) (I := fun k s => s = baysL bays k) (Q := fun r => r = K (baysL bays bays.length)) (len := bays.length) (fun b s J hk hI => ⟨_, rfl, ?_⟩) (fun s J hI => ?_) (by omega) rfl
  · have e : w64 ((b : Int) + 1) = ((b + 1 : Nat) : Int) := w64_succ (by omega)
    have hh := h6.2.2 b hk
    have hL := baysL_len hb b (by omega)
    unfold impl_Fewest_L11 impl_Fewest_k1
    rw [decide_eq_true (by omega), cond_true, ix_nat hk, bd_eq, Int.toNat_natCast, e]
    refine loop_runS (enc := fun k (s : List SSpot) => (k, s)) (I := fun k t => t = rowsL (b : Int) (bays.getD b dSHatch).Tiers.toNat k s) (Q := fun r => r = J (((b + 1 : Nat) : Int), baysL bays (b + 1))) (len := (bays.getD b dSHatch).Rows.toNat) (fun r t J' hr hI' => ⟨_, rfl, ?_⟩) (fun t J' hI' => ?_) (by omega) rfl
    · have e2 : w64 ((r : Int) + 1) = ((r + 1 : Nat) : Int) := w64_succ (by omega)
      have hR := rowsL_len (b : Int) (T := (bays.getD b dSHatch).Tiers.toNat) (by omega) s r
      unfold impl_Fewest_L14
      rw [decide_eq_true (by omega), cond_true, e2]
      refine loop_runS (enc := fun k (s : List SSpot) => (k, s)) (I := fun k u => u = tiersL (b : Int) (r : Int) k t) (Q := fun q => q = J' (((r + 1 : Nat) : Int), rowsL (b : Int) (bays.getD b dSHatch).Tiers.toNat (r + 1) s)) (len := (bays.getD b dSHatch).Tiers.toNat) (fun z u J2 hz hI2 => ⟨_, rfl, ?_⟩) (fun u J2 hI2 => ?_) (by omega) rfl
      · have e3 : w64 ((z : Int) + 1) = ((z + 1 : Nat) : Int) := w64_succ (by omega)
        have hT := tiersL_len (b : Int) (r : Int) t z
        unfold impl_Fewest_L17
        rw [decide_eq_true (by omega), cond_true, bd_eq, chk_dec (by rw [List.length_append, hI2, hT, hI', List.length_singleton]; rw [hI] at hR ⊢; omega), e3, hI2]; rfl
      · unfold impl_Fewest_L17
        rw [decide_eq_false (by omega), cond_false, hI2, hI']; rfl
    · unfold impl_Fewest_L14
      rw [decide_eq_false (by omega), cond_false, hI', hI]; rfl
  · unfold impl_Fewest_L11
    rw [decide_eq_false (by omega), cond_false, hI]
end Go.Sm
end

section
set_option linter.unusedVariables false
set_option linter.unusedSimpArgs false
namespace Go.Sm
attribute [local irreducible] bd chk ix loopN
/-! ### The search -/
def usedB (so : List SStow) (p : SSpot) : Bool := (List.range so.length).any fun k => spEq (so.getD k dSStow).Spot p
def leafV (n : Nat) (bays : List SHatch) (so : List SStow) (st : Int × List SStow) : Int × List SStow :=
  bif decide ((stowV n bays so).1 = 0) then (bif decide (st.1 < 0) then (ovV so, so) else bif decide (ovV so < st.1) then (ovV so, so) else st) else st
def seekL (f : SSpot → Int × List SStow → Int × List SStow) (so : List SStow) (spots : List SSpot) (st : Int × List SStow) : Nat → Int × List SStow
  | 0 => st
  | k + 1 => bif !usedB so (spots.getD k dSSpot) then f (spots.getD k dSSpot) (seekL f so spots st k) else seekL f so spots st k
def seekV (n : Nat) (bays : List SHatch) (boxes : List SBox) (spots : List SSpot) : Nat → List SStow → Int × List SStow → Int × List SStow
  | 0, so, st => leafV n bays so st
  | m + 1, so, st => seekL (fun p s => seekV n bays boxes spots m (so ++ [⟨boxes.getD so.length dSBox, p⟩]) s) so spots st spots.length
theorem containsF {n : Nat} (l : List SStow) (s : SSpot) (hl : l.length ≤ 100000000) (hn : 1000000000 < n) : sContains_Fewest_2_1 n l s = some (usedB l s) := by
  unfold sContains_Fewest_2_1 sIndex_Fewest_2_1
  rw [loop_idx (len := l.length) (p := fun k => spEq (l.getD k dSStow).Spot s) (by omega) (fun k J hk _ => ?_) (fun J _ => ?_) (by omega), Option.bind_some, idxOf_ge]
  · rfl
  · have e2 : w64 ((k : Int) + 1) = ((k + 1 : Nat) : Int) := w64_succ (by omega)
    unfold sIndex_Fewest_2_1_L2 impl_Fewest_2_1
    rw [decide_eq_true (by omega), cond_true, ix_nat hk, bd_eq, Int.toNat_natCast, ← spEq, e2, Option.bind_some]
  · unfold sIndex_Fewest_2_1_L2
    rw [decide_eq_false (by omega), cond_false]
theorem seek_impl {n : Nat} {bays : List SHatch} {boxes : List SBox} {spots : List SSpot} (hb : bays.length ≤ 100000000) (hx : boxes.length ≤ 5) (hs : spots.length ≤ 1000) (hn : 1000000000 < n) :
    ∀ (m M : Nat) (so : List SStow) (st : Int × List SStow), so.length + m = boxes.length → m < M → impl_Fewest_2__self_r n M so boxes bays st.1 st.2 spots = some (seekV n bays boxes spots m so st)
  | _, 0, _, _, _, h => absurd h (Nat.not_lt_zero _)
  | 0, M + 1, so, st, hm, _ => by
    show impl_Fewest_2__self_b n (impl_Fewest_2__self_r n M) so boxes bays st.1 st.2 spots = some (leafV n bays so st)
    unfold impl_Fewest_2__self_b leafV
    rw [decide_eq_true (by omega), cond_true, stow_impl bays so hb hn, Option.bind_some, over_impl (by omega) hn, own_stow so (by omega)]
    cases decide ((stowV n bays so).1 = 0)
    · rfl
    · cases decide (st.1 < 0)
      · simp only [cond_true, cond_false, Option.bind_some]
        cases decide (ovV so < st.1) <;> rfl
      · rfl
  | m + 1, M + 1, so, st, hm, hM => by
    show impl_Fewest_2__self_b n (impl_Fewest_2__self_r n M) so boxes bays st.1 st.2 spots = some (seekL (fun p s => seekV n bays boxes spots m (so ++ [⟨boxes.getD so.length dSBox, p⟩]) s) so spots st spots.length)
    unfold impl_Fewest_2__self_b
    rw [decide_eq_false (by omega), cond_false]
    refine loop_runS (enc := fun k (s : Int × List SStow) => (k, s.1, s.2)) (I := fun k s => s = seekL (fun p s => seekV n bays boxes spots m (so ++ [⟨boxes.getD so.length dSBox, p⟩]) s) so spots st k) (Q := fun r => r = some (seekL (fun p s => seekV n bays boxes spots m (so ++ [⟨boxes.getD so.length dSBox, p⟩]) s) so spots st spots.length)) (len := spots.length) (n := n) (s0 := st) (fun k s J hk hI => ⟨_, rfl, ?_⟩) (fun s J hI => ?_) (by omega) rfl
    · have e : w64 ((k : Int) + 1) = ((k + 1 : Nat) : Int) := w64_succ (by omega)
      have hso : so.length < boxes.length := by omega
      have hstep : seekL (fun p s => seekV n bays boxes spots m (so ++ [⟨boxes.getD so.length dSBox, p⟩]) s) so spots st (k + 1) = bif !usedB so (spots.getD k dSSpot) then seekV n bays boxes spots m (so ++ [⟨boxes.getD so.length dSBox, spots.getD k dSSpot⟩]) s else s := by
        rw [hI]; rfl
      rw [hstep]
      dsimp only
      unfold impl_Fewest_2__self_L7 impl_Fewest_2__self_k0
      rw [decide_eq_true (by omega), cond_true, ix_nat hk, bd_eq, Int.toNat_natCast, containsF so _ (by omega) hn, Option.bind_some, e]
      cases usedB so (spots.getD k dSSpot)
      · rw [Bool.not_false, cond_true, cond_true, chk_dec (by omega), chk_dec (by omega), chk_dec (by omega), ix_nat hso, bd_eq, Int.toNat_natCast, List.take_length, chk_dec (by rw [List.length_append, List.length_singleton]; omega),
          seek_impl hb hx hs hn m M (so ++ [(⟨boxes.getD so.length dSBox, spots.getD k dSSpot⟩ : SStow)]) s (by rw [List.length_append, List.length_singleton]; omega) (by omega), Option.bind_some]
      · rfl
    · dsimp only
      unfold impl_Fewest_2__self_L7
      rw [decide_eq_false (by omega), cond_false, hI]
/-! ### What it finds -/
/-- Boxes laid in their order, at spots of these, none twice. -/
structure PartF (boxes : List SBox) (spots : List SSpot) (l : List SStow) : Prop where
  len : l.length ≤ boxes.length
  box : ∀ i, i < l.length → (l.getD i dSStow).Box = boxes.getD i dSBox
  spot : ∀ i, i < l.length → (l.getD i dSStow).Spot ∈ spots
  nd : nd l
theorem getD_snoc {l : List SStow} {x : SStow} {i : Nat} : (l ++ [x]).getD i dSStow = if i < l.length then l.getD i dSStow else if i = l.length then x else dSStow := by
  split
  · next h => simp [List.getD, List.getElem?_append_left h]
  · next h =>
    split
    · next h2 => subst h2; simp [List.getD]
    · next h2 => simp [List.getD, List.getElem?_append_right (show l.length ≤ i by omega), List.getElem?_eq_none (l := [x]) (show [x].length ≤ i - l.length by simp; omega)]
theorem usedB_no {so : List SStow} {p : SSpot} (h : usedB so p = false) {i : Nat} (hi : i < so.length) : spEq (so.getD i dSStow).Spot p = false := by
  unfold usedB at h
  rw [List.any_eq_false] at h
  have := h i (List.mem_range.2 hi)
  simpa using this
theorem PartF.snoc {boxes : List SBox} {spots : List SSpot} {so : List SStow} (h : PartF boxes spots so) (hl : so.length < boxes.length) {p : SSpot} (hp : p ∈ spots) (hu : usedB so p = false) : PartF boxes spots (so ++ [⟨boxes.getD so.length dSBox, p⟩]) := by
  refine ⟨by rw [List.length_append, List.length_singleton]; omega, fun i hi => ?_, fun i hi => ?_, fun i k hi hk => ?_⟩
  all_goals rw [List.length_append, List.length_singleton] at hi
  · rw [getD_snoc]
    by_cases c : i < so.length
    · rw [if_pos c]; exact h.box i c
    · rw [if_neg c, if_pos (by omega), show i = so.length by omega]
  · rw [getD_snoc]
    by_cases c : i < so.length
    · rw [if_pos c]; exact h.spot i c
    · rw [if_neg c, if_pos (by omega)]; exact hp
  · rw [getD_snoc, getD_snoc, if_pos (show k < so.length by omega)]
    by_cases c : i < so.length
    · rw [if_pos c]; exact h.nd i k c hk
    · rw [if_neg c, if_pos (by omega)]; exact usedB_no hu (by omega)
structure FoundF (n : Nat) (bays : List SHatch) (boxes : List SBox) (spots : List SSpot) (st : Int × List SStow) : Prop where
  neg : st.1 < 0 → st.2 = []
  part : 0 ≤ st.1 → PartF boxes spots st.2
  len : 0 ≤ st.1 → st.2.length = boxes.length
  ok : 0 ≤ st.1 → (stowV n bays st.2).1 = 0
  ov : 0 ≤ st.1 → st.1 = ovV st.2
theorem leaf_ok {n : Nat} {bays : List SHatch} {boxes : List SBox} {spots : List SSpot} {so : List SStow} {st : Int × List SStow} (hx : boxes.length ≤ 5) (h : PartF boxes spots so) (hl : so.length = boxes.length) (hst : FoundF n bays boxes spots st) :
    FoundF n bays boxes spots (leafV n bays so st) ∧ (0 ≤ st.1 → 0 ≤ (leafV n bays so st).1 ∧ (leafV n bays so st).1 ≤ st.1) ∧ ((stowV n bays so).1 = 0 → 0 ≤ (leafV n bays so st).1 ∧ (leafV n bays so st).1 ≤ ovV so) := by
  have h0 := ovV_nn (l := so) (by omega)
  unfold leafV
  by_cases c : (stowV n bays so).1 = 0
  · have hF : FoundF n bays boxes spots (ovV so, so) := ⟨fun hh => absurd hh (by show ¬ ovV so < 0; omega), fun _ => h, fun _ => hl, fun _ => c, fun _ => rfl⟩
    rw [decide_eq_true c, cond_true]
    by_cases d : st.1 < 0
    · rw [decide_eq_true d, cond_true]
      exact ⟨hF, fun hh => absurd hh (by omega), fun _ => ⟨h0, Int.le_refl _⟩⟩
    · rw [decide_eq_false d, cond_false]
      by_cases e : ovV so < st.1
      · rw [decide_eq_true e, cond_true]
        exact ⟨hF, fun _ => ⟨h0, Int.le_of_lt e⟩, fun _ => ⟨h0, Int.le_refl _⟩⟩
      · rw [decide_eq_false e, cond_false]
        exact ⟨hst, fun hh => ⟨hh, Int.le_refl _⟩, fun _ => ⟨by omega, by omega⟩⟩
  · rw [decide_eq_false c, cond_false]
    exact ⟨hst, fun hh => ⟨hh, Int.le_refl _⟩, fun hh => absurd hh c⟩
theorem seek_ok {n : Nat} {bays : List SHatch} {boxes : List SBox} {spots : List SSpot} (hx : boxes.length ≤ 5) :
    ∀ (m : Nat) (so : List SStow) (st : Int × List SStow), so.length + m = boxes.length → PartF boxes spots so → FoundF n bays boxes spots st →
      FoundF n bays boxes spots (seekV n bays boxes spots m so st) ∧ (0 ≤ st.1 → 0 ≤ (seekV n bays boxes spots m so st).1 ∧ (seekV n bays boxes spots m so st).1 ≤ st.1) ∧
      ∀ l, PartF boxes spots l → l.length = boxes.length → l.take so.length = so → (stowV n bays l).1 = 0 → 0 ≤ (seekV n bays boxes spots m so st).1 ∧ (seekV n bays boxes spots m so st).1 ≤ ovV l
  | 0, so, st, hm, hp, hst => by
    obtain ⟨h1, h2, h3⟩ := leaf_ok hx hp (by omega) hst
    refine ⟨h1, h2, fun l hl hll ht hok => ?_⟩
    have : l = so := by rw [← ht, List.take_of_length_le (by omega)]
    subst this
    exact h3 hok
  | m + 1, so, st, hm, hp, hst => by
    have key : ∀ k, k ≤ spots.length → FoundF n bays boxes spots (seekL (fun p s => seekV n bays boxes spots m (so ++ [⟨boxes.getD so.length dSBox, p⟩]) s) so spots st k) ∧
        (0 ≤ st.1 → 0 ≤ (seekL (fun p s => seekV n bays boxes spots m (so ++ [⟨boxes.getD so.length dSBox, p⟩]) s) so spots st k).1 ∧ (seekL (fun p s => seekV n bays boxes spots m (so ++ [⟨boxes.getD so.length dSBox, p⟩]) s) so spots st k).1 ≤ st.1) ∧
        ∀ l, PartF boxes spots l → l.length = boxes.length → l.take so.length = so → (stowV n bays l).1 = 0 → (∃ j, j < k ∧ spots.getD j dSSpot = (l.getD so.length dSStow).Spot) →
          0 ≤ (seekL (fun p s => seekV n bays boxes spots m (so ++ [⟨boxes.getD so.length dSBox, p⟩]) s) so spots st k).1 ∧ (seekL (fun p s => seekV n bays boxes spots m (so ++ [⟨boxes.getD so.length dSBox, p⟩]) s) so spots st k).1 ≤ ovV l := by
      intro k
      induction k with
      | zero => intro _; exact ⟨hst, fun hh => ⟨hh, Int.le_refl _⟩, fun l _ _ _ _ hj => by obtain ⟨j, hj, _⟩ := hj; exact absurd hj (Nat.not_lt_zero _)⟩
      | succ k ih =>
        intro hk
        obtain ⟨i1, i2, i3⟩ := ih (by omega)
        generalize hS : seekL (fun p s => seekV n bays boxes spots m (so ++ [⟨boxes.getD so.length dSBox, p⟩]) s) so spots st k = S at i1 i2 i3
        have hstep : seekL (fun p s => seekV n bays boxes spots m (so ++ [⟨boxes.getD so.length dSBox, p⟩]) s) so spots st (k + 1) = bif !usedB so (spots.getD k dSSpot) then seekV n bays boxes spots m (so ++ [⟨boxes.getD so.length dSBox, spots.getD k dSSpot⟩]) S else S := by
          rw [← hS]; rfl
        rw [hstep]
        have hmem : spots.getD k dSSpot ∈ spots := getD_mem (by omega)
        cases hu : usedB so (spots.getD k dSSpot) with
        | true =>
          rw [Bool.not_true, cond_false]
          refine ⟨i1, i2, fun l hl hll ht hok hj => ?_⟩
          obtain ⟨j, hj, he⟩ := hj
          by_cases c : j < k
          · exact i3 l hl hll ht hok ⟨j, c, he⟩
          · exfalso
            have : j = k := by omega
            subst this
            unfold usedB at hu
            rw [List.any_eq_true] at hu
            obtain ⟨u, hu1, hu2⟩ := hu
            have hu1 := List.mem_range.1 hu1
            have := hl.nd so.length u (by omega) hu1
            rw [← he] at this
            have hg : l.getD u dSStow = so.getD u dSStow := by rw [← ht]; simp [List.getD, List.getElem?_take, hu1]
            rw [hg, hu2] at this
            cases this
        | false =>
          rw [Bool.not_false, cond_true]
          obtain ⟨j1, j2, j3⟩ := seek_ok hx m (so ++ [⟨boxes.getD so.length dSBox, spots.getD k dSSpot⟩]) S (by rw [List.length_append, List.length_singleton]; omega) (hp.snoc (by omega) hmem hu) i1
          refine ⟨j1, fun hh => ?_, fun l hl hll ht hok hj => ?_⟩
          · have a := i2 hh
            have b := j2 a.1
            exact ⟨b.1, by omega⟩
          · obtain ⟨j, hj, he⟩ := hj
            by_cases c : j < k
            · have a := i3 l hl hll ht hok ⟨j, c, he⟩
              have b := j2 a.1
              exact ⟨b.1, by omega⟩
            · have : j = k := by omega
              subst this
              refine j3 l hl hll ?_ hok
              have hlt : so.length < l.length := by omega
              rw [List.length_append, List.length_singleton, take_succ_getD (d := dSStow) hlt, ht]
              congr 2
              have hb := hl.box so.length hlt
              rw [he, ← hb]
    obtain ⟨k1, k2, k3⟩ := key spots.length (Nat.le_refl _)
    refine ⟨k1, k2, fun l hl hll ht hok => k3 l hl hll ht hok ?_⟩
    have := hl.spot so.length (by omega)
    obtain ⟨j, hj, he⟩ := List.getElem_of_mem this
    exact ⟨j, hj, by rw [getD_eq hj]; exact he⟩
theorem seek_spec {n : Nat} {bays : List SHatch} {boxes : List SBox} {spots : List SSpot} (hb : bays.length ≤ 100000000) (hx : boxes.length ≤ 5) (hs : spots.length ≤ 1000) (hn : 1000000000 < n) :
    ∀ (m M : Nat) (so : List SStow) (st : Int × List SStow), so.length + m = boxes.length → m < M → PartF boxes spots so → FoundF n bays boxes spots st → spec_l12Seek_r n M bays boxes spots so st.2 (decide (0 ≤ st.1)) = some ((seekV n bays boxes spots m so st).2, decide (0 ≤ (seekV n bays boxes spots m so st).1))
  | _, 0, _, _, _, h, _, _ => absurd h (Nat.not_lt_zero _)
  | 0, M + 1, so, st, hm, _, hp, hst => by
    show spec_l12Seek_b n (spec_l12Seek_r n M) bays boxes spots so st.2 (decide (0 ≤ st.1)) = some ((leafV n bays so st).2, decide (0 ≤ (leafV n bays so st).1))
    have h0 := ovV_nn (l := so) (by omega)
    unfold spec_l12Seek_b leafV
    rw [decide_eq_true (by omega), cond_true, stow_spec bays so hb hn, Option.bind_some]
    cases decide ((stowV n bays so).1 = 0)
    · rfl
    · rw [cond_true, cond_true, chk_dec (by omega)]
      by_cases c : 0 ≤ st.1
      · have hl := hst.len c
        rw [decide_eq_true c, Bool.not_true, cond_false, over_spec (by omega) hn, over_spec (by omega) hn, Option.bind_some, Option.bind_some, ← hst.ov c, decide_eq_false (show ¬ st.1 < 0 by omega), cond_false]
        by_cases d : ovV so < st.1
        · rw [decide_eq_true d, cond_true, cond_true, decide_eq_true (show 0 ≤ (ovV so, so).1 from h0)]
        · rw [decide_eq_false d, cond_false, cond_false, decide_eq_true c]
      · rw [decide_eq_false c, Bool.not_false, cond_true, decide_eq_true (show st.1 < 0 by omega), cond_true, decide_eq_true (show 0 ≤ (ovV so, so).1 from h0)]
  | m + 1, M + 1, so, st, hm, hM, hp, hst => by
    show spec_l12Seek_b n (spec_l12Seek_r n M) bays boxes spots so st.2 (decide (0 ≤ st.1)) = some ((seekL (fun p s => seekV n bays boxes spots m (so ++ [⟨boxes.getD so.length dSBox, p⟩]) s) so spots st spots.length).2, decide (0 ≤ (seekL (fun p s => seekV n bays boxes spots m (so ++ [⟨boxes.getD so.length dSBox, p⟩]) s) so spots st spots.length).1))
    unfold spec_l12Seek_b
    rw [decide_eq_false (by omega), cond_false]
    refine loop_runS (enc := fun k (s : Int × List SStow) => (decide (0 ≤ s.1), k, s.2)) (I := fun k s => s = seekL (fun p s => seekV n bays boxes spots m (so ++ [⟨boxes.getD so.length dSBox, p⟩]) s) so spots st k ∧ FoundF n bays boxes spots s) (Q := fun r => r = some ((seekL (fun p s => seekV n bays boxes spots m (so ++ [⟨boxes.getD so.length dSBox, p⟩]) s) so spots st spots.length).2, decide (0 ≤ (seekL (fun p s => seekV n bays boxes spots m (so ++ [⟨boxes.getD so.length dSBox, p⟩]) s) so spots st spots.length).1))) (len := spots.length) (n := n) (s0 := st) (fun k s J hk hI => ?_) (fun s J hI => ?_) (by omega) ⟨rfl, hst⟩
    · have e : w64 ((k : Int) + 1) = ((k + 1 : Nat) : Int) := w64_succ (by omega)
      have hso : so.length < boxes.length := by omega
      obtain ⟨hI, hF⟩ := hI
      have hmem : spots.getD k dSSpot ∈ spots := getD_mem hk
      have hstep : seekL (fun p s => seekV n bays boxes spots m (so ++ [⟨boxes.getD so.length dSBox, p⟩]) s) so spots st (k + 1) = bif !usedB so (spots.getD k dSSpot) then seekV n bays boxes spots m (so ++ [⟨boxes.getD so.length dSBox, spots.getD k dSSpot⟩]) s else s := by
        rw [hI]; rfl
      have hun : spec_l12Seek_L7 n (spec_l12Seek_r n M) (fun has48 best49 => some (best49, has48)) (fun has50 i51 best52 => J (has50, i51, best52)) bays boxes spots so (decide (0 ≤ s.1)) (k : Int) s.2 = (bif !usedB so (spots.getD k dSSpot) then (spec_l12Seek_r n M bays boxes spots (so ++ [⟨boxes.getD so.length dSBox, spots.getD k dSSpot⟩]) s.2 (decide (0 ≤ s.1))).bind fun r36 => J (r36.2, ((k + 1 : Nat) : Int), r36.1) else J (decide (0 ≤ s.1), ((k + 1 : Nat) : Int), s.2)) := by
        unfold spec_l12Seek_L7 spec_l12Seek_k0
        rw [decide_eq_true (by omega), cond_true, ix_nat hk, bd_eq, Int.toNat_natCast, l12At_idx so _ (by omega) hn, Option.bind_some, idxOf_lt, e, chk_dec (by omega), ix_nat hso, bd_eq, Int.toNat_natCast, ix_nat hk, bd_eq, bd_eq, chk_dec (by rw [List.length_append, List.length_singleton]; omega)]
        rfl
      cases hu : usedB so (spots.getD k dSSpot) with
      | true =>
        rw [hu, Bool.not_true, cond_false] at hstep hun
        exact ⟨s, ⟨hstep.symm, hF⟩, hun⟩
      | false =>
        rw [hu, Bool.not_false, cond_true] at hstep hun
        have hp' := hp.snoc hso hmem hu
        have hl' : (so ++ [(⟨boxes.getD so.length dSBox, spots.getD k dSSpot⟩ : SStow)]).length + m = boxes.length := by rw [List.length_append, List.length_singleton]; omega
        refine ⟨seekV n bays boxes spots m (so ++ [⟨boxes.getD so.length dSBox, spots.getD k dSSpot⟩]) s, ⟨hstep.symm, (seek_ok hx m _ s hl' hp' hF).1⟩, hun.trans ?_⟩
        rw [seek_spec hb hx hs hn m M _ s hl' (by omega) hp' hF, Option.bind_some]
    · obtain ⟨hI, hF⟩ := hI
      dsimp only
      unfold spec_l12Seek_L7
      rw [decide_eq_false (by omega), cond_false, hI]
end Go.Sm
end

section
set_option linter.unusedVariables false
set_option linter.unusedSimpArgs false
namespace Go.Sm
attribute [local irreducible] bd chk ix loopN
/-! ### The whole -/
def boxesB (boxes : List SBox) : Bool := (List.range boxes.length).all fun i => boxB (boxes.getD i dSBox) && !((List.range i).any fun k => decide ((boxes.getD k dSBox).Name = (boxes.getD i dSBox).Name))
def bestV (n : Nat) (bays : List SHatch) (boxes : List SBox) : Int × List SStow := seekV n bays boxes (baysL bays bays.length) boxes.length [] (-1, [])
def fewV (n : Nat) (bays : List SHatch) (boxes : List SBox) : List SStow × Bool :=
  bif decide (boxes.length ≤ 5) && (hatchesB bays && boxesB boxes) then (bif decide ((baysL bays bays.length).length ≤ 8) then ((bestV n bays boxes).2, decide (0 ≤ (bestV n bays boxes).1)) else ([], false)) else ([], false)
theorem partF_nil (boxes : List SBox) (spots : List SSpot) : PartF boxes spots [] := ⟨Nat.zero_le _, fun i hi => absurd hi (Nat.not_lt_zero _), fun i hi => absurd hi (Nat.not_lt_zero _), fun i k hi _ => absurd hi (Nat.not_lt_zero _)⟩
theorem found_nil (n : Nat) (bays : List SHatch) (boxes : List SBox) (spots : List SSpot) : FoundF n bays boxes spots (-1, []) := ⟨fun _ => rfl, fun h => absurd h (by show ¬ (0 : Int) ≤ -1; omega), fun h => absurd h (by show ¬ (0 : Int) ≤ -1; omega), fun h => absurd h (by show ¬ (0 : Int) ≤ -1; omega), fun h => absurd h (by show ¬ (0 : Int) ≤ -1; omega)⟩
theorem containsN {n : Nat} (l : List SBox) (b : SBox) (hl : l.length ≤ 100000000) (hn : 1000000000 < n) : sContains_Fewest_1 n l b = some ((List.range l.length).any fun k => decide ((l.getD k dSBox).Name = b.Name)) := by
  unfold sContains_Fewest_1 sIndex_Fewest_1
  rw [loop_idx (len := l.length) (p := fun k => decide ((l.getD k dSBox).Name = b.Name)) (by omega) (fun k J hk _ => ?_) (fun J _ => ?_) (by omega), Option.bind_some, idxOf_ge]
  · have e2 : w64 ((k : Int) + 1) = ((k + 1 : Nat) : Int) := w64_succ (by omega)
    unfold sIndex_Fewest_1_L2 impl_Fewest_1
    rw [decide_eq_true (by omega), cond_true, ix_nat hk, bd_eq, Int.toNat_natCast, e2, Option.bind_some]
  · unfold sIndex_Fewest_1_L2
    rw [decide_eq_false (by omega), cond_false]
theorem range_any_congr {p q : Nat → Bool} : ∀ m, (∀ k, k < m → p k = q k) → (List.range m).any p = (List.range m).any q
  | 0, _ => rfl
  | m + 1, h => by rw [any_range_succ, any_range_succ, range_any_congr m fun k hk => h k (by omega), h m (by omega)]
theorem takeN {l : List SBox} {i : Nat} (hi : i ≤ l.length) {b : SBox} : ((List.range (l.take i).length).any fun k => decide (((l.take i).getD k dSBox).Name = b.Name)) = (List.range i).any fun k => decide ((l.getD k dSBox).Name = b.Name) := by
  rw [List.length_take, Nat.min_eq_left hi]
  refine range_any_congr _ fun k hk => ?_
  have : (l.take i).getD k dSBox = l.getD k dSBox := by simp [List.getD, List.getElem?_take, hk]
  rw [this]
theorem any_not_all {m : Nat} {q : Nat → Bool} : (List.range m).all (fun k => !q k) = !(List.range m).any q := by
  induction m with
  | zero => rfl
  | succ m ih => rw [all_range_succ, any_range_succ, ih]; cases (List.range m).any q <;> cases q m <;> rfl
theorem fewest_impl {n : Nat} (bays : List SHatch) (boxes : List SBox) (hb : bays.length ≤ 100000000) (hx : boxes.length ≤ 100000000) (hn : 1000000000 < n) : impl_Fewest n bays boxes = some (fewV n bays boxes) := by
  unfold impl_Fewest fewV
  by_cases h5 : boxes.length ≤ 5
  case neg => rw [decide_eq_true (by omega), cond_true, decide_eq_false h5]; rfl
  rw [decide_eq_false (by omega), cond_false, hatches_impl bays hb hn, Option.bind_some, decide_eq_true h5, Bool.true_and]
  cases hB : hatchesB bays with
  | false => rfl
  | true =>
    rw [Bool.not_true, cond_false, Bool.true_and]
    unfold impl_Fewest_k2
    rw [loop_all (len := boxes.length) (p := fun i => boxB (boxes.getD i dSBox) && !((List.range i).any fun k => decide ((boxes.getD k dSBox).Name = (boxes.getD i dSBox).Name))) (no := some ([], false)) (yes := some (bif decide ((baysL bays bays.length).length ≤ 8) then ((bestV n bays boxes).2, decide (0 ≤ (bestV n bays boxes).1)) else ([], false))) (by omega) (fun i J hi _ => ?_) (fun J _ => ?_) (by omega)]
    · show (bif boxesB boxes then _ else _) = _
      cases boxesB boxes <;> rfl
    · have e : w64 ((i : Int) + 1) = ((i + 1 : Nat) : Int) := w64_succ (by omega)
      unfold impl_Fewest_L4 impl_Fewest_k0
      rw [decide_eq_true (by omega), cond_true, ix_nat hi, bd_eq, Int.toNat_natCast, boxB_impl _ hn, Option.bind_some, chk_dec (by omega), chk_dec (by omega), containsN _ _ (by rw [List.length_take]; omega) hn, Option.bind_some, takeN (by omega), e]
      cases boxB (boxes.getD i dSBox)
      · rfl
      · dsimp only [Bool.not_true, cond_false, Bool.true_and]
        cases (List.range i).any fun k => decide ((boxes.getD k dSBox).Name = (boxes.getD i dSBox).Name) <;> rfl
    · unfold impl_Fewest_L4
      rw [decide_eq_false (by omega), cond_false, spots_impl hB hn]
      by_cases c : (baysL bays bays.length).length ≤ 8
      · have hs := seek_impl (n := n) (bays := bays) (boxes := boxes) (spots := baysL bays bays.length) hb h5 (by omega) hn boxes.length n [] (-1, []) (by simp) (by omega)
        rw [decide_eq_false (by omega), cond_false, decide_eq_true c, cond_true]
        unfold impl_Fewest_2__self
        rw [hs, Option.bind_some]; rfl
      · rw [decide_eq_true (by omega), cond_true, decide_eq_false c, cond_false]
theorem fewest_spec {n : Nat} (bays : List SHatch) (boxes : List SBox) (hb : bays.length ≤ 100000000) (hx : boxes.length ≤ 100000000) (hn : 1000000000 < n) : spec_Fewest n bays boxes = some (fewV n bays boxes) := by
  unfold spec_Fewest fewV
  rw [hatches_spec bays hb hn, Option.bind_some]
  cases hB : hatchesB bays with
  | false => rw [Bool.false_and, Bool.and_false]; rfl
  | true =>
    rw [Bool.not_true, cond_false, Bool.true_and]
    by_cases h5 : boxes.length ≤ 5
    case neg => rw [decide_eq_true (by omega), cond_true, decide_eq_false h5]; rfl
    rw [decide_eq_false (by omega), cond_false, decide_eq_true h5, Bool.true_and]
    unfold spec_Fewest_k1
    rw [loop_all (len := boxes.length) (p := fun i => boxB (boxes.getD i dSBox) && !((List.range i).any fun k => decide ((boxes.getD k dSBox).Name = (boxes.getD i dSBox).Name))) (no := some ([], false)) (yes := some (bif decide ((baysL bays bays.length).length ≤ 8) then ((bestV n bays boxes).2, decide (0 ≤ (bestV n bays boxes).1)) else ([], false))) (by omega) (fun i J hi _ => ?_) (fun J _ => ?_) (by omega)]
    · show (bif boxesB boxes then _ else _) = _
      cases boxesB boxes <;> rfl
    · have e : w64 ((i : Int) + 1) = ((i + 1 : Nat) : Int) := w64_succ (by omega)
      unfold spec_Fewest_L4 spec_Fewest_k0
      rw [decide_eq_true (by omega), cond_true, ix_nat hi, bd_eq, Int.toNat_natCast, boxB_spec _ hn, Option.bind_some, e]
      rw [loop_all (len := i) (p := fun k => !decide ((boxes.getD k dSBox).Name = (boxes.getD i dSBox).Name)) (no := some ([], false)) (yes := bif !boxB (boxes.getD i dSBox) then some ([], false) else J ((i + 1 : Nat) : Int)) (by omega) (fun k J' hk _ => ?_) (fun J' _ => ?_) (by omega)]
      · rw [any_not_all]
        cases boxB (boxes.getD i dSBox) <;> cases (List.range i).any fun k => decide ((boxes.getD k dSBox).Name = (boxes.getD i dSBox).Name) <;> rfl
      · have e2 : w64 ((k : Int) + 1) = ((k + 1 : Nat) : Int) := w64_succ (by omega)
        unfold spec_Fewest_L7
        rw [decide_eq_true (by omega), cond_true, ix_nat (show k < boxes.length by omega), bd_eq, ix_nat hi, bd_eq, Int.toNat_natCast, Int.toNat_natCast, e2]
        cases decide ((boxes.getD k dSBox).Name = (boxes.getD i dSBox).Name) <;> rfl
      · unfold spec_Fewest_L7
        rw [decide_eq_false (by omega), cond_false]
    · unfold spec_Fewest_L4
      rw [decide_eq_false (by omega), cond_false, spots_spec hB hn]
      by_cases c : (baysL bays bays.length).length ≤ 8
      · have hs := seek_spec (n := n) (bays := bays) (boxes := boxes) (spots := baysL bays bays.length) hb h5 (by omega) hn boxes.length n [] (-1, []) (by simp) (by omega) (partF_nil _ _) (found_nil _ _ _ _)
        rw [decide_eq_false (by omega), cond_false, decide_eq_true c, cond_true]
        unfold spec_l12Seek
        rw [show spec_l12Seek_r n n bays boxes (baysL bays bays.length) [] [] false = _ from hs, Option.bind_some]; rfl
      · rw [decide_eq_true (by omega), cond_true, decide_eq_false c, cond_false]
theorem few_found {n : Nat} {bays : List SHatch} {boxes : List SBox} (h5 : boxes.length ≤ 5) : FoundF n bays boxes (baysL bays bays.length) (bestV n bays boxes) :=
  (seek_ok h5 boxes.length [] (-1, []) (by simp) (partF_nil _ _) (found_nil _ _ _ _)).1
theorem few_least {n : Nat} {bays : List SHatch} {boxes : List SBox} (h5 : boxes.length ≤ 5) {l : List SStow} (h : PartF boxes (baysL bays bays.length) l) (hl : l.length = boxes.length) (hok : (stowV n bays l).1 = 0) : 0 ≤ (bestV n bays boxes).1 ∧ (bestV n bays boxes).1 ≤ ovV l :=
  (seek_ok h5 boxes.length [] (-1, []) (by simp) (partF_nil _ _) (found_nil _ _ _ _)).2.2 l h hl rfl hok
end Go.Sm
end

section
set_option linter.unusedVariables false
set_option linter.unusedSimpArgs false
namespace Go.Sm
attribute [local irreducible] bd chk ix loopN
/-! ### The drawn call -/
theorem pickM_ok {n : Nat} {c : Sl1Cur} (h : CurOk c) {l : List Int} (hl : 1 ≤ l.length ∧ l.length ≤ 256) : ∃ v c', spec_l1PickInt n c l = some (v, c') ∧ v ∈ l ∧ CurOk c' := by
  obtain ⟨v, c', h1, h2, h3⟩ := below_ok (n := n) h (m := (l.length : Int)) (by omega)
  unfold spec_l1PickInt
  rw [h1, Option.bind_some, ix_of h2.1 h2.2]
  exact ⟨_, _, rfl, getD_mem (by omega), h3⟩
theorem drawBaysS_ok {n : Nat} {c : Sl1Cur} (hc : CurOk c) (hn : 1000000000 < n) : ∃ b c', spec_l12DrawBays n c true = some (b, c') ∧ b.length ≤ 16 ∧ CurOk c' := by
  obtain ⟨v, c1, a1, ⟨a2, a3⟩, a4⟩ := below_ok (n := n) hc (m := 3) (by omega)
  unfold spec_l12DrawBays
  rw [a1, Option.bind_some]
  dsimp only
  rw [w64_id (show -9223372036854775808 ≤ 1 + v by omega) (by omega)]
  generalize hcn : 1 + v = cnt
  have hz : cnt = cnt - 0 := by omega
  rw [show (cnt, c1, ([] : List SHatch)) = (cnt - 0, c1, []) from by rw [← hz]]
  refine loop_runS (enc := fun k (s : Sl1Cur × List SHatch) => (cnt - k, s.1, s.2)) (s0 := (c1, [])) (I := fun k s => CurOk s.1 ∧ s.2.length = k) (Q := fun r => ∃ (b : List SHatch) (c' : Sl1Cur), r = some (b, c') ∧ b.length ≤ 16 ∧ CurOk c') (len := cnt.toNat) (fun k s J hk hI => ?_) (fun s J hI => ?_) (by omega) ⟨a4, rfl⟩
  · obtain ⟨p, out⟩ := s
    obtain ⟨i1, i2⟩ := hI
    dsimp only at i1 i2
    obtain ⟨v1, x1, y1, _, w1⟩ := below_ok (n := n) i1 (m := 3) (by omega)
    obtain ⟨v2, x2, y2, _, w2⟩ := below_ok (n := n) w1 (m := 3) (by omega)
    obtain ⟨v3, x3, y3, _, w3⟩ := below_ok (n := n) w2 (m := 200) (by omega)
    obtain ⟨v4, x4, y4, _, w4⟩ := below_ok (n := n) w3 (m := 4) (by omega)
    obtain ⟨v5, x5, y5, _, w5⟩ := below_ok (n := n) w4 (m := 2) (by omega)
    obtain ⟨v6, x6, y6, _, w6⟩ := below_ok (n := n) w5 (m := 2) (by omega)
    have e1 : w64 (cnt - (k : Int) - 1) = cnt - ((k + 1 : Nat) : Int) := by rw [w64_id (by omega) (by omega)]; omega
    have key : ∃ h : SHatch, spec_l12DrawBays_L3 n (fun p58 out59 => (spec_l1Below n p58 (60 : Int)).bind fun r60 => none) (fun i91 p92 out93 => J (i91, p92, out93)) true (cnt - (k : Int)) p out = J (cnt - ((k + 1 : Nat) : Int), x6, out ++ [h]) := by
      unfold spec_l12DrawBays_L3 spec_l12DrawBays_k0
      rw [decide_eq_true (by omega), cond_true]
      simp only [y1, y2, y3, y4, y5, y6, Option.bind_some, bd_eq, cond_true]
      cases decide ((out.length : Int) = 2)
      · rw [cond_false, chk_dec (by rw [List.length_append]; simp; omega), e1]; exact ⟨_, rfl⟩
      · rw [cond_true, chk_dec (by rw [List.length_append]; simp; omega), e1]; exact ⟨_, rfl⟩
    obtain ⟨h, hh⟩ := key
    refine ⟨(x6, out ++ [h]), ⟨w6, by rw [List.length_append, i2]; rfl⟩, ?_⟩
    refine Eq.trans ?_ hh
    show spec_l12DrawBays_L3 n _ (fun i91 p92 out93 => J (i91, p92, out93)) true (cnt - (k : Int)) p out = _
    unfold spec_l12DrawBays_L3
    rw [decide_eq_true (by omega), cond_true, cond_true]
    rfl
  · obtain ⟨p, out⟩ := s
    obtain ⟨i1, i2⟩ := hI
    dsimp only at i1 i2
    have hb : out.length ≤ 16 := by omega
    have h0 : 0 < out.length := by omega
    show ∃ b c', spec_l12DrawBays_L3 n _ (fun i91 p92 out93 => J (i91, p92, out93)) true (cnt - ((cnt.toNat : Nat) : Int)) p out = some (b, c') ∧ _
    unfold spec_l12DrawBays_L3
    rw [decide_eq_false (by omega), cond_false]
    obtain ⟨v5, x5, y5, _, w5⟩ := below_ok (n := n) i1 (m := 60) (by omega)
    simp only [y5, Option.bind_some]
    have hix : ∀ {R : Type} {x : Option R}, ix 0 out.length x = x := ix_of (by omega) (by omega)
    by_cases c0 : v5 = 0
    · obtain ⟨u, xu, yu, mu, wu⟩ := pickM_ok (n := n) w5 (l := [0, 6, 7]) (by decide)
      rw [decide_eq_true c0, cond_true, yu, Option.bind_some, hix, chk_dec h0, bd_eq, bd_eq]
      exact ⟨_, _, rfl, by rw [List.length_set]; exact hb, wu⟩
    rw [decide_eq_false c0, cond_false]
    by_cases c1 : v5 = 1
    · obtain ⟨u, xu, yu, mu, wu⟩ := pickM_ok (n := n) w5 (l := [-1, 1000000, 1000001]) (by decide)
      rw [decide_eq_true c1, cond_true, yu, Option.bind_some, hix, chk_dec h0, bd_eq, bd_eq]
      exact ⟨_, _, rfl, by rw [List.length_set]; exact hb, wu⟩
    rw [decide_eq_false c1, cond_false]
    by_cases c2 : v5 = 2
    · obtain ⟨u, xu, yu, mu, wu⟩ := pickM_ok (n := n) w5 (l := [-1, 36, 37]) (by decide)
      rw [decide_eq_true c2, cond_true, yu, Option.bind_some, hix, chk_dec h0, bd_eq, bd_eq]
      exact ⟨_, _, rfl, by rw [List.length_set]; exact hb, wu⟩
    rw [decide_eq_false c2, cond_false]
    by_cases c3 : v5 = 3
    · obtain ⟨u, xu, yu, mu, wu⟩ := pickM_ok (n := n) w5 (l := [0, 6, 7]) (by decide)
      have hu : 0 ≤ u ∧ u ≤ 7 := by
        simp only [List.mem_cons, List.not_mem_nil, or_false] at mu
        omega
      rw [decide_eq_true c3, cond_true, yu, Option.bind_some]
      dsimp only
      rw [chk_dec hu.1, chk_dec (Int.le_refl _), chk_dec (by omega)]
      refine loop_runS (enc := fun k (s : List SHatch) => (k, s)) (I := fun k s => s.length = u.toNat) (Q := fun r => ∃ (b : List SHatch) (c' : Sl1Cur), r = some (b, c') ∧ b.length ≤ 16 ∧ CurOk c') (len := u.toNat) (fun k s J hk hI => ?_) (fun s J hI => ?_) (by omega) List.length_replicate
      · have e : w64 ((k : Int) + 1) = ((k + 1 : Nat) : Int) := w64_succ (by omega)
        have hks : k < s.length := by rw [hI]; exact hk
        refine ⟨s.set k ⟨1, 1, 500, 0⟩, by rw [List.length_set]; exact hI, ?_⟩
        show spec_l12DrawBays_L23 n _ (fun i87 out88 => J (i87, out88)) (k : Int) s xu = _
        unfold spec_l12DrawBays_L23
        rw [decide_eq_true (by omega), cond_true, ix_nat hks, Int.toNat_natCast, chk_dec hks, bd_eq, e]
      · refine ⟨s, xu, ?_, by omega, wu⟩
        show spec_l12DrawBays_L23 n _ (fun i87 out88 => J (i87, out88)) ((u.toNat : Nat) : Int) s xu = _
        unfold spec_l12DrawBays_L23
        rw [decide_eq_false (by omega), cond_false]
    rw [decide_eq_false c3, cond_false]
    exact ⟨_, _, rfl, hb, w5⟩
theorem drawFewest_ok {n : Nat} (code : List Int) (hc : code.length ≤ 1048576) (hn : 1000000000 < n) : ∃ b x, spec_DrawFewest n code = some (b, x) ∧ b.length ≤ 16 ∧ x.length ≤ 100 := by
  obtain ⟨c, e1, q1⟩ := new_ok code hc hn
  obtain ⟨b, c2, e2, hb, q2⟩ := drawBaysS_ok (n := n) q1 hn
  obtain ⟨cnt, c3, e3, ⟨r1, r2⟩, q3⟩ := below_ok (n := n) q2 (m := 5) (by omega)
  unfold spec_DrawFewest
  rw [e1, Option.bind_some, e2, Option.bind_some]
  dsimp only
  rw [e3, Option.bind_some]
  dsimp only
  have hz : cnt = cnt - 0 := by omega
  rw [show (cnt, c3, ([] : List SBox)) = (cnt - 0, c3, []) from by rw [← hz]]
  refine loop_runS (enc := fun k (s : Sl1Cur × List SBox) => (cnt - k, s.1, s.2)) (s0 := (c3, [])) (I := fun k s => CurOk s.1 ∧ s.2.length = k) (Q := fun r => ∃ (b : List SHatch) (x : List SBox), r = some (b, x) ∧ b.length ≤ 16 ∧ x.length ≤ 100) (len := cnt.toNat) (fun k s J hk hI => ?_) (fun s J hI => ?_) (by omega) ⟨q3, rfl⟩
  · obtain ⟨p, out⟩ := s
    obtain ⟨i1, i2⟩ := hI
    dsimp only at i1 i2
    obtain ⟨bx1, x1, y1, w1⟩ := drawB_ok (n := n) i1 hn
    obtain ⟨v2, x2, y2, _, w2⟩ := below_ok (n := n) w1 (m := 3) (by omega)
    obtain ⟨v3, x3, y3, _, w3⟩ := below_ok (n := n) w2 (m := 2) (by omega)
    have e1 : w64 (cnt - (k : Int) - 1) = cnt - ((k + 1 : Nat) : Int) := by rw [w64_id (by omega) (by omega)]; omega
    refine ⟨(x3, out ++ [(⟨bx1.Name, w64 (1 + v2), w64 (bx1.Class * v3), bx1.Cold, bx1.From, bx1.To⟩ : SBox)]), ⟨w3, by rw [List.length_append, i2]; rfl⟩, ?_⟩
    show spec_DrawFewest_L5 n _ (fun i27 t28 boxes29 => J (i27, t28, boxes29)) (cnt - (k : Int)) p b out = _
    unfold spec_DrawFewest_L5 spec_DrawFewest_k0
    rw [decide_eq_true (by omega), cond_true]
    simp only [y1, y2, y3, Option.bind_some, bd_eq]
    rw [chk_dec (by rw [List.length_append]; simp; omega), e1]
  · obtain ⟨p, out⟩ := s
    obtain ⟨i1, i2⟩ := hI
    dsimp only at i1 i2
    show ∃ b' x, spec_DrawFewest_L5 n _ (fun i27 t28 boxes29 => J (i27, t28, boxes29)) (cnt - ((cnt.toNat : Nat) : Int)) p b out = some (b', x) ∧ _
    unfold spec_DrawFewest_L5
    rw [decide_eq_false (by omega), cond_false]
    obtain ⟨v5, x5, y5, _, w5⟩ := below_ok (n := n) i1 (m := 30) (by omega)
    simp only [y5, Option.bind_some]
    cases decide (v5 = 0) with
    | true =>
      obtain ⟨bx1, x1, y1, w1⟩ := drawAnyB_ok (n := n) w5 hn
      rw [cond_true, y1, Option.bind_some, chk_dec (by rw [List.length_append, List.length_singleton]; omega)]
      exact ⟨_, _, rfl, hb, by rw [List.length_append, List.length_singleton]; omega⟩
    | false =>
      rw [cond_false]
      cases decide (v5 = 1) with
      | true =>
        rw [cond_true, chk_dec (by rw [List.length_append]; omega)]
        exact ⟨_, _, rfl, hb, by rw [List.length_append]; omega⟩
      | false => exact ⟨_, _, rfl, hb, by omega⟩
/-! ### Another plan of the same spots -/
theorem overs_laws {n : Nat} {l : List SStow} (hl : l.length ≤ 40) (hn : 1000000000 < n) : laws_overs n l = some (ovV l) := by
  unfold laws_overs
  refine loop_runS (enc := fun k (s : Int) => (s, k)) (I := fun k s => s = ovU l k) (Q := fun r => r = some (ovV l)) (len := l.length) (fun i s J hi hI => ⟨_, rfl, ?_⟩) (fun s J hI => ?_) (by omega) rfl
  · have e : w64 ((i : Int) + 1) = ((i + 1 : Nat) : Int) := w64_succ (by omega)
    have hU := ovU_rng l hl i
    unfold laws_overs_L3
    rw [decide_eq_true (by omega), cond_true, e]
    refine loop_runS (enc := fun k (s : Int) => (s, k)) (I := fun k t => t = ovA l i s k) (Q := fun r => r = J (ovU l (i + 1), ((i + 1 : Nat) : Int))) (len := l.length) (fun k t J' hk hI' => ⟨_, rfl, ?_⟩) (fun t J' hI' => ?_) (by omega) rfl
    · have e2 : w64 ((k : Int) + 1) = ((k + 1 : Nat) : Int) := w64_succ (by omega)
      have hA := ovA_rng l i s k
      unfold laws_overs_L6 laws_overs_k0
      rw [decide_eq_true (by omega), cond_true, ix_nat hi, bd_eq, ix_nat hk, bd_eq, Int.toNat_natCast, Int.toNat_natCast, e2, hI']
      simp only [bif_and']
      exact ovA_next (J := fun v => J' (v, ((k + 1 : Nat) : Int))) (by rw [hI] at hA ⊢; omega)
    · unfold laws_overs_L6
      rw [decide_eq_false (by omega), cond_false, hI', hI]; rfl
  · unfold laws_overs_L3
    rw [decide_eq_false (by omega), cond_false, hI]; rfl
def swapS (l : List SStow) (i v : Nat) : List SStow := (l.set i ⟨(l.getD i dSStow).Box, (l.getD v dSStow).Spot⟩).set v ⟨((l.set i ⟨(l.getD i dSStow).Box, (l.getD v dSStow).Spot⟩).getD v dSStow).Box, (l.getD i dSStow).Spot⟩
def swapI (i v j : Nat) : Nat := if j = v then i else if j = i then v else j
theorem swapI_inj {i v a b : Nat} (h : swapI i v a = swapI i v b) : a = b := by
  unfold swapI at h
  split at h <;> split at h <;> (try split at h) <;> (try split at h) <;> omega
theorem swapI_lt {i v j m : Nat} (hi : i < m) (hv : v < m) (hj : j < m) : swapI i v j < m := by
  unfold swapI
  split
  · exact hi
  · split
    · exact hv
    · exact hj
theorem swapS_len (l : List SStow) (i v : Nat) : (swapS l i v).length = l.length := by unfold swapS; rw [List.length_set, List.length_set]
theorem swapS_at {l : List SStow} {i v : Nat} (hi : i < l.length) (hv : v < l.length) (j : Nat) : (swapS l i v).getD j dSStow = ⟨(l.getD j dSStow).Box, (l.getD (swapI i v j) dSStow).Spot⟩ := by
  unfold swapS swapI
  by_cases c : j = v
  · subst c
    rw [getD_set (by rw [List.length_set]; exact hv), if_pos rfl]
    by_cases d : j = i
    · subst d; rw [getD_set hi]
    · rw [getD_set_ne d]
  · rw [getD_set_ne c, if_neg c]
    by_cases d : j = i
    · subst d; rw [getD_set hi, if_pos rfl]
    · rw [getD_set_ne d, if_neg d]
theorem PartF.swap {boxes : List SBox} {spots : List SSpot} {l : List SStow} (h : PartF boxes spots l) {i v : Nat} (hi : i < l.length) (hv : v < l.length) : PartF boxes spots (swapS l i v) := by
  refine ⟨by rw [swapS_len]; exact h.len, fun j hj => ?_, fun j hj => ?_, fun j k hj hk => ?_⟩
  all_goals rw [swapS_len] at hj
  · rw [swapS_at hi hv]; exact h.box j hj
  · rw [swapS_at hi hv]; exact h.spot _ (swapI_lt hi hv hj)
  · rw [swapS_at hi hv, swapS_at hi hv]
    cases e : spEq (⟨(l.getD k dSStow).Box, (l.getD (swapI i v k) dSStow).Spot⟩ : SStow).Spot (⟨(l.getD j dSStow).Box, (l.getD (swapI i v j) dSStow).Spot⟩ : SStow).Spot with
    | false => rfl
    | true =>
      have := swapI_inj (nd_eq h.nd (swapI_lt hi hv (by omega)) (swapI_lt hi hv hj) e)
      omega
theorem at_ok {n : Nat} {code : List Int} (h : ∀ y ∈ code, rng 0 255 y) (hl : code.length ≤ 1048576) {i : Nat} (hi : i ≤ 100) : ∃ r, laws_at n code (i : Int) = some r ∧ 0 ≤ r := by
  unfold laws_at
  by_cases c : i < code.length
  · rw [decide_eq_true (by omega), cond_true, ix_nat c, Int.toNat_natCast]
    have hr := h _ (getD_mem (d := (0 : Int)) c)
    have hr : 0 ≤ code.getD i 0 ∧ code.getD i 0 ≤ 255 := hr
    exact ⟨_, rfl, by rw [w64_id (by omega) (by omega)]; exact hr.1⟩
  · rw [decide_eq_false (by omega), cond_false, bd_eq, bd_eq]
    refine ⟨_, rfl, Int.tmod_nonneg _ ?_⟩
    rw [w64_id (show -9223372036854775808 ≤ (i : Int) * 7 by omega) (by omega), w64_id (by omega) (by omega)]
    omega
theorem laws_FnFewest_true (code0 : List Int) (h0 : (code0.length ≤ 9223372036854775807 ∧ ∀ y ∈ code0, rng 0 255 y)) : ∃ n, laws_FnFewest n code0 = some true := by
  refine ⟨1000000001, ?_⟩
  generalize hN : (1000000001 : Nat) = n
  have hn : 1000000000 < n := by omega
  unfold laws_FnFewest laws_big
  rw [Option.bind_some]
  by_cases hbig : (code0.length : Int) > 1048576
  · rw [decide_eq_true hbig]; rfl
  rw [decide_eq_false hbig, cond_false]
  obtain ⟨bays, boxes, e1, hb, hx⟩ := drawFewest_ok (n := n) code0 (by omega) hn
  unfold laws_FnFewest_k3
  rw [e1, Option.bind_some]
  dsimp only
  rw [fewest_impl bays boxes (by omega) (by omega) hn, Option.bind_some, fewest_spec bays boxes (by omega) (by omega) hn, Option.bind_some, beq_self_eq_true, Bool.not_true, cond_false]
  unfold fewV
  by_cases h5 : boxes.length ≤ 5
  case neg => rw [decide_eq_false h5]; rfl
  rw [decide_eq_true h5, Bool.true_and]
  cases hatchesB bays && boxesB boxes with
  | false => rfl
  | true =>
    rw [cond_true]
    by_cases h8 : (baysL bays bays.length).length ≤ 8
    case neg => rw [decide_eq_false h8]; rfl
    rw [decide_eq_true h8, cond_true]
    have hF := few_found (n := n) (bays := bays) h5
    by_cases hp : 0 ≤ (bestV n bays boxes).1
    case neg => rw [decide_eq_false hp]; rfl
    have f1 := hF.part hp
    have f2 := hF.len hp
    have f3 := hF.ok hp
    have f4 := hF.ov hp
    have hleast : ∀ l, PartF boxes (baysL bays bays.length) l → l.length = boxes.length → (stowV n bays l).1 = 0 → (bestV n bays boxes).1 ≤ ovV l := fun l a b c => (few_least h5 a b c).2
    generalize bestV n bays boxes = r at f1 f2 f3 f4 hp hleast
    obtain ⟨v, plan⟩ := r
    dsimp only at f1 f2 f3 f4 hp hleast
    dsimp only
    rw [decide_eq_true hp, Bool.not_true, cond_false, stow_impl bays plan (by omega) hn, Option.bind_some, decide_eq_true f3, Bool.not_true, cond_false, decide_eq_true (by omega), Bool.not_true, cond_false]
    unfold laws_FnFewest_k2
    rw [loop_all (len := plan.length) (p := fun _ => true) (no := some false) (yes := some true) (by omega) (fun i J hi _ => ?_) (fun J _ => ?_) (by omega)]
    · rw [show (List.range plan.length).all (fun _ => true) = true by simp]; rfl
    · have e : w64 ((i : Int) + 1) = ((i + 1 : Nat) : Int) := w64_succ (by omega)
      unfold laws_FnFewest_L12 laws_FnFewest_k0
      rw [decide_eq_true (by omega), cond_true, ix_nat hi, Int.toNat_natCast, chk_dec hi, bd_eq, ix_nat (show i < boxes.length by omega), chk_dec (show i < boxes.length by omega), bd_eq, f1.box i hi, e]
      simp
    · unfold laws_FnFewest_L12
      rw [decide_eq_false (by omega), cond_false, chk_dec (by omega)]
      refine loop_runS (enc := fun k (s : List SStow) => (k + 1, s)) (s0 := plan) (I := fun k s => PartF boxes (baysL bays bays.length) s ∧ s.length = plan.length) (Q := fun r => r = some true) (len := plan.length - 1) (n := n) (fun k s J' hk hI => ?_) (fun s J' hI => ?_) (by omega) ⟨f1, rfl⟩
      · obtain ⟨i1, i2⟩ := hI
        have hks : k + 1 < s.length := by omega
        have e : w64 (((k + 1 : Nat) : Int) + 1) = ((k + 1 + 1 : Nat) : Int) := w64_succ (by omega)
        obtain ⟨r, ra, rn⟩ := at_ok (n := n) h0.2 (show code0.length ≤ 1048576 by omega) (i := k + 1) (by omega)
        have t0 := Int.tmod_nonneg ((k + 1 + 1 : Nat) : Int) rn
        have t1 := Int.tmod_lt_of_pos r (b := ((k + 1 + 1 : Nat) : Int)) (by omega)
        generalize ht : Int.tmod r ((k + 1 + 1 : Nat) : Int) = t at t0 t1
        obtain ⟨u, rfl⟩ : ∃ u : Nat, t = (u : Int) := ⟨t.toNat, by omega⟩
        have hu : u < s.length := by omega
        refine ⟨swapS s (k + 1) u, ⟨i1.swap hks hu, by rw [swapS_len]; exact i2⟩, ?_⟩
        show laws_FnFewest_L18 n _ (fun i59 other60 => J' (i59, other60)) code0 ((k + 1 : Nat) : Int) bays plan s = J' (((k + 1 + 1 : Nat) : Int), swapS s (k + 1) u)
        unfold laws_FnFewest_L18 laws_FnFewest_k1
        have hl1 : ∀ x : SStow, u < (s.set (k + 1) x).length := fun x => by rw [List.length_set]; exact hu
        rw [decide_eq_true (by omega), cond_true, ra, Option.bind_some, e, decide_eq_false (by omega), cond_false, bd_eq, ht, ix_nat hks, Int.toNat_natCast, Int.toNat_natCast, chk_dec hks, bd_eq, ix_nat hu, chk_dec hu, bd_eq, ix_nat hks, chk_dec hks, bd_eq, bd_eq, ix_nat (hl1 _), chk_dec (hl1 _), bd_eq, bd_eq]
        rfl
      · obtain ⟨i1, i2⟩ := hI
        show laws_FnFewest_L18 n _ (fun i59 other60 => J' (i59, other60)) code0 (((plan.length - 1 : Nat) : Int) + 1) bays plan s = some true
        unfold laws_FnFewest_L18
        rw [decide_eq_false (by omega), cond_false]
        dsimp only
        rw [stow_impl bays s (by omega) hn, Option.bind_some]
        by_cases c : (stowV n bays s).1 = 0
        · rw [decide_eq_true c, Bool.not_true, cond_false, overs_laws (by omega) hn, Option.bind_some, overs_laws (by omega) hn, Option.bind_some]
          have := hleast s i1 (by omega) c
          rw [decide_eq_true (by omega)]
        · rw [decide_eq_false c]; rfl
end Go.Sm
end
