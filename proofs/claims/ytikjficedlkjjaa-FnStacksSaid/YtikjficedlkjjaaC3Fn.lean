import Derived.Test.YtikjficedlkjjaaEngA
/- The functions as plain functions over data, and that the law answers true for all arguments. FnStacks: a drawn stack that stands still stands without its topmost box; more wind never wants fewer lashings, and none wants none. -/
section
set_option linter.unusedSimpArgs false
set_option linter.deprecated false
set_option linter.unusedSectionVars false
set_option linter.unusedVariables false
namespace Go.Sm
structure SBox where
  Name : ByteArray
  Weight : Int
  Class : Int
  Cold : Bool
  From : Int
  To : Int
structure Sl1Cur where
  b : List Int
  i : Int
  h : Int
def dSBox : SBox := ⟨str [], (0 : Int), (0 : Int), false, (0 : Int), (0 : Int)⟩
def dSl1Cur : Sl1Cur := ⟨[], (0 : Int), (0 : Int)⟩
def laws_big (n : Nat) (code0 : List Int) : Option Bool :=
  some ((decide ((code0.length : Int) > (1048576 : Int))))
def spec_l1New_k0 {R : Type} (n : Nat) (kx0 : Int → Option R) (J : Int → Int → Option R) (code2 : List Int) (h8 : Int) (i9 : Int) : Option R :=
  ix i9 code2.length ((bd (w64 ((w64 (h8 * (131 : Int))) + (w64 (code2.getD i9.toNat (0 : Int))))) fun (v10 : Int) => (bd (w64 (((BitVec.ofInt 64 (w64 (v10 + (7 : Int))) &&& BitVec.ofInt 64 (1073741823 : Int)).toNat : Nat) : Int)) fun (v11 : Int) => J v11 (w64 (i9 + (1 : Int))))))
def spec_l1New_L3 {R : Type} (n : Nat) (kx0 : Int → Option R) (J : Int → Int → Option R) (code2 : List Int) (h3 : Int) (i4 : Int) : Option R :=
  (bif (decide (i4 < (code2.length : Int))) then (bif (decide (i4 < (4000 : Int))) then spec_l1New_k0 n kx0 J code2 h3 i4 else kx0 h3) else kx0 h3)
def spec_l1New (n : Nat) (code0 : List Int) : Option Sl1Cur :=
  (bd (w64 ((59059 : Int) + (code0.length : Int))) fun (v1 : Int) => loopN (fun (x : Int × Int) J' => spec_l1New_L3 n (fun h16 => some ((⟨code0, (0 : Int), h16⟩ : Sl1Cur))) (fun h17 i18 => J' (h17, i18)) code0 x.1 x.2) n (v1, (0 : Int)))
def spec_l1Byte (n : Nat) (c0 : Sl1Cur) : Option (Int × Sl1Cur) :=
  (bd (w64 (c0.h * (6364136223846793005 : Int))) fun (v1 : Int) => (bd (w64 (v1 + (1442695040888963407 : Int))) fun (v2 : Int) => (bd (Int.fdiv v2 (2 ^ (min (33 : Int).toNat 64))) fun (v3 : Int) => (bd (Int.fdiv v2 (2 ^ (min (45 : Int).toNat 64))) fun (v4 : Int) => (bd (w64 (((BitVec.ofInt 64 v3 ^^^ BitVec.ofInt 64 v4).toNat : Nat) : Int)) fun (v5 : Int) => (bd (w64 (((BitVec.ofInt 64 v5 &&& BitVec.ofInt 64 (255 : Int)).toNat : Nat) : Int)) fun (v6 : Int) => (bif (decide (c0.i < (c0.b.length : Int))) then ix c0.i c0.b.length ((bd (w64 (v6 + (w64 (c0.b.getD c0.i.toNat (0 : Int))))) fun (v7 : Int) => (bd (w64 (((BitVec.ofInt 64 v7 &&& BitVec.ofInt 64 (255 : Int)).toNat : Nat) : Int)) fun (v8 : Int) => some (v8, (⟨c0.b, (w64 (c0.i + (1 : Int))), v2⟩ : Sl1Cur))))) else some (v6, (⟨c0.b, c0.i, v2⟩ : Sl1Cur)))))))))
def spec_l1Below_k0 (n : Nat)  (n1 : Int) (p3 : Sl1Cur) : Option (Int × Sl1Cur) :=
  (spec_l1Byte n p3).bind fun r4 => (spec_l1Byte n r4.2).bind fun r5 => (spec_l1Byte n r5.2).bind fun r6 => (spec_l1Byte n r6.2).bind fun r7 => (bd (w64 (r4.1 * (16777216 : Int))) fun (v8 : Int) => (bd (w64 (r5.1 * (65536 : Int))) fun (v9 : Int) => (bd (w64 (r6.1 * (256 : Int))) fun (v10 : Int) => (bd (w64 ((w64 (v8 + v9)) + v10)) fun (v11 : Int) => (bif decide (n1 = 0) then none else (bd (Int.tmod (w64 (v11 + r7.1)) n1) fun (v12 : Int) => some (v12, r7.2)))))))
def spec_l1Below (n : Nat) (c0 : Sl1Cur) (n1 : Int) : Option (Int × Sl1Cur) :=
  (bif (decide (n1 ≤ (0 : Int))) then some ((0 : Int), c0) else (bif (decide (n1 ≤ (256 : Int))) then (spec_l1Byte n c0).bind fun r13 => (bif decide (n1 = 0) then none else some ((Int.tmod r13.1 n1), r13.2)) else spec_l1Below_k0 n  n1 c0))
def spec_l1In (n : Nat) (x0 : Int) (a1 : Int) (b2 : Int) : Option Bool :=
  (bif (decide (x0 ≥ a1)) then some ((decide (x0 ≤ b2))) else some (false))
def spec_l11Letter_L2 {R : Type} (n : Nat) (kx0 : Int → Option R) (J : Int → Int → Option R) (k1 : Int) (x2 : Int) : Option R :=
  (bif (decide (k1 > (0 : Int))) then (bd (Int.tmod (w64 (x2 + (1 : Int))) (11 : Int)) fun (v11 : Int) => (bif (decide (v11 = (0 : Int))) then (bd (w64 ((w64 (x2 + (1 : Int))) + (1 : Int))) fun (v12 : Int) => J (w64 (k1 - (1 : Int))) v12) else J (w64 (k1 - (1 : Int))) (w64 (x2 + (1 : Int))))) else kx0 x2)
def spec_l11Letter (n : Nat) (k0 : Int) : Option Int :=
  loopN (fun (x : Int × Int) J' => spec_l11Letter_L2 n (fun x17 => some (x17)) (fun k18 x19 => J' (k18, x19)) x.1 x.2) n (k0, (10 : Int))
def spec_CheckDigit_k0 {R : Type} (n : Nat) (kx0 : Int → Option R) (kxr : Int → Option R) (J : Int → Int → Option R) (name1 : ByteArray) (sum7 : Int) (i8 : Int) (x9 : Int) (t10 : Bool) : Option R :=
  (bif t10 then (spec_l11Letter n (w64 (x9 - (65 : Int)))).bind fun r11 => chk (decide (0 ≤ i8)) ((bd (w64 (r11 * 2 ^ (min i8.toNat 64))) fun (v18 : Int) => J (w64 (sum7 + v18)) (w64 (i8 + (1 : Int))))) else (bif (decide (i8 ≥ (4 : Int))) then (spec_l1In n x9 (48 : Int) (57 : Int)).bind fun r21 => (bif r21 then chk (decide (0 ≤ i8)) ((bd (w64 ((w64 (x9 - (48 : Int))) * 2 ^ (min i8.toNat 64))) fun (v35 : Int) => J (w64 (sum7 + v35)) (w64 (i8 + (1 : Int))))) else kxr (-1 : Int)) else kxr (-1 : Int)))
def spec_CheckDigit_k1 {R : Type} (n : Nat) (kx0 : Int → Option R) (kxr : Int → Option R) (J : Int → Int → Option R) (name1 : ByteArray) (sum41 : Int) (i42 : Int) (x43 : Int) : Option R :=
  (bif (decide (i42 ≥ (4 : Int))) then (spec_l1In n x43 (48 : Int) (57 : Int)).bind fun r44 => (bif r44 then chk (decide (0 ≤ i42)) ((bd (w64 ((w64 (x43 - (48 : Int))) * 2 ^ (min i42.toNat 64))) fun (v52 : Int) => J (w64 (sum41 + v52)) (w64 (i42 + (1 : Int))))) else kxr (-1 : Int)) else kxr (-1 : Int))
def spec_CheckDigit_k2 {R : Type} (n : Nat) (kx0 : Int → Option R) (kxr : Int → Option R) (J : Int → Int → Option R) (name1 : ByteArray) (sum4 : Int) (i5 : Int) : Option R :=
  ix i5 name1.size ((bif (decide (i5 < (4 : Int))) then (spec_l1In n (w64 (byteAt name1 i5.toNat)) (65 : Int) (90 : Int)).bind fun r6 => spec_CheckDigit_k0 n kx0 kxr J name1 sum4 i5 (w64 (byteAt name1 i5.toNat)) r6 else spec_CheckDigit_k1 n kx0 kxr J name1 sum4 i5 (w64 (byteAt name1 i5.toNat))))
def spec_CheckDigit_L5 {R : Type} (n : Nat) (kx0 : Int → Option R) (kxr : Int → Option R) (J : Int → Int → Option R) (name1 : ByteArray) (sum2 : Int) (i3 : Int) : Option R :=
  (bif (decide (i3 < (10 : Int))) then spec_CheckDigit_k2 n kx0 kxr J name1 sum2 i3 else kx0 sum2)
def spec_CheckDigit_k3 (n : Nat)  (name0 : ByteArray) : Option Int :=
  loopN (fun (x : Int × Int) J' => spec_CheckDigit_L5 n (fun sum58 => (bd (Int.tmod sum58 (11 : Int)) fun (v59 : Int) => (bd (Int.tmod v59 (10 : Int)) fun (v60 : Int) => some (v60)))) (fun t61 => some (t61)) (fun sum62 i63 => J' (sum62, i63)) name0 x.1 x.2) n ((0 : Int), (0 : Int))
def spec_CheckDigit (n : Nat) (name0 : ByteArray) : Option Int :=
  (bif (!(decide ((name0.size : Int) = (10 : Int)))) then some ((-1 : Int)) else spec_CheckDigit_k3 n  name0)
def spec_l11DrawName_L3 {R : Type} (n : Nat) (kx0 : Sl1Cur → List Int → Option R) (J : Int → Sl1Cur → List Int → Option R) (i1 : Int) (p2 : Sl1Cur) (b3 : List Int) : Option R :=
  (bif (decide (i1 < (4 : Int))) then (spec_l1Below n p2 (26 : Int)).bind fun r9 => (bd (w64 ((65 : Int) + r9.1)) fun (v10 : Int) => chk (decide ((b3 ++ [(wu8 v10)]).length * 1 ≤ 140737488355328)) (J (w64 (i1 + (1 : Int))) r9.2 (b3 ++ [(wu8 v10)]))) else kx0 p2 b3)
def spec_l11DrawName_L7 {R : Type} (n : Nat) (kx2 : List Int → Sl1Cur → Option R) (J : Int → Sl1Cur → List Int → Option R) (i13 : Int) (p14 : Sl1Cur) (b15 : List Int) : Option R :=
  (bif (decide (i13 < (6 : Int))) then (spec_l1Below n p14 (10 : Int)).bind fun r21 => (bd (w64 ((48 : Int) + r21.1)) fun (v22 : Int) => chk (decide ((b15 ++ [(wu8 v22)]).length * 1 ≤ 140737488355328)) (J (w64 (i13 + (1 : Int))) r21.2 (b15 ++ [(wu8 v22)]))) else kx2 b15 p14)
def spec_l11DrawName (n : Nat) (c0 : Sl1Cur) : Option (ByteArray × Sl1Cur) :=
  loopN (fun (x : Int × Sl1Cur × List Int) J' => spec_l11DrawName_L3 n (fun p11 b12 => loopN (fun (x : Int × Sl1Cur × List Int) J' => spec_l11DrawName_L7 n (fun b23 p24 => (spec_CheckDigit n (bstr b23)).bind fun r25 => (bd (b23 ++ [(wu8 (w64 ((48 : Int) + r25)))]) fun (l26 : List Int) => chk (decide (l26.length * 1 ≤ 140737488355328)) (some ((bstr l26), p24)))) (fun i27 p28 b29 => J' (i27, p28, b29)) x.1 x.2.1 x.2.2) n ((0 : Int), p11, b12)) (fun i30 p31 b32 => J' (i30, p31, b32)) x.1 x.2.1 x.2.2) n ((0 : Int), c0, [])
def spec_l1Once (n : Nat) (c0 : Sl1Cur) (n1 : Int) : Option (Bool × Sl1Cur) :=
  (spec_l1Below n c0 n1).bind fun r1 => some ((decide (r1.1 = (0 : Int))), r1.2)
def spec_l11Draw (n : Nat) (c0 : Sl1Cur) : Option (SBox × Sl1Cur) :=
  (spec_l1Below n c0 (4 : Int)).bind fun r1 => (spec_l11DrawName n r1.2).bind fun r2 => (spec_l1Below n r2.2 (30 : Int)).bind fun r3 => (spec_l1Below n r3.2 (4 : Int)).bind fun r4 => (bd (w64 ((w64 (r1.1 + (1 : Int))) + r4.1)) fun (v5 : Int) => (spec_l1Once n r4.2 (4 : Int)).bind fun r6 => (bif r6.1 then (spec_l1Below n r6.2 (10 : Int)).bind fun r7 => (spec_l1Once n r7.2 (8 : Int)).bind fun r15 => some ((⟨r2.1, (w64 ((1 : Int) + r3.1)), r7.1, r15.1, r1.1, v5⟩ : SBox), r15.2) else (spec_l1Once n r6.2 (8 : Int)).bind fun r22 => some ((⟨r2.1, (w64 ((1 : Int) + r3.1)), (0 : Int), r22.1, r1.1, v5⟩ : SBox), r22.2)))
def spec_l1Pick (n : Nat) (c0 : Sl1Cur) (list1 : List ByteArray) : Option (ByteArray × Sl1Cur) :=
  (spec_l1Below n c0 (list1.length : Int)).bind fun r1 => ix r1.1 list1.length (some ((list1.getD r1.1.toNat (str [])), r1.2))
def spec_l11DrawText (n : Nat) (c0 : Sl1Cur) : Option (ByteArray × Sl1Cur) :=
  (spec_l11DrawName n c0).bind fun r1 => (spec_l1Below n r1.2 ((strb r1.1).length : Int)).bind fun r2 => (spec_l1Below n r2.2 (5 : Int)).bind fun r3 => (bif (decide (r3.1 = (0 : Int))) then (spec_l1Pick n r3.2 [str [97], str [48], str [90], str [32], str [53], str [75]]).bind fun r4 => ix (0 : Int) r4.1.size (ix r2.1 ((strb r1.1).length) (chk (decide (r2.1.toNat < (strb r1.1).length)) ((bd ((strb r1.1).set r2.1.toNat (byteAt r4.1 0)) fun (l5 : List Int) => some ((bstr l5), r4.2))))) else (bif (decide (r3.1 = (1 : Int))) then (bd ((strb r1.1) ++ [(48 : Int)]) fun (l8 : List Int) => chk (decide (l8.length * 1 ≤ 140737488355328)) (some ((bstr l8), r3.2))) else (bif (decide (r3.1 = (2 : Int))) then chk (decide ((0 : Int) ≤ r2.1)) (chk (decide (r2.1 ≤ ((strb r1.1).length : Int))) (chk (decide ((0 + (r2.1.toNat - 0)) ≤ (strb r1.1).length)) (some ((bstr (((strb r1.1).drop 0).take (r2.1.toNat - 0))), r3.2)))) else (bif (decide (r3.1 = (3 : Int))) then (spec_l1Below n r3.2 (10 : Int)).bind fun r14 => (bd (w64 ((48 : Int) + r14.1)) fun (v15 : Int) => ix (10 : Int) ((strb r1.1).length) (chk (decide (10 < (strb r1.1).length)) ((bd ((strb r1.1).set 10 (wu8 v15)) fun (l16 : List Int) => some ((bstr l16), r14.2))))) else some ((bstr (strb r1.1)), r3.2)))))
def spec_l1PickInt (n : Nat) (c0 : Sl1Cur) (list1 : List Int) : Option (Int × Sl1Cur) :=
  (spec_l1Below n c0 (list1.length : Int)).bind fun r1 => ix r1.1 list1.length (some ((list1.getD r1.1.toNat (0 : Int)), r1.2))
def spec_l11DrawAny (n : Nat) (c0 : Sl1Cur) : Option (SBox × Sl1Cur) :=
  (spec_l11Draw n c0).bind fun r1 => (spec_l1Below n r1.2 (30 : Int)).bind fun r2 => (bif (decide (r2.1 = (0 : Int))) then (spec_l11DrawText n r2.2).bind fun r3 => some ((⟨r3.1, r1.1.Weight, r1.1.Class, r1.1.Cold, r1.1.From, r1.1.To⟩ : SBox), r3.2) else (bif (decide (r2.1 = (1 : Int))) then (spec_l1PickInt n r2.2 [(0 : Int), (40000 : Int), (40001 : Int), (-1 : Int)]).bind fun r11 => some ((⟨r1.1.Name, r11.1, r1.1.Class, r1.1.Cold, r1.1.From, r1.1.To⟩ : SBox), r11.2) else (bif (decide (r2.1 = (2 : Int))) then (spec_l1PickInt n r2.2 [(-1 : Int), (9 : Int), (10 : Int)]).bind fun r19 => some ((⟨r1.1.Name, r1.1.Weight, r19.1, r1.1.Cold, r1.1.From, r1.1.To⟩ : SBox), r19.2) else (bif (decide (r2.1 = (3 : Int))) then (spec_l1PickInt n r2.2 [(-1 : Int), (18 : Int), (19 : Int)]).bind fun r27 => some ((⟨r1.1.Name, r1.1.Weight, r1.1.Class, r1.1.Cold, r27.1, r1.1.To⟩ : SBox), r27.2) else (bif (decide (r2.1 = (4 : Int))) then (spec_l1PickInt n r2.2 [(0 : Int), (19 : Int), (20 : Int)]).bind fun r35 => some ((⟨r1.1.Name, r1.1.Weight, r1.1.Class, r1.1.Cold, r1.1.From, r35.1⟩ : SBox), r35.2) else some (r1.1, r2.2))))))
def spec_l11DrawStack_k0 {R : Type} (n : Nat) (kx0 : Sl1Cur → List SBox → Option R) (J : Int → Int → Sl1Cur → List SBox → Option R) (w8 : Int) (i9 : Int) (p10 : Sl1Cur) (out11 : List SBox) : Option R :=
  (spec_l11Draw n p10).bind fun r12 => (spec_l1Once n r12.2 (12 : Int)).bind fun r13 => (spec_l1Below n r13.2 (9 : Int)).bind fun r14 => (spec_l1Below n r14.2 (20 : Int)).bind fun r15 => (bd (w64 (Int.tdiv r15.1 (19 : Int))) fun (v16 : Int) => (bd (w64 ((w64 (w8 - r14.1)) + (w64 (v16 * (15 : Int))))) fun (v17 : Int) => (bif (decide (v17 < (1 : Int))) then (bd (out11 ++ [(⟨r12.1.Name, (1 : Int), r12.1.Class, r13.1, r12.1.From, r12.1.To⟩ : SBox)]) fun (l31 : List SBox) => chk (decide (l31.length * 56 ≤ 140737488355328)) (J (1 : Int) (w64 (i9 - (1 : Int))) r15.2 l31)) else (bd (out11 ++ [(⟨r12.1.Name, v17, r12.1.Class, r13.1, r12.1.From, r12.1.To⟩ : SBox)]) fun (l50 : List SBox) => chk (decide (l50.length * 56 ≤ 140737488355328)) (J v17 (w64 (i9 - (1 : Int))) r15.2 l50)))))
def spec_l11DrawStack_L4 {R : Type} (n : Nat) (kx0 : Sl1Cur → List SBox → Option R) (J : Int → Int → Sl1Cur → List SBox → Option R) (w4 : Int) (i5 : Int) (p6 : Sl1Cur) (out7 : List SBox) : Option R :=
  (bif (decide (i5 > (0 : Int))) then spec_l11DrawStack_k0 n kx0 J w4 i5 p6 out7 else kx0 p6 out7)
def spec_l11DrawStack_L17 {R : Type} (n : Nat) (kx3 : List SBox → Sl1Cur → Option R) (J : Sl1Cur → List SBox → Option R) (p61 : Sl1Cur) (out62 : List SBox) : Option R :=
  (spec_l1Below n p61 (2 : Int)).bind fun r63 => (bd (w64 ((20 : Int) + r63.1)) fun (v64 : Int) => (bif (decide ((out62.length : Int) < v64)) then (spec_l11Draw n r63.2).bind fun r69 => (bd (out62 ++ [(⟨r69.1.Name, (1 : Int), r69.1.Class, false, r69.1.From, r69.1.To⟩ : SBox)]) fun (l70 : List SBox) => chk (decide (l70.length * 56 ≤ 140737488355328)) (J r69.2 l70)) else kx3 out62 r63.2))
def spec_l11DrawStack (n : Nat) (c0 : Sl1Cur) : Option (List SBox × Sl1Cur) :=
  (spec_l1Below n c0 (60 : Int)).bind fun r1 => (bd (w64 ((40 : Int) + r1.1)) fun (v2 : Int) => (spec_l1Below n r1.2 (6 : Int)).bind fun r3 => loopN (fun (x : Int × Int × Sl1Cur × List SBox) J' => spec_l11DrawStack_L4 n (fun p55 out56 => (spec_l1Below n p55 (30 : Int)).bind fun r57 => (bif (decide (r57.1 = (0 : Int))) then (spec_l11DrawAny n r57.2).bind fun r58 => chk (decide ((out56 ++ [r58.1]).length * 56 ≤ 140737488355328)) (some ((out56 ++ [r58.1]), r58.2)) else (bif (decide (r57.1 = (1 : Int))) then loopN (fun (x : Sl1Cur × List SBox) J' => spec_l11DrawStack_L17 n (fun out71 p72 => some (out71, p72)) (fun p75 out76 => J' (p75, out76)) x.1 x.2) n (r57.2, out56) else some (out56, r57.2)))) (fun w79 i80 p81 out82 => J' (w79, i80, p81, out82)) x.1 x.2.1 x.2.2.1 x.2.2.2) n (v2, r3.1, r3.2, []))
def spec_DrawStackOk (n : Nat) (code0 : List Int) : Option (List SBox × Int) :=
  (spec_l1New n code0).bind fun r1 => (spec_l11DrawStack n r1).bind fun r2 => (spec_l1PickInt n r2.2 [(500 : Int), (300 : Int), (100 : Int), (1000000 : Int), (1000001 : Int), (-1 : Int), (0 : Int)]).bind fun r3 => some (r2.1, r3.1)
def impl_in (n : Nat) (n0 : Int) (least1 : Int) (most2 : Int) : Option Bool :=
  (bif (decide (n0 ≥ least1)) then some ((decide (n0 ≤ most2))) else some (false))
def impl_valueOf_L3 {R : Type} (n : Nat) (kx0 : Int → Option R) (J : Int → Int → Option R) (c1 : Int) (n2 : Int) (k3 : Int) : Option R :=
  (bif (decide (k3 < c1)) then (bd (Int.tmod (w64 (n2 + (1 : Int))) (11 : Int)) fun (v12 : Int) => (bif (decide (v12 = (0 : Int))) then (bd (w64 ((w64 (n2 + (1 : Int))) + (1 : Int))) fun (v13 : Int) => J v13 (wu8 (k3 + (1 : Int)))) else J (w64 (n2 + (1 : Int))) (wu8 (k3 + (1 : Int))))) else kx0 n2)
def impl_valueOf (n : Nat) (c0 : Int) : Option Int :=
  loopN (fun (x : Int × Int) J' => impl_valueOf_L3 n (fun n18 => some (n18)) (fun n19 k20 => J' (n19, k20)) c0 x.1 x.2) n ((10 : Int), (65 : Int))
def impl_CheckDigit_k0 {R : Type} (n : Nat) (kx0 : Int → Option R) (kxr : Int → Option R) (J : Int → Int → Option R) (name1 : ByteArray) (sum6 : Int) (i7 : Int) (c8 : Int) (t9 : Int) (t10 : Bool) : Option R :=
  (bif t10 then (impl_valueOf n c8).bind fun r11 => chk (decide (0 ≤ i7)) ((bd (w64 (r11 * 2 ^ (min i7.toNat 64))) fun (v19 : Int) => J (w64 (sum6 + v19)) (w64 (t9 + (1 : Int))))) else (bif (decide (i7 ≥ (4 : Int))) then (bif (decide (c8 ≥ (48 : Int))) then (bif (decide (c8 ≤ (57 : Int))) then chk (decide (0 ≤ i7)) ((bd (w64 ((w64 (wu8 (c8 - (48 : Int)))) * 2 ^ (min i7.toNat 64))) fun (v38 : Int) => J (w64 (sum6 + v38)) (w64 (t9 + (1 : Int))))) else kxr (-1 : Int)) else kxr (-1 : Int)) else kxr (-1 : Int)))
def impl_CheckDigit_k1 {R : Type} (n : Nat) (kx0 : Int → Option R) (kxr : Int → Option R) (J : Int → Int → Option R) (name1 : ByteArray) (sum49 : Int) (i50 : Int) (c51 : Int) (t52 : Int) : Option R :=
  (bif (decide (i50 ≥ (4 : Int))) then (bif (decide (c51 ≥ (48 : Int))) then (bif (decide (c51 ≤ (57 : Int))) then chk (decide (0 ≤ i50)) ((bd (w64 ((w64 (wu8 (c51 - (48 : Int)))) * 2 ^ (min i50.toNat 64))) fun (v62 : Int) => J (w64 (sum49 + v62)) (w64 (t52 + (1 : Int))))) else kxr (-1 : Int)) else kxr (-1 : Int)) else kxr (-1 : Int))
def impl_CheckDigit_k2 {R : Type} (n : Nat) (kx0 : Int → Option R) (kxr : Int → Option R) (J : Int → Int → Option R) (name1 : ByteArray) (sum4 : Int) (t5 : Int) : Option R :=
  ix t5 name1.size ((bif (decide (t5 < (4 : Int))) then (bif (decide ((byteAt name1 t5.toNat) ≥ (65 : Int))) then impl_CheckDigit_k0 n kx0 kxr J name1 sum4 t5 (byteAt name1 t5.toNat) t5 (decide ((byteAt name1 t5.toNat) ≤ (90 : Int))) else impl_CheckDigit_k1 n kx0 kxr J name1 sum4 t5 (byteAt name1 t5.toNat) t5) else impl_CheckDigit_k1 n kx0 kxr J name1 sum4 t5 (byteAt name1 t5.toNat) t5))
def impl_CheckDigit_L5 {R : Type} (n : Nat) (kx0 : Int → Option R) (kxr : Int → Option R) (J : Int → Int → Option R) (name1 : ByteArray) (sum2 : Int) (t3 : Int) : Option R :=
  (bif (decide (t3 < (10 : Int))) then impl_CheckDigit_k2 n kx0 kxr J name1 sum2 t3 else kx0 sum2)
def impl_CheckDigit_k3 (n : Nat)  (name0 : ByteArray) : Option Int :=
  loopN (fun (x : Int × Int) J' => impl_CheckDigit_L5 n (fun sum77 => (bd (Int.tmod sum77 (11 : Int)) fun (v78 : Int) => (bd (Int.tmod v78 (10 : Int)) fun (v79 : Int) => some (v79)))) (fun t80 => some (t80)) (fun sum81 t82 => J' (sum81, t82)) name0 x.1 x.2) n ((0 : Int), (0 : Int))
def impl_CheckDigit (n : Nat) (name0 : ByteArray) : Option Int :=
  (bif (!(decide ((name0.size : Int) = (10 : Int)))) then some ((-1 : Int)) else impl_CheckDigit_k3 n  name0)
def impl_BoxName (n : Nat) (text0 : ByteArray) : Option Bool :=
  (bif (!(decide ((text0.size : Int) = (11 : Int)))) then some (false) else chk (decide ((10 : Int) ≤ (text0.size : Int))) ((impl_CheckDigit n (text0.extract 0 10)).bind fun r3 => (bif (decide (r3 ≥ (0 : Int))) then ix (10 : Int) text0.size (some ((decide ((byteAt text0 10) = (wu8 (w64 ((48 : Int) + r3))))))) else some (false))))
def impl_portOk (n : Nat) (n0 : Int) : Option Bool :=
  (impl_in n n0 (0 : Int) (19 : Int)).bind fun r1 => some (r1)
def impl_BoxOk (n : Nat) (b0 : SBox) : Option Bool :=
  (impl_BoxName n b0.Name).bind fun r1 => (bif r1 then (impl_in n b0.Weight (1 : Int) (40000 : Int)).bind fun r2 => (bif r2 then (impl_in n b0.Class (0 : Int) (9 : Int)).bind fun r3 => (bif r3 then (impl_portOk n b0.From).bind fun r4 => (bif r4 then (impl_portOk n b0.To).bind fun r5 => (bif r5 then some ((decide (b0.From < b0.To))) else some (false)) else some (false)) else some (false)) else some (false)) else some (false))
def impl_StackOk_k0 {R : Type} (n : Nat) (kx0 : Int → Option R) (kxr : Bool → Option R) (J : Int → Int → Option R) (boxes3 : List SBox) (most4 : Int) (sum9 : Int) (t6 : List SBox) (t7 : Int) (t10 : Int) : Option R :=
  ix t10 t6.length ((bd (t6.getD t10.toNat dSBox) fun (e11 : SBox) => (impl_BoxOk n e11).bind fun r12 => (bif (!r12) then kxr false else (bif (decide (t10 > (0 : Int))) then ix (w64 (t10 - (1 : Int))) boxes3.length ((bd (boxes3.getD ((w64 (t10 - (1 : Int))).toNat) dSBox) fun (e16 : SBox) => (bif (decide (e11.Weight > e16.Weight)) then kxr false else (bif e11.Cold then (bif (decide (t10 > (1 : Int))) then kxr false else (bd (w64 (sum9 + e11.Weight)) fun (v36 : Int) => J v36 (w64 (t10 + (1 : Int))))) else (bd (w64 (sum9 + e11.Weight)) fun (v51 : Int) => J v51 (w64 (t10 + (1 : Int)))))))) else (bif e11.Cold then (bif (decide (t10 > (1 : Int))) then kxr false else (bd (w64 (sum9 + e11.Weight)) fun (v61 : Int) => J v61 (w64 (t10 + (1 : Int))))) else (bd (w64 (sum9 + e11.Weight)) fun (v70 : Int) => J v70 (w64 (t10 + (1 : Int)))))))))
def impl_StackOk_L5 {R : Type} (n : Nat) (kx0 : Int → Option R) (kxr : Bool → Option R) (J : Int → Int → Option R) (boxes3 : List SBox) (most4 : Int) (sum5 : Int) (t6 : List SBox) (t7 : Int) (t8 : Int) : Option R :=
  (bif (decide (t8 < t7)) then impl_StackOk_k0 n kx0 kxr J boxes3 most4 sum5 t6 t7 t8 else kx0 sum5)
def impl_StackOk (n : Nat) (boxes0 : List SBox) (most1 : Int) : Option Bool :=
  (bif (decide ((boxes0.length : Int) > (20 : Int))) then some (false) else (impl_in n most1 (0 : Int) (1000000 : Int)).bind fun r1 => (bif (!r1) then some (false) else loopN (fun (x : Int × Int) J' => impl_StackOk_L5 n (fun sum81 => some ((decide (sum81 ≤ most1)))) (fun t82 => some (t82)) (fun sum83 t84 => J' (sum83, t84)) boxes0 most1 x.1 boxes0 (boxes0.length : Int) x.2) n ((0 : Int), (0 : Int))))
def spec_BoxName (n : Nat) (text0 : ByteArray) : Option Bool :=
  (bif (!(decide ((text0.size : Int) = (11 : Int)))) then some (false) else chk (decide ((10 : Int) ≤ (text0.size : Int))) ((spec_CheckDigit n (text0.extract 0 10)).bind fun r3 => (bif (decide (r3 ≥ (0 : Int))) then ix (10 : Int) text0.size (some ((decide ((w64 (byteAt text0 10)) = (w64 ((48 : Int) + r3)))))) else some (false))))
def spec_BoxOk (n : Nat) (b0 : SBox) : Option Bool :=
  (spec_BoxName n b0.Name).bind fun r1 => (bif r1 then (spec_l1In n b0.Weight (1 : Int) (40000 : Int)).bind fun r2 => (bif r2 then (spec_l1In n b0.Class (0 : Int) (9 : Int)).bind fun r3 => (bif r3 then (spec_l1In n b0.From (0 : Int) (19 : Int)).bind fun r4 => (bif r4 then (bd (w64 (b0.From + (1 : Int))) fun (v5 : Int) => (spec_l1In n b0.To v5 (19 : Int)).bind fun r6 => some (r6)) else some (false)) else some (false)) else some (false)) else some (false))
def spec_StackOk_k0 {R : Type} (n : Nat) (kx0 : Int → Option R) (kxr : Bool → Option R) (J : Int → Int → Option R) (boxes1 : List SBox) (most2 : Int) (sum5 : Int) (i6 : Int) : Option R :=
  ix i6 boxes1.length ((bd (boxes1.getD i6.toNat dSBox) fun (e7 : SBox) => (bif (decide ((boxes1.length : Int) > (20 : Int))) then kxr false else (spec_BoxOk n e7).bind fun r11 => (bif (!r11) then kxr false else (bif (decide (i6 > (0 : Int))) then ix (w64 (i6 - (1 : Int))) boxes1.length ((bd (boxes1.getD ((w64 (i6 - (1 : Int))).toNat) dSBox) fun (e15 : SBox) => (bif (decide (e15.Weight < e7.Weight)) then kxr false else (bif e7.Cold then (bif (decide (i6 > (1 : Int))) then kxr false else J (w64 (sum5 + e7.Weight)) (w64 (i6 + (1 : Int)))) else J (w64 (sum5 + e7.Weight)) (w64 (i6 + (1 : Int))))))) else (bif e7.Cold then (bif (decide (i6 > (1 : Int))) then kxr false else J (w64 (sum5 + e7.Weight)) (w64 (i6 + (1 : Int)))) else J (w64 (sum5 + e7.Weight)) (w64 (i6 + (1 : Int)))))))))
def spec_StackOk_L3 {R : Type} (n : Nat) (kx0 : Int → Option R) (kxr : Bool → Option R) (J : Int → Int → Option R) (boxes1 : List SBox) (most2 : Int) (sum3 : Int) (i4 : Int) : Option R :=
  (bif (decide (i4 < (boxes1.length : Int))) then spec_StackOk_k0 n kx0 kxr J boxes1 most2 sum3 i4 else kx0 sum3)
def spec_StackOk (n : Nat) (boxes0 : List SBox) (most1 : Int) : Option Bool :=
  loopN (fun (x : Int × Int) J' => spec_StackOk_L3 n (fun sum68 => (spec_l1In n most1 (0 : Int) (1000000 : Int)).bind fun r69 => (bif r69 then some ((decide (sum68 ≤ most1))) else some (false))) (fun t71 => some (t71)) (fun sum72 i73 => J' (sum72, i73)) boxes0 most1 x.1 x.2) n ((0 : Int), (0 : Int))
def laws_at (n : Nat) (code0 : List Int) (i1 : Int) : Option Int :=
  (bif (decide (i1 < (code0.length : Int))) then ix i1 code0.length (some ((w64 (code0.getD i1.toNat (0 : Int))))) else (bd (w64 ((w64 (i1 * (7 : Int))) + (code0.length : Int))) fun (v3 : Int) => (bd (Int.tmod v3 (256 : Int)) fun (v4 : Int) => some (v4))))
def impl_Lashes_1 (n : Nat) (b0 : SBox) : Option Bool :=
  (impl_BoxOk n b0).bind fun r1 => some ((!r1))
def slices_IndexFunc_impl_Box_impl_Box__impl_Lashes_1_L2 {R : Type} (n : Nat) (kx0 : Option R) (kxr : Int → Option R) (J : Int → Option R) (s1 : List SBox) (t2 : Int) (t3 : Int) : Option R :=
  (bif (decide (t3 < t2)) then ix t3 s1.length ((bd (s1.getD t3.toNat dSBox) fun (e8 : SBox) => (impl_Lashes_1 n e8).bind fun r9 => (bif r9 then kxr t3 else J (w64 (t3 + (1 : Int)))))) else kx0)
def slices_IndexFunc_impl_Box_impl_Box__impl_Lashes_1 (n : Nat) (s0 : List SBox) : Option Int :=
  loopN (fun (x : Int) J' => slices_IndexFunc_impl_Box_impl_Box__impl_Lashes_1_L2 n (some ((-1 : Int))) (fun t11 => some (t11)) J' s0 (s0.length : Int) x) n ((0 : Int))
def slices_ContainsFunc_impl_Box_impl_Box__impl_Lashes_1 (n : Nat) (s0 : List SBox) : Option Bool :=
  (slices_IndexFunc_impl_Box_impl_Box__impl_Lashes_1 n s0).bind fun r1 => some ((decide (r1 ≥ (0 : Int))))
def impl_Lashes_k0 {R : Type} (n : Nat) (kx0 : Int → Option R) (J : Int → Int → Int → Option R) (boxes4 : List SBox) (wind5 : Int) (n11 : Int) (weights12 : Int) (t8 : List SBox) (t9 : Int) (t13 : Int) : Option R :=
  ix t13 t8.length ((bd (t8.getD t13.toNat dSBox) fun (e14 : SBox) => (bd (w64 (weights12 + e14.Weight)) fun (v15 : Int) => (bd (w64 ((100 : Int) * wind5)) fun (v16 : Int) => (bd (w64 ((boxes4.length : Int) - t13)) fun (v17 : Int) => (bd (w64 (Int.tdiv v15 (10 : Int))) fun (v18 : Int) => (bd (w64 ((w64 (v16 * v17)) - v18)) fun (v19 : Int) => (bif (decide (v19 > (0 : Int))) then (bd (w64 (v19 + (499 : Int))) fun (v20 : Int) => (bd (w64 (Int.tdiv v20 (500 : Int))) fun (v21 : Int) => J (w64 (n11 + v21)) v15 (w64 (t13 + (1 : Int))))) else J n11 v15 (w64 (t13 + (1 : Int)))))))))))
def impl_Lashes_L5 {R : Type} (n : Nat) (kx0 : Int → Option R) (J : Int → Int → Int → Option R) (boxes4 : List SBox) (wind5 : Int) (n6 : Int) (weights7 : Int) (t8 : List SBox) (t9 : Int) (t10 : Int) : Option R :=
  (bif (decide (t10 < t9)) then impl_Lashes_k0 n kx0 J boxes4 wind5 n6 weights7 t8 t9 t10 else kx0 n6)
def impl_Lashes_k1 (n : Nat)  (boxes0 : List SBox) (wind1 : Int) (t3 : Bool) : Option (Int × Bool) :=
  (bif t3 then some ((0 : Int), false) else loopN (fun (x : Int × Int × Int) J' => impl_Lashes_L5 n (fun n32 => some (n32, true)) (fun n33 weights34 t35 => J' (n33, weights34, t35)) boxes0 wind1 x.1 x.2.1 boxes0 (boxes0.length : Int) x.2.2) n ((0 : Int), (0 : Int), (0 : Int)))
def impl_Lashes (n : Nat) (boxes0 : List SBox) (wind1 : Int) : Option (Int × Bool) :=
  (bif (decide ((boxes0.length : Int) > (20 : Int))) then some ((0 : Int), false) else (impl_in n wind1 (0 : Int) (100 : Int)).bind fun r1 => (bif (!r1) then some ((0 : Int), false) else (slices_ContainsFunc_impl_Box_impl_Box__impl_Lashes_1 n boxes0).bind fun r2 => impl_Lashes_k1 n  boxes0 wind1 r2))
def spec_Lashes_k0 {R : Type} (n : Nat) (kx0 : Int → Option R) (kxr : Int → Bool → Option R) (J : Int → Int → Int → Option R) (boxes3 : List SBox) (wind4 : Int) (sum13 : Int) (below14 : Int) (k15 : Int) : Option R :=
  ix k15 boxes3.length ((bd (boxes3.getD k15.toNat dSBox) fun (e16 : SBox) => (bd (w64 (below14 + e16.Weight)) fun (v17 : Int) => (bd (w64 ((100 : Int) * wind4)) fun (v18 : Int) => (bd (w64 ((boxes3.length : Int) - k15)) fun (v19 : Int) => (bd (w64 (Int.tdiv v17 (10 : Int))) fun (v20 : Int) => (bd (w64 ((w64 (v18 * v19)) - v20)) fun (v21 : Int) => (bif (decide (v21 > (0 : Int))) then (bd (w64 (v21 + (499 : Int))) fun (v22 : Int) => (bd (w64 (Int.tdiv v22 (500 : Int))) fun (v23 : Int) => J (w64 (sum13 + v23)) v17 (w64 (k15 + (1 : Int))))) else J sum13 v17 (w64 (k15 + (1 : Int)))))))))))
def spec_Lashes_L5 {R : Type} (n : Nat) (kx0 : Int → Option R) (kxr : Int → Bool → Option R) (J : Int → Int → Int → Option R) (boxes3 : List SBox) (wind4 : Int) (sum5 : Int) (below6 : Int) (k7 : Int) : Option R :=
  (bif (decide (k7 < (boxes3.length : Int))) then ix k7 boxes3.length ((bd (boxes3.getD k7.toNat dSBox) fun (e30 : SBox) => (spec_BoxOk n e30).bind fun r31 => (bif (!r31) then kxr (0 : Int) false else spec_Lashes_k0 n kx0 kxr J boxes3 wind4 sum5 below6 k7))) else kx0 sum5)
def spec_Lashes_k1 (n : Nat)  (boxes0 : List SBox) (wind1 : Int) (t2 : Bool) : Option (Int × Bool) :=
  (bif t2 then some ((0 : Int), false) else loopN (fun (x : Int × Int × Int) J' => spec_Lashes_L5 n (fun sum41 => some (sum41, true)) (fun t42 t43 => some (t42, t43)) (fun sum44 below45 k46 => J' (sum44, below45, k46)) boxes0 wind1 x.1 x.2.1 x.2.2) n ((0 : Int), (0 : Int), (0 : Int)))
def spec_Lashes (n : Nat) (boxes0 : List SBox) (wind1 : Int) : Option (Int × Bool) :=
  (bif (decide ((boxes0.length : Int) > (20 : Int))) then some ((0 : Int), false) else (spec_l1In n wind1 (0 : Int) (100 : Int)).bind fun r1 => spec_Lashes_k1 n  boxes0 wind1 (!r1))
def laws_FnStacks_k0 (n : Nat)  (code0 : List Int) (t10 : List SBox) : Option Bool :=
  (laws_at n code0 (1 : Int)).bind fun r11 => (bd (Int.tmod r11 (60 : Int)) fun (v12 : Int) => (impl_Lashes n t10 v12).bind fun r13 => (laws_at n code0 (1 : Int)).bind fun r14 => (bd (Int.tmod r14 (60 : Int)) fun (v15 : Int) => (laws_at n code0 (2 : Int)).bind fun r16 => (bd (Int.tmod r16 (40 : Int)) fun (v17 : Int) => (impl_Lashes n t10 (w64 (v15 + v17))).bind fun r18 => (impl_Lashes n t10 (0 : Int)).bind fun r19 => (impl_Lashes n [(⟨str [67, 83, 81, 85, 51, 48, 53, 52, 51, 56, 51], (10 : Int), (0 : Int), false, (0 : Int), (1 : Int)⟩ : SBox)] (10 : Int)).bind fun r20 => (spec_Lashes n t10 (1 : Int)).bind fun r21 => (bif (!r21.2) then (bif (!r13.2) then some ((!r18.2)) else some (false)) else (bif r13.2 then (bif r18.2 then (bif (decide (r13.1 ≤ r18.1)) then (bif (decide (r19.1 = (0 : Int))) then some ((decide (r20.1 = (2 : Int)))) else some (false)) else some (false)) else some (false)) else some (false))))))
def laws_FnStacks_k1 (n : Nat)  (code0 : List Int) : Option Bool :=
  (spec_DrawStackOk n code0).bind fun r2 => (impl_StackOk n r2.1 r2.2).bind fun r3 => (spec_StackOk n r2.1 r2.2).bind fun r4 => (bif (!(r3 == r4)) then some (false) else (bif r3 then (bif (decide ((r2.1.length : Int) > (0 : Int))) then (bd (w64 ((r2.1.length : Int) - (1 : Int))) fun (v6 : Int) => chk (decide ((0 : Int) ≤ v6)) (chk (decide (v6 ≤ (r2.1.length : Int))) (chk (decide ((0 + (v6.toNat - 0)) ≤ r2.1.length)) ((impl_StackOk n ((r2.1.drop 0).take (v6.toNat - 0)) r2.2).bind fun r7 => (bif (!r7) then some (false) else laws_FnStacks_k0 n  code0 r2.1))))) else laws_FnStacks_k0 n  code0 r2.1) else laws_FnStacks_k0 n  code0 r2.1))
def laws_FnStacks (n : Nat) (code0 : List Int) : Option Bool :=
  (laws_big n code0).bind fun r1 => (bif r1 then some (true) else laws_FnStacks_k1 n  code0)
def rng (a b x : Int) : Prop := a ≤ x ∧ x ≤ b
def wfSBox (x : SBox) : Prop := x.Name.size ≤ 9223372036854775807 ∧ rng (-9223372036854775808) 9223372036854775807 x.Weight ∧ rng (-9223372036854775808) 9223372036854775807 x.Class ∧ True ∧ rng (-9223372036854775808) 9223372036854775807 x.From ∧ rng (-9223372036854775808) 9223372036854775807 x.To
def wfSl1Cur (x : Sl1Cur) : Prop := (x.b.length ≤ 9223372036854775807 ∧ ∀ y ∈ x.b, rng 0 255 y) ∧ rng (-9223372036854775808) 9223372036854775807 x.i ∧ rng (-9223372036854775808) 9223372036854775807 x.h
end Go.Sm
end

section
set_option linter.unusedSimpArgs false
set_option linter.deprecated false
set_option linter.unusedSectionVars false
set_option linter.unusedVariables false
namespace Go.Sm
/-! ### Of the words that printed functions are made of -/
theorem w64_id {x : Int} (h1 : -9223372036854775808 ≤ x) (h2 : x ≤ 9223372036854775807) : w64 x = x := by
  show (let m := x % (2 ^ 64 : Int); if (true && decide ((2 : Int) ^ 63 ≤ m)) = true then m - 2 ^ 64 else m) = x
  simp only [Bool.true_and, decide_eq_true_eq]
  split <;> omega
theorem w64_rng (x : Int) : -9223372036854775808 ≤ w64 x ∧ w64 x ≤ 9223372036854775807 := by
  show -9223372036854775808 ≤ (let m := x % (2 ^ 64 : Int); if (true && decide ((2 : Int) ^ 63 ≤ m)) = true then m - 2 ^ 64 else m) ∧ (let m := x % (2 ^ 64 : Int); if (true && decide ((2 : Int) ^ 63 ≤ m)) = true then m - 2 ^ 64 else m) ≤ 9223372036854775807
  simp only [Bool.true_and, decide_eq_true_eq]
  split <;> omega
theorem chk_of {R : Type} {b : Bool} {x : Option R} (h : b = true) : chk b x = x := by rw [h]; rfl
theorem chk_true {R : Type} {x : Option R} : chk true x = x := rfl
theorem chk_dec {R : Type} {p : Prop} [Decidable p] {x : Option R} (h : p) : chk (decide p) x = x := chk_of (decide_eq_true h)
theorem ix_of {R : Type} {i : Int} {len : Nat} {x : Option R} (h0 : 0 ≤ i) (h1 : i < (len : Int)) : ix i len x = x := by
  unfold ix
  rw [decide_eq_true h0, decide_eq_true h1]
  rfl
theorem ix_nat {R : Type} {i len : Nat} {x : Option R} (h1 : i < len) : ix (i : Int) len x = x := ix_of (by omega) (by omega)
theorem bif_dec {α : Type} {p : Prop} [Decidable p] {x y : α} : (bif decide p then x else y) = if p then x else y := by
  by_cases h : p <;> simp [h]
theorem bif_not {α : Type} {b : Bool} {x y : α} : (bif !b then x else y) = bif b then y else x := by cases b <;> rfl
theorem bif_and {α : Type} {a b : Bool} {x y : α} : (bif a && b then x else y) = bif a then (bif b then x else y) else y := by cases a <;> rfl
theorem loopN_succ {X R : Type} (b : X → (X → Option R) → Option R) (m : Nat) (x : X) : loopN b (m + 1) x = b x (loopN b m) := rfl
/-- What holds of a loop: by what is left to go. -/
theorem loopN_ind {X R : Type} {b : X → (X → Option R) → Option R} (μ : X → Nat) (I : X → Prop) (Q : X → Option R → Prop)
    (h : ∀ x J, I x → (∀ y, I y → μ y < μ x → Q y (J y)) → Q x (b x J)) : ∀ n x, I x → μ x < n → Q x (loopN b n x)
  | 0, x, hi, hm => absurd hm (Nat.not_lt_zero _)
  | n + 1, x, hi, hm => h x (loopN b n) hi fun y hy hl => loopN_ind μ I Q h n y hy (by omega)
theorem getD_eq {α : Type} {l : List α} {i : Nat} {d : α} (h : i < l.length) : l.getD i d = l[i] := by
  simp [List.getD, h]
theorem w64_succ {k : Nat} (h : k < 9223372036854775807) : w64 ((k : Int) + 1) = ((k + 1 : Nat) : Int) := by
  rw [w64_id (by omega) (by omega)]
  rfl
theorem take_succ_getD {α : Type} {l : List α} {i : Nat} {d : α} (h : i < l.length) : l.take (i + 1) = l.take i ++ [l.getD i d] := by
  rw [List.take_succ, getD_eq h, List.getElem?_eq_getElem h]
  rfl
theorem drop_getD {α : Type} {l : List α} {i : Nat} {d : α} (h : i < l.length) : l.drop i = l.getD i d :: l.drop (i + 1) := by
  rw [getD_eq h]
  exact List.drop_eq_getElem_cons h
theorem bd_eq {α β : Type} (e : α) (f : α → β) : bd e f = f e := rfl
theorem bd_set {α β : Type} {Q : β → Prop} {F : List α → β} {p : List α} {i : Nat} {x : α} (h : ∀ l : List α, l.length = p.length → Q (F l)) : Q (bd (p.set i x) F) := h _ (by simp)
theorem bd_is {α β : Type} {Q : β → Prop} {F : α → β} {e : α} (h : ∀ v : α, v = e → Q (F v)) : Q (bd e F) := h _ rfl
theorem bd_val {α β : Type} {Q : β → Prop} {F : α → β} {e : α} (h : ∀ v : α, Q (F v)) : Q (bd e F) := h _
theorem chk_q {R : Type} {Q : Option R → Prop} {b : Bool} {x : Option R} (h : b = true) (hx : Q x) : Q (chk b x) := by rw [chk_of h]; exact hx
theorem ix_q {R : Type} {Q : Option R → Prop} {i : Int} {len : Nat} {x : Option R} (h0 : 0 ≤ i) (h1 : i < (len : Int)) (hx : Q x) : Q (ix i len x) := by rw [ix_of h0 h1]; exact hx
theorem bd_upd {α β : Type} {Q : β → Prop} {F : List α → β} {p : List α} {i : Nat} {x d : α} (hi : i < p.length) (h : ∀ l : List α, l.length = p.length → l.getD i d = x → (∀ j, j ≠ i → l.getD j d = p.getD j d) → Q (F l)) : Q (bd (p.set i x) F) :=
  h _ (by simp) (by simp [List.getD, hi]) (fun j hj => by simp [List.getD, List.getElem?_set, Ne.symm hj])
/-- A list written from the front. -/
theorem set_take {α : Type} {a : List α} {d : α} {m k : Nat} (h : k < a.length) (hm : m = a.length := by rfl) : (a.take k ++ (List.replicate m d).drop k).set k (a.getD k d) = a.take (k + 1) ++ (List.replicate m d).drop (k + 1) := by
  subst hm
  have h1 : (a.take k).length = k := by simp; omega
  rw [List.set_append_right _ _ (by omega), h1, Nat.sub_self, take_succ_getD h, List.append_assoc]
  congr 1
  rw [List.drop_eq_getElem_cons (by simp; exact h)]
  rfl
/-! ### Loops over 0 .. len, by what is left -/
/-- Steps k, k+1, .. told one after the other; J: what comes behind a step. -/
def forK {S R : Type} (step : Nat → S → (S → Option R) → Option R) (fin : S → Option R) : Nat → Nat → S → Option R
  | 0, _, s => fin s
  | m + 1, k, s => step k s fun s' => forK step fin m (k + 1) s'
theorem loop_forK {X S R : Type} {b : X → (X → Option R) → Option R} {enc : Nat → S → X} {len : Nat} {step : Nat → S → (S → Option R) → Option R} {fin : S → Option R} (I : Nat → S → Prop)
    (hstep : ∀ k s J J', k < len → I k s → (∀ s', I (k + 1) s' → J (enc (k + 1) s') = J' s') → b (enc k s) J = step k s J') (hfin : ∀ s J, I len s → b (enc len s) J = fin s) :
    ∀ m k s n, k + m = len → m < n → I k s → loopN b n (enc k s) = forK step fin m k s
  | 0, k, s, 0, _, h, _ => absurd h (Nat.lt_irrefl _)
  | 0, k, s, n + 1, hk, _, hi => by
    have hk : k = len := by omega
    subst hk
    exact hfin s _ hi
  | m + 1, k, s, 0, _, h, _ => absurd h (Nat.not_lt_zero _)
  | m + 1, k, s, n + 1, hk, hn, hi => by
    show b (enc k s) (loopN b n) = step k s fun s' => forK step fin m (k + 1) s'
    exact hstep k s _ _ (by omega) hi fun s' hi' => loop_forK I hstep hfin m (k + 1) s' n (by omega) (by omega) hi'
/-- The first k at which f answers; at none: z. -/
def scanK {R : Type} (f : Nat → Option (Option R)) (z : Option R) : Nat → Nat → Option R
  | 0, _ => z
  | m + 1, k => match f k with
    | some r => r
    | none => scanK f z m (k + 1)
theorem loop_scan {X R : Type} {b : X → (X → Option R) → Option R} {enc : Nat → X} {len : Nat} {f : Nat → Option (Option R)} {z : Option R}
    (hstep : ∀ k J, k < len → b (enc k) J = match f k with | some r => r | none => J (enc (k + 1))) (hfin : ∀ J, b (enc len) J = z) :
    ∀ m k n, k + m = len → m < n → loopN b n (enc k) = scanK f z m k
  | 0, k, 0, _, h => absurd h (Nat.lt_irrefl _)
  | 0, k, n + 1, hk, _ => by
    have hk : k = len := by omega
    subst hk
    exact hfin _
  | m + 1, k, 0, _, h => absurd h (Nat.not_lt_zero _)
  | m + 1, k, n + 1, hk, hn => by
    show b (enc k) (loopN b n) = _
    rw [hstep k _ (by omega)]
    unfold scanK
    cases f k with
    | some r => rfl
    | none => exact loop_scan hstep hfin m (k + 1) n (by omega) (by omega)
/-- Is p so of all of k, .. k + m - 1? -/
theorem scan_all {R : Type} {p : Nat → Bool} {r z : Option R} : ∀ m k, scanK (fun k => bif p k then none else some r) z m k = bif (List.range' k m).all p then z else r
  | 0, k => rfl
  | m + 1, k => by
    rw [scanK, List.range'_succ, List.all_cons]
    cases h : p k with
    | true => simp only [cond_true, Bool.true_and]; exact scan_all m (k + 1)
    | false => rfl
theorem scan_any {R : Type} {p : Nat → Bool} {r z : Option R} : ∀ m k, scanK (fun k => bif p k then some r else none) z m k = bif (List.range' k m).any p then r else z
  | 0, k => rfl
  | m + 1, k => by
    rw [scanK, List.range'_succ, List.any_cons]
    cases h : p k with
    | false => simp only [cond_false, Bool.false_or]; exact scan_any m (k + 1)
    | true => rfl
theorem mgetI_mputI {β : Type} (l : List (Int × β)) (n m : Int) (v : β) : mgetI (mputI l n v) m = if m = n then some v else mgetI l m := by
  unfold mgetI mputI
  induction l with
  | nil =>
    by_cases h : m = n <;> simp [h]
  | cons a l ih =>
    rw [List.findIdx?_cons]
    by_cases h : n = a.1
    · simp only [h, decide_true, if_true, Option.elim_some, List.set_cons_zero, List.find?_cons]
      by_cases h2 : m = a.1
      · simp [h2]
      · simp [h2]
    · simp only [h, decide_false, Bool.false_eq_true, if_false]
      cases hf : l.findIdx? (fun e => decide (n = e.1)) with
      | none =>
        rw [hf] at ih
        simp only [Option.elim_none] at ih
        simp only [Option.map_none, Option.elim_none, List.cons_append, List.find?_cons]
        by_cases h2 : m = a.1
        · have : m ≠ n := fun e => h (e ▸ h2)
          simp [h2]
          simp [h2] at this
          simp [this]
        · simp only [h2, decide_false]
          exact ih
      | some i =>
        rw [hf] at ih
        simp only [Option.elim_some] at ih
        simp only [Option.map_some, Option.elim_some, List.set_cons_succ, List.find?_cons]
        by_cases h2 : m = a.1
        · have : m ≠ n := fun e => h (e ▸ h2)
          simp [h2]
          simp [h2] at this
          simp [this]
        · simp only [h2, decide_false]
          exact ih
theorem mgetI_nil {β : Type} (m : Int) : mgetI ([] : List (Int × β)) m = none := rfl
/-! ### Chains of tests -/
theorem bif_and' {α : Type} {a b : Bool} {x y : α} : (bif a then (bif b then x else y) else y) = bif a && b then x else y := by cases a <;> rfl
theorem bif_or' {α : Type} {a b : Bool} {x y : α} : (bif a then y else (bif b then x else y)) = bif !a && b then x else y := by cases a <;> rfl
theorem bif_and2 {α : Type} {a b : Bool} {x y : α} : (bif a then (bif b then y else x) else y) = bif a && !b then x else y := by cases a <;> cases b <;> rfl
theorem bif_or2 {α : Type} {a b : Bool} {x y : α} : (bif a then y else (bif b then y else x)) = bif !a && !b then x else y := by cases a <;> cases b <;> rfl
theorem bif_some {α β : Type} {a : Bool} {x y : α} {f : α → Option β} : (bif a then some x else some y).bind f = bif a then f x else f y := by cases a <;> rfl
theorem bif_tf {a : Bool} : (bif a then some true else some false) = some a := by cases a <;> rfl
theorem bif_ft {a : Bool} : (bif a then some false else some true) = some (!a) := by cases a <;> rfl
theorem bif_sf {a b : Bool} : (bif a then some b else some false) = some (a && b) := by cases a <;> rfl
theorem all_range_succ {p : Nat → Bool} {k : Nat} : (List.range (k + 1)).all p = ((List.range k).all p && p k) := by
  rw [List.range_succ, List.all_append]
  simp
theorem any_range_succ {p : Nat → Bool} {k : Nat} : (List.range (k + 1)).any p = ((List.range k).any p || p k) := by
  rw [List.range_succ, List.any_append]
  simp
theorem all_range_not {p : Nat → Bool} {k m : Nat} (hk : k < m) (h : p k = false) : (List.range m).all p = false := by
  rw [Bool.eq_false_iff]
  intro e
  rw [List.all_eq_true] at e
  rw [e k (List.mem_range.2 hk)] at h
  cases h
theorem any_range_of {p : Nat → Bool} {k m : Nat} (hk : k < m) (h : p k = true) : (List.range m).any p = true := by
  rw [List.any_eq_true]
  exact ⟨k, List.mem_range.2 hk, h⟩
/-- A loop that looks at k = 0, 1, .. and leaves at the first that is not so. -/
theorem loop_all {R : Type} {b : Int → (Int → Option R) → Option R} {len : Nat} {p : Nat → Bool} {no yes : Option R} (hlen : len ≤ 9223372036854775807)
    (hstep : ∀ (k : Nat) (J : Int → Option R), k < len → (∀ j, j < k → p j = true) → b (k : Int) J = bif p k then J ((k + 1 : Nat) : Int) else no) (hfin : ∀ J, (∀ j, j < len → p j = true) → b (len : Int) J = yes) {n : Nat} (hn : len < n) :
    loopN b n (0 : Int) = bif (List.range len).all p then yes else no := by
  refine loopN_ind (fun x => len - x.toNat) (fun x => ∃ k : Nat, k ≤ len ∧ x = (k : Int) ∧ (List.range k).all p = true) (fun x r => r = bif (List.range len).all p then yes else no) ?_ n _ ⟨0, by omega, rfl, rfl⟩ (by simp; omega)
  rintro _ J ⟨k, hk, rfl, hb⟩ ih
  have hb' : ∀ j, j < k → p j = true := fun j hj => List.all_eq_true.1 hb j (List.mem_range.2 hj)
  by_cases h : k < len
  · rw [hstep k J h hb']
    cases hp : p k with
    | true => exact ih _ ⟨k + 1, h, rfl, by rw [all_range_succ, hb, hp]; rfl⟩ (by simp; omega)
    | false => rw [all_range_not h hp]; rfl
  · have : k = len := by omega
    subst this
    rw [hfin _ hb', hb]
    rfl
/-- The same, a state turned on the way (its invariant: I). -/
theorem loop_allS {S R : Type} {X : Type} {enc : Int → S → X} {b : X → (X → Option R) → Option R} {len : Nat} {p : Nat → Bool} {I : Nat → S → Prop} {no yes : Option R}
    (hstep : ∀ (k : Nat) (s : S) (J : X → Option R), k < len → I k s → (∀ j, j < k → p j = true) → ∃ s', (p k = true → I (k + 1) s') ∧ b (enc (k : Int) s) J = bif p k then J (enc ((k + 1 : Nat) : Int) s') else no) (hfin : ∀ s J, I len s → (∀ j, j < len → p j = true) → b (enc (len : Int) s) J = yes) {n : Nat} (hn : len < n) {s0 : S} (h0 : I 0 s0) :
    loopN b n (enc (0 : Int) s0) = bif (List.range len).all p then yes else no := by
  have key : ∀ m (k : Nat) (s : S) n, k + m = len → m < n → I k s → (List.range k).all p = true → loopN b n (enc (k : Int) s) = bif (List.range len).all p then yes else no := by
    intro m
    induction m with
    | zero =>
      intro k s n hk hn hi hb
      have hb' : ∀ j, j < k → p j = true := fun j hj => List.all_eq_true.1 hb j (List.mem_range.2 hj)
      have hk : k = len := by omega
      subst hk
      cases n with
      | zero => omega
      | succ n => rw [loopN_succ, hfin s _ hi hb', hb]; rfl
    | succ m ih =>
      intro k s n hk hn hi hb
      have hb' : ∀ j, j < k → p j = true := fun j hj => List.all_eq_true.1 hb j (List.mem_range.2 hj)
      cases n with
      | zero => omega
      | succ n =>
        rw [loopN_succ]
        obtain ⟨s', h1, h2⟩ := hstep k s (loopN b n) (by omega) hi hb'
        rw [h2]
        cases hp : p k with
        | true => exact ih (k + 1) s' n (by omega) (by omega) (h1 hp) (by rw [all_range_succ, hb, hp]; rfl)
        | false => rw [all_range_not (by omega : k < len) hp]; rfl
  exact key len 0 s0 n (by omega) hn h0 rfl
/-- A loop over 0 .. len that never leaves early; its state: I. -/
theorem loop_runS {S R : Type} {X : Type} {enc : Int → S → X} {b : X → (X → Option R) → Option R} {len : Nat} {I : Nat → S → Prop} {Q : Option R → Prop}
    (hstep : ∀ (k : Nat) (s : S) (J : X → Option R), k < len → I k s → ∃ s', I (k + 1) s' ∧ b (enc (k : Int) s) J = J (enc ((k + 1 : Nat) : Int) s')) (hfin : ∀ s J, I len s → Q (b (enc (len : Int) s) J)) {n : Nat} (hn : len < n) {s0 : S} (h0 : I 0 s0) :
    Q (loopN b n (enc (0 : Int) s0)) := by
  have key : ∀ m (k : Nat) (s : S) n, k + m = len → m < n → I k s → Q (loopN b n (enc (k : Int) s)) := by
    intro m
    induction m with
    | zero =>
      intro k s n hk hn hi
      have hk : k = len := by omega
      subst hk
      cases n with
      | zero => omega
      | succ n => rw [loopN_succ]; exact hfin s _ hi
    | succ m ih =>
      intro k s n hk hn hi
      cases n with
      | zero => omega
      | succ n =>
        rw [loopN_succ]
        obtain ⟨s', h1, h2⟩ := hstep k s (loopN b n) (by omega) hi
        rw [h2]
        exact ih (k + 1) s' n (by omega) (by omega) h1
  exact key len 0 s0 n (by omega) hn h0
/-! ### Sums over lists -/
def sumOf {α : Type} (f : α → Nat) : List α → Nat
  | [] => 0
  | a :: l => f a + sumOf f l
theorem sumOf_append {α : Type} (f : α → Nat) : ∀ a b : List α, sumOf f (a ++ b) = sumOf f a + sumOf f b
  | [], b => by simp [sumOf]
  | x :: a, b => by simp only [List.cons_append, sumOf, sumOf_append f a b]; omega
theorem sumOf_take_succ {α : Type} {f : α → Nat} {l : List α} {k : Nat} {d : α} (h : k < l.length) : sumOf f (l.take (k + 1)) = sumOf f (l.take k) + f (l.getD k d) := by
  rw [take_succ_getD (d := d) h, sumOf_append]
  simp [sumOf]
theorem sumOf_take_le {α : Type} (f : α → Nat) (l : List α) (k : Nat) : sumOf f (l.take k) ≤ sumOf f l := by
  have := sumOf_append f (l.take k) (l.drop k)
  rw [List.take_append_drop] at this
  omega
theorem sumOf_mem {α : Type} {f : α → Nat} {l : List α} {k : Nat} {d : α} (h : k < l.length) : f (l.getD k d) ≤ sumOf f l := by
  have h1 := sumOf_take_succ (f := f) (d := d) h
  have h2 := sumOf_take_le f l (k + 1)
  omega
theorem sumOf_lin {α : Type} {f g : α → Nat} {c s : Nat} (h : ∀ y, f y ≤ c * g y + s) : ∀ l : List α, sumOf f l ≤ c * sumOf g l + s * l.length
  | [] => by simp [sumOf]
  | a :: l => by
    have h1 := h a
    have h2 := sumOf_lin h l
    simp only [sumOf, List.length_cons, Nat.mul_add, Nat.mul_succ]
    omega
theorem sumOf_const {α : Type} (c : Nat) : ∀ l : List α, sumOf (fun _ => c) l = c * l.length
  | [] => by simp [sumOf]
  | a :: l => by simp only [sumOf, sumOf_const c l, List.length_cons, Nat.mul_succ]; omega
theorem getD_set {α : Type} {l : List α} {k : Nat} {x d : α} (h : k < l.length) : (l.set k x).getD k d = x := by simp [List.getD, h]
theorem getD_set_ne {α : Type} {l : List α} {k j : Nat} {x d : α} (h : j ≠ k) : (l.set k x).getD j d = l.getD j d := by simp [List.getD, List.getElem?_set, Ne.symm h]
theorem getD_mem {α : Type} {l : List α} {k : Nat} {d : α} (h : k < l.length) : l.getD k d ∈ l := by rw [getD_eq h]; exact List.getElem_mem h
theorem take_drop_set {α : Type} {a : List α} {d : α} {m k : Nat} {x : α} (h : k < a.length) (hm : m = a.length) (hx : x = a.getD k d) : (a.take k ++ (List.replicate m d).drop k).set k x = a.take (k + 1) ++ (List.replicate m d).drop (k + 1) := by
  subst hx
  exact set_take h hm
/-! ### The first that is so -/
def idxOf (p : Nat → Bool) (m : Nat) : Int := match (List.range m).find? p with
  | some k => (k : Int)
  | none => -1
theorem find_range_none {p : Nat → Bool} {m : Nat} (h : ∀ j, j < m → p j = false) : (List.range m).find? p = none := by
  rw [List.find?_eq_none]
  intro x hx
  rw [h x (List.mem_range.1 hx)]
  simp
theorem find_range_some {p : Nat → Bool} {m k : Nat} (hk : k < m) (hp : p k = true) (h : ∀ j, j < k → p j = false) : (List.range m).find? p = some k := by
  have e : m = k + (m - k) := by omega
  rw [e, List.range_add, List.find?_append, find_range_none h, Option.none_or]
  obtain ⟨r, hr⟩ : ∃ r, m - k = r + 1 := ⟨m - k - 1, by omega⟩
  rw [hr, List.range_succ_eq_map]
  simp [hp]
theorem idxOf_ge (p : Nat → Bool) (m : Nat) : decide (idxOf p m ≥ 0) = (List.range m).any p := by
  unfold idxOf
  cases h : (List.range m).find? p with
  | none =>
    rw [List.find?_eq_none] at h
    rw [show (List.range m).any p = false from by rw [List.any_eq_false]; exact h]
    rfl
  | some k =>
    have h1 := List.find?_some h
    rw [show (List.range m).any p = true from List.any_eq_true.2 ⟨k, List.mem_of_find?_eq_some h, h1⟩]
    exact decide_eq_true (by show (0 : Int) ≤ (k : Int); omega)
theorem idxOf_lt (p : Nat → Bool) (m : Nat) : decide (idxOf p m < 0) = !(List.range m).any p := by
  rw [← idxOf_ge]
  by_cases h : idxOf p m < 0
  · rw [decide_eq_true h, decide_eq_false (by omega)]; rfl
  · rw [decide_eq_false h, decide_eq_true (by omega)]; rfl
theorem find_range (p : Nat → Bool) : ∀ m, ((List.range m).find? p = none ∧ ∀ j, j < m → p j = false) ∨ ∃ k, (List.range m).find? p = some k ∧ k < m ∧ p k = true ∧ ∀ j, j < k → p j = false
  | 0 => .inl ⟨rfl, fun j hj => absurd hj (Nat.not_lt_zero _)⟩
  | m + 1 => by
    rcases find_range p m with ⟨h1, h2⟩ | ⟨k, h1, h2, h3, h4⟩
    · cases hp : p m with
      | true => exact .inr ⟨m, find_range_some (by omega) hp h2, by omega, hp, h2⟩
      | false =>
        have : ∀ j, j < m + 1 → p j = false := fun j hj => by
          by_cases e : j = m
          · rw [e]; exact hp
          · exact h2 j (by omega)
        exact .inl ⟨find_range_none this, this⟩
    · exact .inr ⟨k, find_range_some (by omega) h3 h4, by omega, h3, h4⟩
theorem idxOf_spec (p : Nat → Bool) (m : Nat) : (idxOf p m = -1 ∧ ∀ j, j < m → p j = false) ∨ ∃ k : Nat, idxOf p m = (k : Int) ∧ k < m ∧ p k = true ∧ ∀ j, j < k → p j = false := by
  unfold idxOf
  rcases find_range p m with ⟨h1, h2⟩ | ⟨k, h1, h2, h3, h4⟩
  · rw [h1]; exact .inl ⟨rfl, h2⟩
  · rw [h1]; exact .inr ⟨k, rfl, h2, h3, h4⟩
/-- A loop that looks at k = 0, 1, .. and leaves at the first that is so. -/
theorem loop_find {R : Type} {b : Int → (Int → Option R) → Option R} {len : Nat} {p : Nat → Bool} {yes : Nat → Option R} {no : Option R} (hlen : len ≤ 9223372036854775807)
    (hstep : ∀ (k : Nat) (J : Int → Option R), k < len → (∀ j, j < k → p j = false) → b (k : Int) J = bif p k then yes k else J ((k + 1 : Nat) : Int)) (hfin : ∀ J, (∀ j, j < len → p j = false) → b (len : Int) J = no) {n : Nat} (hn : len < n) :
    loopN b n (0 : Int) = match (List.range len).find? p with | some k => yes k | none => no := by
  refine loopN_ind (fun x => len - x.toNat) (fun x => ∃ k : Nat, k ≤ len ∧ x = (k : Int) ∧ ∀ j, j < k → p j = false) (fun x r => r = match (List.range len).find? p with | some k => yes k | none => no) ?_ n _ ⟨0, by omega, rfl, fun j hj => absurd hj (Nat.not_lt_zero _)⟩ (by simp; omega)
  rintro _ J ⟨k, hk, rfl, hb⟩ ih
  by_cases h : k < len
  · rw [hstep k J h hb]
    cases hp : p k with
    | false => exact ih _ ⟨k + 1, h, rfl, fun j hj => by
        by_cases e : j = k
        · rw [e]; exact hp
        · exact hb j (by omega)⟩ (by simp; omega)
    | true => rw [find_range_some h hp hb]; rfl
  · have : k = len := by omega
    subst this
    rw [hfin _ hb, find_range_none hb]
theorem loop_idx {b : Int → (Int → Option Int) → Option Int} {len : Nat} {p : Nat → Bool} (hlen : len ≤ 9223372036854775807)
    (hstep : ∀ (k : Nat) (J : Int → Option Int), k < len → (∀ j, j < k → p j = false) → b (k : Int) J = bif p k then some (k : Int) else J ((k + 1 : Nat) : Int)) (hfin : ∀ J, (∀ j, j < len → p j = false) → b (len : Int) J = some (-1)) {n : Nat} (hn : len < n) :
    loopN b n (0 : Int) = some (idxOf p len) := by
  rw [loop_find (yes := fun k => some (k : Int)) (no := some (-1)) hlen hstep hfin hn]
  unfold idxOf
  cases (List.range len).find? p <;> rfl
theorem byteAt_rng (s : ByteArray) (k : Nat) : 0 ≤ byteAt s k ∧ byteAt s k ≤ 255 := by
  unfold byteAt
  have := (s.data.getD k 0).toNat_lt
  omega
theorem range_any {α : Type} {l : List α} {d : α} {f : α → Bool} : (List.range l.length).any (fun k => f (l.getD k d)) = l.any f := by
  induction l with
  | nil => rfl
  | cons a l ih =>
    rw [List.length_cons, List.range_succ_eq_map, List.any_cons, List.any_map, List.any_cons, ← ih]
    rfl
theorem range_all {α : Type} {l : List α} {d : α} {f : α → Bool} : (List.range l.length).all (fun k => f (l.getD k d)) = l.all f := by
  induction l with
  | nil => rfl
  | cons a l ih =>
    rw [List.length_cons, List.range_succ_eq_map, List.all_cons, List.all_map, List.all_cons, ← ih]
    rfl
theorem all_congr_lt {p q : Nat → Bool} {m : Nat} (h : ∀ k, k < m → p k = q k) : (List.range m).all p = (List.range m).all q := by
  rw [Bool.eq_iff_iff, List.all_eq_true, List.all_eq_true]
  constructor
  · intro g x hx; rw [← h x (List.mem_range.1 hx)]; exact g x hx
  · intro g x hx; rw [h x (List.mem_range.1 hx)]; exact g x hx
theorem any_congr_lt {p q : Nat → Bool} {m : Nat} (h : ∀ k, k < m → p k = q k) : (List.range m).any p = (List.range m).any q := by
  rw [Bool.eq_iff_iff, List.any_eq_true, List.any_eq_true]
  constructor
  · rintro ⟨x, hx, g⟩; exact ⟨x, hx, by rw [← h x (List.mem_range.1 hx)]; exact g⟩
  · rintro ⟨x, hx, g⟩; exact ⟨x, hx, by rw [h x (List.mem_range.1 hx)]; exact g⟩
theorem guard_sz {w : Nat} {x : Option Bool} (h : w ≤ 1048576 → x = some true) : (bif decide ((if (w : Int) ≤ 1048576 then 1048576 - (w : Int) else -1) < 0) then some true else x) = some true := by
  by_cases c : (w : Int) ≤ 1048576
  · rw [if_pos c, decide_eq_false (by omega), cond_false]
    exact h (by omega)
  · rw [if_neg c]
    rfl
end Go.Sm
end

section
set_option linter.unusedSimpArgs false
set_option linter.deprecated false
set_option linter.unusedSectionVars false
set_option linter.unusedVariables false
set_option linter.unusedSimpArgs false
namespace Go.Sm
attribute [local irreducible] bd chk ix loopN
end Go.Sm
end

section
set_option linter.unusedSimpArgs false
set_option linter.deprecated false
set_option linter.unusedSectionVars false
set_option linter.unusedVariables false
set_option linter.unusedSimpArgs false
namespace Go.Sm
attribute [local irreducible] bd chk ix loopN
/-! ### Draws -/
structure CurOk (c : Sl1Cur) : Prop where
  i : 0 ≤ c.i ∧ c.i ≤ (c.b.length : Int)
  len : c.b.length ≤ 1048576
theorem and255 (v : Int) : 0 ≤ w64 (((BitVec.ofInt 64 v &&& BitVec.ofInt 64 (255 : Int)).toNat : Nat) : Int) ∧ w64 (((BitVec.ofInt 64 v &&& BitVec.ofInt 64 (255 : Int)).toNat : Nat) : Int) ≤ 255 := by
  have h : (BitVec.ofInt 64 v &&& BitVec.ofInt 64 (255 : Int)).toNat ≤ 255 := by
    rw [BitVec.toNat_and]
    exact Nat.and_le_right
  rw [w64_id (by omega) (by omega)]
  omega
theorem byte_ok {n : Nat} {c : Sl1Cur} (h : CurOk c) : ∃ v c', spec_l1Byte n c = some (v, c') ∧ (0 ≤ v ∧ v ≤ 255) ∧ CurOk c' := by
  have h1 := h.i
  have h2 := h.len
  unfold spec_l1Byte
  simp only [bd_eq]
  by_cases hc : c.i < (c.b.length : Int)
  · rw [decide_eq_true hc, cond_true, ix_of h1.1 hc]
    refine ⟨_, _, rfl, and255 _, ⟨?_, h2⟩⟩
    show 0 ≤ w64 (c.i + 1) ∧ w64 (c.i + 1) ≤ (c.b.length : Int)
    rw [w64_id (by omega) (by omega)]
    omega
  · rw [decide_eq_false hc, cond_false]
    exact ⟨_, _, rfl, and255 _, ⟨h1, h2⟩⟩
theorem below_ok {n : Nat} {c : Sl1Cur} (h : CurOk c) {m : Int} (hm : 1 ≤ m ∧ m ≤ 256) : ∃ v c', spec_l1Below n c m = some (v, c') ∧ (0 ≤ v ∧ v < m) ∧ CurOk c' := by
  obtain ⟨v, c', h1, h2, h3⟩ := byte_ok (n := n) h
  unfold spec_l1Below
  rw [decide_eq_false (show ¬ m ≤ 0 by omega), cond_false, decide_eq_true (show m ≤ 256 by omega), cond_true, h1, Option.bind_some, decide_eq_false (show ¬ m = 0 by omega), cond_false]
  exact ⟨_, _, rfl, ⟨Int.tmod_nonneg _ h2.1, Int.tmod_lt_of_pos _ (by omega)⟩, h3⟩
theorem new_ok {n : Nat} (code : List Int) (hc : code.length ≤ 1048576) (hn : 1000000000 < n) : ∃ c, spec_l1New n code = some c ∧ CurOk c := by
  have hw : w64 ((59059 : Int) + (code.length : Int)) = 59059 + (code.length : Int) := w64_id (by omega) (by omega)
  unfold spec_l1New
  rw [bd_eq]
  have key : ∀ m k h fu, k + m = code.length → m < fu → ∃ c, loopN (fun (x : Int × Int) J' => spec_l1New_L3 n (fun h16 => some ((⟨code, (0 : Int), h16⟩ : Sl1Cur))) (fun h17 i18 => J' (h17, i18)) code x.1 x.2) fu (h, (k : Int)) = some c ∧ CurOk c := by
    intro m
    induction m with
    | zero =>
      intro k h fu hk hfu
      obtain ⟨f, rfl⟩ : ∃ f, fu = f + 1 := ⟨fu - 1, by omega⟩
      rw [loopN_succ]
      refine ⟨⟨code, 0, h⟩, ?_, ⟨by show (0 : Int) ≤ 0 ∧ (0 : Int) ≤ (code.length : Int); omega, hc⟩⟩
      show spec_l1New_L3 n _ _ code h (k : Int) = _
      unfold spec_l1New_L3
      rw [decide_eq_false (by omega), cond_false]
    | succ m ih =>
      intro k h fu hk hfu
      obtain ⟨f, rfl⟩ : ∃ f, fu = f + 1 := ⟨fu - 1, by omega⟩
      rw [loopN_succ]
      have hstep : ∀ J : Int → Int → Option Sl1Cur, ∃ h', spec_l1New_L3 n (fun h16 => some ((⟨code, (0 : Int), h16⟩ : Sl1Cur))) J code h (k : Int) = J h' ((k + 1 : Nat) : Int) ∨ spec_l1New_L3 n (fun h16 => some ((⟨code, (0 : Int), h16⟩ : Sl1Cur))) J code h (k : Int) = some ⟨code, 0, h⟩ := by
        intro J
        unfold spec_l1New_L3 spec_l1New_k0
        rw [decide_eq_true (show (k : Int) < (code.length : Int) by omega), cond_true]
        cases decide ((k : Int) < 4000) with
        | true =>
          rw [cond_true, ix_nat (by omega), bd_eq, bd_eq, w64_succ (show k < 9223372036854775807 by omega)]
          exact ⟨_, .inl rfl⟩
        | false => exact ⟨0, .inr rfl⟩
      obtain ⟨h', e | e⟩ := hstep (fun h17 i18 => loopN (fun (x : Int × Int) J' => spec_l1New_L3 n (fun h16 => some ((⟨code, (0 : Int), h16⟩ : Sl1Cur))) (fun h17 i18 => J' (h17, i18)) code x.1 x.2) f (h17, i18))
      · obtain ⟨c, g1, g2⟩ := ih (k + 1) h' f (by omega) (by omega)
        exact ⟨c, e.trans g1, g2⟩
      · exact ⟨⟨code, 0, h⟩, e, ⟨by show (0 : Int) ≤ 0 ∧ (0 : Int) ≤ (code.length : Int); omega, hc⟩⟩
  exact key code.length 0 _ n (by omega) (by omega)
theorem wu8_id {x : Int} (h1 : 0 ≤ x) (h2 : x ≤ 255) : wu8 x = x := by
  show (let m := x % (2 ^ 8 : Int); if (false && decide ((2 : Int) ^ 7 ≤ m)) = true then m - 2 ^ 8 else m) = x
  simp only [Bool.false_and, Bool.false_eq_true, if_false]
  omega
theorem in_specB (n : Nat) (x a b : Int) : spec_l1In n x a b = some (decide (a ≤ x ∧ x ≤ b)) := by
  unfold spec_l1In
  by_cases h0 : a ≤ x <;> by_cases h1 : x ≤ b <;> simp [h0, h1]
theorem in_implB (n : Nat) (x a b : Int) : impl_in n x a b = some (decide (a ≤ x ∧ x ≤ b)) := by
  unfold impl_in
  by_cases h0 : a ≤ x <;> by_cases h1 : x ≤ b <;> simp [h0, h1]
/-! ### What a letter counts -/
def letU : Nat → Int
  | 0 => 10
  | k + 1 => if Int.tmod (letU k + 1) 11 = 0 then letU k + 2 else letU k + 1
theorem letU_rng : ∀ k, 0 ≤ letU k ∧ letU k ≤ 10 + 2 * (k : Int)
  | 0 => ⟨by decide, by decide⟩
  | k + 1 => by
    have := letU_rng k
    unfold letU
    split <;> omega
theorem letter_spec {n : Nat} (K : Nat) (hK : K ≤ 1000) (hn : 1000000000 < n) : spec_l11Letter n (K : Int) = some (letU K) := by
  unfold spec_l11Letter
  refine loopN_ind (fun x => x.1.toNat) (fun x => ∃ j : Nat, x.1 = (j : Int) ∧ j ≤ K ∧ x.2 = letU (K - j)) (fun x r => r = some (letU K)) ?_ n _ ⟨K, rfl, Nat.le_refl _, by simp; rfl⟩ (by simp; omega)
  rintro ⟨_, _⟩ J ⟨j, rfl, hj, rfl⟩ ih
  show spec_l11Letter_L2 n _ _ (j : Int) (letU (K - j)) = _
  unfold spec_l11Letter_L2
  cases j with
  | zero => rw [decide_eq_false (by omega), cond_false]; rfl
  | succ j =>
    have hb := letU_rng (K - (j + 1))
    have e : letU (K - j) = if Int.tmod (letU (K - (j + 1)) + 1) 11 = 0 then letU (K - (j + 1)) + 2 else letU (K - (j + 1)) + 1 := by
      rw [show K - j = (K - (j + 1)) + 1 from by omega]; rfl
    rw [decide_eq_true (by omega), cond_true]
    simp only [bd_eq]
    rw [w64_id (x := letU (K - (j + 1)) + 1) (by omega) (by omega), show w64 (((j + 1 : Nat) : Int) - 1) = (j : Int) from by rw [w64_id (by omega) (by omega)]; omega, w64_id (x := letU (K - (j + 1)) + 1 + 1) (by omega) (by omega), bif_dec]
    split
    · rename_i h0
      rw [if_pos h0] at e
      exact ih _ ⟨j, rfl, by omega, by rw [e]; dsimp only; omega⟩ (by simp)
    · rename_i h0
      rw [if_neg h0] at e
      exact ih _ ⟨j, rfl, by omega, by rw [e]⟩ (by simp)
theorem value_impl {n : Nat} {c : Int} (hc : 65 ≤ c ∧ c ≤ 255) (hn : 1000000000 < n) : impl_valueOf n c = some (letU (c - 65).toNat) := by
  unfold impl_valueOf
  refine loopN_ind (fun x => (c - x.2).toNat) (fun x => ∃ j : Nat, x.2 = 65 + (j : Int) ∧ 65 + (j : Int) ≤ c ∧ x.1 = letU j) (fun x r => r = some (letU (c - 65).toNat)) ?_ n _ ⟨0, rfl, by omega, rfl⟩ (by dsimp only; omega)
  rintro ⟨_, _⟩ J ⟨j, rfl, hj, rfl⟩ ih
  show impl_valueOf_L3 n _ _ c (letU j) (65 + (j : Int)) = _
  unfold impl_valueOf_L3
  have hb := letU_rng j
  by_cases h : 65 + (j : Int) < c
  · have e : letU (j + 1) = if Int.tmod (letU j + 1) 11 = 0 then letU j + 2 else letU j + 1 := rfl
    have hu : wu8 (65 + (j : Int) + 1) = 65 + ((j + 1 : Nat) : Int) := by
      rw [wu8_id (by omega) (by omega)]; omega
    rw [decide_eq_true h, cond_true]
    simp only [bd_eq]
    rw [w64_id (x := letU j + 1) (by omega) (by omega), w64_id (x := letU j + 1 + 1) (by omega) (by omega), bif_dec, hu]
    split
    · rename_i h0
      rw [if_pos h0] at e
      exact ih _ ⟨j + 1, rfl, by omega, by rw [e]; dsimp only; omega⟩ (by dsimp only; omega)
    · rename_i h0
      rw [if_neg h0] at e
      exact ih _ ⟨j + 1, rfl, by omega, by rw [e]⟩ (by dsimp only; omega)
  · rw [decide_eq_false h, cond_false]
    rw [show (c - 65).toNat = j from by omega]
/-! ### The check digit -/
def chV (s : ByteArray) (i : Nat) : Option Int :=
  if i < 4 then (if 65 ≤ byteAt s i ∧ byteAt s i ≤ 90 then some (letU (byteAt s i - 65).toNat) else none)
  else if 48 ≤ byteAt s i ∧ byteAt s i ≤ 57 then some (byteAt s i - 48) else none
def cdStep (a v : Int) (i : Nat) : Int := w64 (a + w64 (v * 2 ^ (min i 64)))
def cdU (s : ByteArray) : Nat → Option Int
  | 0 => some 0
  | i + 1 => match cdU s i, chV s i with
    | some a, some v => some (cdStep a v i)
    | _, _ => none
def cdR (s : ByteArray) : Int := if (s.size : Int) = 10 then (match cdU s 10 with
  | some a => Int.tmod (Int.tmod a 11) 10
  | none => -1) else -1
theorem cdR_rng (s : ByteArray) : -9 ≤ cdR s ∧ cdR s ≤ 9 := by
  have key : ∀ a : Int, -9 ≤ Int.tmod a 10 ∧ Int.tmod a 10 ≤ 9 := fun a => by
    have h1 := Int.tmod_lt_of_pos a (show (0 : Int) < 10 by omega)
    have h2 := Int.tmod_lt_of_pos (-a) (show (0 : Int) < 10 by omega)
    rw [Int.neg_tmod] at h2
    omega
  unfold cdR
  split
  · split
    · exact key _
    · omega
  · omega
theorem cdU_none {s : ByteArray} {i : Nat} (h : cdU s i = none) : ∀ j, cdU s (i + j) = none
  | 0 => h
  | j + 1 => by
    show (match cdU s (i + j), chV s (i + j) with | some a, some v => some (cdStep a v (i + j)) | _, _ => none) = none
    rw [cdU_none h j]
theorem cdR_stop {s : ByteArray} (hs : (s.size : Int) = 10) {i : Nat} (hi : i < 10) (h : chV s i = none) : cdR s = -1 := by
  have h1 : cdU s (i + 1) = none := by
    show (match cdU s i, chV s i with | some a, some v => some (cdStep a v i) | _, _ => none) = none
    rw [h]
    split
    · rename_i h2; cases h2
    · rfl
  have h2 := cdU_none h1 (10 - (i + 1))
  rw [show i + 1 + (10 - (i + 1)) = 10 from by omega] at h2
  unfold cdR
  rw [if_pos hs, h2]
theorem cdU_succ {s : ByteArray} {i : Nat} {a v : Int} (h : cdU s i = some a) (hv : chV s i = some v) : cdU s (i + 1) = some (cdStep a v i) := by
  show (match cdU s i, chV s i with | some a, some v => some (cdStep a v i) | _, _ => none) = _
  rw [h, hv]
theorem check_spec {n : Nat} (s : ByteArray) (hn : 1000000000 < n) : spec_CheckDigit n s = some (cdR s) := by
  unfold spec_CheckDigit
  by_cases hs : (s.size : Int) = 10
  · rw [decide_eq_true hs, Bool.not_true, cond_false]
    unfold spec_CheckDigit_k3
    refine loopN_ind (fun x => 10 - x.2.toNat) (fun x => ∃ i : Nat, x.2 = (i : Int) ∧ i ≤ 10 ∧ cdU s i = some x.1) (fun x r => r = some (cdR s)) ?_ n _ ⟨0, rfl, by omega, rfl⟩ (by simp; omega)
    rintro ⟨a, _⟩ J ⟨i, rfl, hi, ha⟩ ih
    dsimp only at ha
    show spec_CheckDigit_L5 n _ _ _ s a (i : Int) = _
    unfold spec_CheckDigit_L5
    by_cases h : i < 10
    · rw [decide_eq_true (by omega), cond_true]
      unfold spec_CheckDigit_k2
      have hb := byteAt_rng s i
      have hw : w64 (byteAt s i) = byteAt s i := w64_id (by omega) (by omega)
      have go : ∀ v, chV s i = some v → J (w64 (a + w64 (v * 2 ^ (min i 64))), ((i + 1 : Nat) : Int)) = some (cdR s) := fun v hv => ih _ ⟨i + 1, rfl, by omega, cdU_succ ha hv⟩ (by simp; omega)
      have stop : chV s i = none → some (-1) = some (cdR s) := fun hv => by rw [cdR_stop hs h hv]
      have digit : ¬ i < 4 → spec_CheckDigit_k1 n (fun sum58 => (bd (Int.tmod sum58 (11 : Int)) fun (v59 : Int) => (bd (Int.tmod v59 (10 : Int)) fun (v60 : Int) => some (v60)))) (fun t61 => some (t61)) (fun sum62 i63 => J (sum62, i63)) s a (i : Int) (byteAt s i) = some (cdR s) := fun h4 => by
        unfold spec_CheckDigit_k1
        rw [decide_eq_true (by omega), cond_true, in_specB, Option.bind_some]
        have e : chV s i = if 48 ≤ byteAt s i ∧ byteAt s i ≤ 57 then some (byteAt s i - 48) else none := by unfold chV; rw [if_neg h4]
        by_cases hd : 48 ≤ byteAt s i ∧ byteAt s i ≤ 57
        · rw [if_pos hd] at e
          rw [decide_eq_true hd, cond_true, chk_dec (by omega), bd_eq, w64_succ (show i < 9223372036854775807 by omega), Int.toNat_natCast, w64_id (x := byteAt s i - 48) (by omega) (by omega)]
          exact go _ e
        · rw [if_neg hd] at e
          rw [decide_eq_false hd, cond_false]
          exact stop e
      rw [ix_of (by omega) (by omega), Int.toNat_natCast, hw]
      by_cases h4 : i < 4
      · have e : chV s i = if 65 ≤ byteAt s i ∧ byteAt s i ≤ 90 then some (letU (byteAt s i - 65).toNat) else none := by unfold chV; rw [if_pos h4]
        rw [decide_eq_true (by omega), cond_true, in_specB, Option.bind_some]
        unfold spec_CheckDigit_k0
        by_cases hd : 65 ≤ byteAt s i ∧ byteAt s i ≤ 90
        · rw [if_pos hd] at e
          obtain ⟨m, hm⟩ : ∃ m : Nat, byteAt s i - 65 = (m : Int) := ⟨(byteAt s i - 65).toNat, by omega⟩
          rw [decide_eq_true hd, cond_true, w64_id (x := byteAt s i - 65) (by omega) (by omega), hm, letter_spec m (by omega) hn, Option.bind_some, chk_dec (by omega), bd_eq, w64_succ (show i < 9223372036854775807 by omega), Int.toNat_natCast]
          rw [hm, Int.toNat_natCast] at e
          exact go _ e
        · rw [if_neg hd] at e
          rw [decide_eq_false hd, cond_false, decide_eq_false (show ¬ (i : Int) ≥ 4 by omega), cond_false]
          exact stop e
      · rw [decide_eq_false (by omega), cond_false]
        exact digit h4
    · have : i = 10 := by omega
      subst this
      rw [decide_eq_false (by omega), cond_false]
      simp only [bd_eq]
      unfold cdR
      rw [if_pos hs, ha]
  · rw [decide_eq_false hs, Bool.not_false, cond_true]
    unfold cdR
    rw [if_neg hs]
theorem check_impl {n : Nat} (s : ByteArray) (hn : 1000000000 < n) : impl_CheckDigit n s = some (cdR s) := by
  unfold impl_CheckDigit
  by_cases hs : (s.size : Int) = 10
  · rw [decide_eq_true hs, Bool.not_true, cond_false]
    unfold impl_CheckDigit_k3
    refine loopN_ind (fun x => 10 - x.2.toNat) (fun x => ∃ i : Nat, x.2 = (i : Int) ∧ i ≤ 10 ∧ cdU s i = some x.1) (fun x r => r = some (cdR s)) ?_ n _ ⟨0, rfl, by omega, rfl⟩ (by simp; omega)
    rintro ⟨a, _⟩ J ⟨i, rfl, hi, ha⟩ ih
    dsimp only at ha
    show impl_CheckDigit_L5 n _ _ _ s a (i : Int) = _
    unfold impl_CheckDigit_L5
    by_cases h : i < 10
    · rw [decide_eq_true (by omega), cond_true]
      unfold impl_CheckDigit_k2
      have hb := byteAt_rng s i
      have go : ∀ v, chV s i = some v → J (w64 (a + w64 (v * 2 ^ (min i 64))), ((i + 1 : Nat) : Int)) = some (cdR s) := fun v hv => ih _ ⟨i + 1, rfl, by omega, cdU_succ ha hv⟩ (by simp; omega)
      have stop : chV s i = none → some (-1) = some (cdR s) := fun hv => by rw [cdR_stop hs h hv]
      have digit : (¬ i < 4 ∨ chV s i = none) → impl_CheckDigit_k1 n (fun sum77 => (bd (Int.tmod sum77 (11 : Int)) fun (v78 : Int) => (bd (Int.tmod v78 (10 : Int)) fun (v79 : Int) => some (v79)))) (fun t80 => some (t80)) (fun sum81 t82 => J (sum81, t82)) s a (i : Int) (byteAt s i) (i : Int) = some (cdR s) := fun h4 => by
        unfold impl_CheckDigit_k1
        by_cases h5 : i < 4
        · rw [decide_eq_false (by omega), cond_false]
          exact stop (h4.resolve_left (fun x => x h5))
        · rw [decide_eq_true (by omega), cond_true]
          have e : chV s i = if 48 ≤ byteAt s i ∧ byteAt s i ≤ 57 then some (byteAt s i - 48) else none := by unfold chV; rw [if_neg h5]
          by_cases hd : 48 ≤ byteAt s i ∧ byteAt s i ≤ 57
          · rw [if_pos hd] at e
            rw [decide_eq_true (show byteAt s i ≥ 48 from hd.1), cond_true, decide_eq_true hd.2, cond_true, chk_dec (by omega), bd_eq, w64_succ (show i < 9223372036854775807 by omega), Int.toNat_natCast, wu8_id (x := byteAt s i - 48) (by omega) (by omega), w64_id (x := byteAt s i - 48) (by omega) (by omega)]
            exact go _ e
          · rw [if_neg hd] at e
            by_cases h6 : byteAt s i ≥ 48
            · rw [decide_eq_true h6, cond_true, decide_eq_false (show ¬ byteAt s i ≤ 57 by omega), cond_false]
              exact stop e
            · rw [decide_eq_false h6, cond_false]
              exact stop e
      rw [ix_of (by omega) (by omega), Int.toNat_natCast]
      by_cases h4 : i < 4
      · have e : chV s i = if 65 ≤ byteAt s i ∧ byteAt s i ≤ 90 then some (letU (byteAt s i - 65).toNat) else none := by unfold chV; rw [if_pos h4]
        rw [decide_eq_true (by omega), cond_true]
        by_cases hd : 65 ≤ byteAt s i ∧ byteAt s i ≤ 90
        · rw [if_pos hd] at e
          unfold impl_CheckDigit_k0
          rw [decide_eq_true (show byteAt s i ≥ 65 from hd.1), cond_true, decide_eq_true hd.2, cond_true, value_impl ⟨hd.1, hb.2⟩ hn, Option.bind_some, chk_dec (by omega), bd_eq, w64_succ (show i < 9223372036854775807 by omega), Int.toNat_natCast]
          exact go _ e
        · rw [if_neg hd] at e
          by_cases h6 : byteAt s i ≥ 65
          · unfold impl_CheckDigit_k0
            rw [decide_eq_true h6, cond_true, decide_eq_false (show ¬ byteAt s i ≤ 90 by omega), cond_false, decide_eq_false (show ¬ (i : Int) ≥ 4 by omega), cond_false]
            exact stop e
          · rw [decide_eq_false h6, cond_false]
            exact digit (.inr e)
      · rw [decide_eq_false (by omega), cond_false]
        exact digit (.inl h4)
    · have : i = 10 := by omega
      subst this
      rw [decide_eq_false (by omega), cond_false]
      simp only [bd_eq]
      unfold cdR
      rw [if_pos hs, ha]
  · rw [decide_eq_false hs, Bool.not_false, cond_true]
    unfold cdR
    rw [if_neg hs]
end Go.Sm
end

section
set_option linter.unusedSimpArgs false
set_option linter.deprecated false
set_option linter.unusedSectionVars false
set_option linter.unusedVariables false
set_option linter.unusedSimpArgs false
namespace Go.Sm
attribute [local irreducible] bd chk ix loopN
theorem onceB_ok {n : Nat} {c : Sl1Cur} (h : CurOk c) {m : Int} (hm : 1 ≤ m ∧ m ≤ 256) : ∃ v c', spec_l1Once n c m = some (v, c') ∧ CurOk c' := by
  obtain ⟨v, c', h1, h2, h3⟩ := below_ok (n := n) h hm
  unfold spec_l1Once
  rw [h1, Option.bind_some]
  exact ⟨_, _, rfl, h3⟩
theorem pickB_ok {n : Nat} {c : Sl1Cur} (h : CurOk c) {l : List ByteArray} (hl : 1 ≤ l.length ∧ l.length ≤ 256) : ∃ v c', spec_l1Pick n c l = some (v, c') ∧ v ∈ l ∧ CurOk c' := by
  obtain ⟨v, c', h1, h2, h3⟩ := below_ok (n := n) h (m := (l.length : Int)) (by omega)
  unfold spec_l1Pick
  rw [h1, Option.bind_some, ix_of h2.1 h2.2]
  exact ⟨_, _, rfl, getD_mem (by omega), h3⟩
theorem pickIntB_ok {n : Nat} {c : Sl1Cur} (h : CurOk c) {l : List Int} (hl : 1 ≤ l.length ∧ l.length ≤ 256) : ∃ v c', spec_l1PickInt n c l = some (v, c') ∧ CurOk c' := by
  obtain ⟨v, c', h1, h2, h3⟩ := below_ok (n := n) h (m := (l.length : Int)) (by omega)
  unfold spec_l1PickInt
  rw [h1, Option.bind_some, ix_of h2.1 h2.2]
  exact ⟨_, _, rfl, h3⟩
theorem bstr_size (l : List Int) : (bstr l).size = l.length := by
  show (List.map _ l).toArray.size = _
  simp
theorem strb_length (s : ByteArray) : (strb s).length = s.size := by
  unfold strb
  rw [List.length_map]
  rfl
theorem drawName_ok {n : Nat} {c : Sl1Cur} (hc : CurOk c) (hn : 1000000000 < n) : ∃ s c', spec_l11DrawName n c = some (s, c') ∧ s.size = 11 ∧ CurOk c' := by
  unfold spec_l11DrawName
  refine loop_runS (S := Sl1Cur × List Int) (X := Int × Sl1Cur × List Int) (enc := fun k s => (k, s.1, s.2)) (len := 4) (I := fun k s => CurOk s.1 ∧ s.2.length = k)
    (Q := fun r => ∃ (s : ByteArray) (c' : Sl1Cur), r = some (s, c') ∧ s.size = 11 ∧ CurOk c') (fun k s J hk hI => ?_) (fun s J hI => ?_) (by omega) (s0 := (c, [])) ⟨hc, rfl⟩
  · obtain ⟨i1, i2⟩ := hI
    obtain ⟨a, p1, e4, a4, q4⟩ := below_ok (n := n) i1 (m := 26) (by omega)
    refine ⟨(p1, s.2 ++ [wu8 (w64 (65 + a))]), ⟨q4, by rw [List.length_append, List.length_singleton, i2]⟩, ?_⟩
    show spec_l11DrawName_L3 n _ _ (k : Int) s.1 s.2 = _
    unfold spec_l11DrawName_L3
    rw [decide_eq_true (by omega), cond_true, e4, Option.bind_some, bd_eq, chk_dec (by rw [List.length_append, List.length_singleton, i2]; omega), w64_succ (by omega)]
  · obtain ⟨i1, i2⟩ := hI
    show ∃ s' c', spec_l11DrawName_L3 n _ _ ((4 : Nat) : Int) s.1 s.2 = some (s', c') ∧ _
    unfold spec_l11DrawName_L3
    rw [decide_eq_false (by omega), cond_false]
    refine loop_runS (S := Sl1Cur × List Int) (X := Int × Sl1Cur × List Int) (enc := fun k s => (k, s.1, s.2)) (len := 6) (I := fun k s => CurOk s.1 ∧ s.2.length = 4 + k)
      (Q := fun r => ∃ (s : ByteArray) (c' : Sl1Cur), r = some (s, c') ∧ s.size = 11 ∧ CurOk c') (fun k s J hk hI => ?_) (fun s J hI => ?_) (by omega) (s0 := (s.1, s.2)) ⟨i1, i2⟩
    · obtain ⟨i1, i2⟩ := hI
      obtain ⟨a, p1, e4, a4, q4⟩ := below_ok (n := n) i1 (m := 10) (by omega)
      refine ⟨(p1, s.2 ++ [wu8 (w64 (48 + a))]), ⟨q4, by rw [List.length_append, List.length_singleton, i2]; omega⟩, ?_⟩
      show spec_l11DrawName_L7 n _ _ (k : Int) s.1 s.2 = _
      unfold spec_l11DrawName_L7
      rw [decide_eq_true (by omega), cond_true, e4, Option.bind_some, bd_eq, chk_dec (by rw [List.length_append, List.length_singleton, i2]; omega), w64_succ (by omega)]
    · obtain ⟨i1, i2⟩ := hI
      show ∃ s' c', spec_l11DrawName_L7 n _ _ ((6 : Nat) : Int) s.1 s.2 = some (s', c') ∧ _
      unfold spec_l11DrawName_L7
      rw [decide_eq_false (by omega), cond_false]
      dsimp only
      rw [check_spec _ hn, Option.bind_some, bd_eq, chk_dec (by rw [List.length_append, List.length_singleton, i2]; omega)]
      exact ⟨_, _, rfl, by rw [bstr_size, List.length_append, List.length_singleton, i2], i1⟩
theorem drawB_ok {n : Nat} {c : Sl1Cur} (hc : CurOk c) (hn : 1000000000 < n) : ∃ b c', spec_l11Draw n c = some (b, c') ∧ CurOk c' := by
  obtain ⟨v1, c1, e1, a1, q1⟩ := below_ok (n := n) hc (m := 4) (by omega)
  obtain ⟨s, c2, e2, a2, q2⟩ := drawName_ok (n := n) q1 hn
  obtain ⟨v3, c3, e3, a3, q3⟩ := below_ok (n := n) q2 (m := 30) (by omega)
  obtain ⟨v4, c4, e4, a4, q4⟩ := below_ok (n := n) q3 (m := 4) (by omega)
  obtain ⟨v5, c5, e5, q5⟩ := onceB_ok (n := n) q4 (m := 4) (by omega)
  unfold spec_l11Draw
  simp only [e1, e2, e3, e4, e5, Option.bind_some, bd_eq]
  cases v5 with
  | true =>
    obtain ⟨v6, c6, e6, a6, q6⟩ := below_ok (n := n) q5 (m := 10) (by omega)
    obtain ⟨v7, c7, e7, q7⟩ := onceB_ok (n := n) q6 (m := 8) (by omega)
    simp only [cond_true, e6, e7, Option.bind_some]
    exact ⟨_, _, rfl, q7⟩
  | false =>
    obtain ⟨v7, c7, e7, q7⟩ := onceB_ok (n := n) q5 (m := 8) (by omega)
    simp only [cond_false, e7, Option.bind_some]
    exact ⟨_, _, rfl, q7⟩
theorem drawText_ok {n : Nat} {c : Sl1Cur} (hc : CurOk c) (hn : 1000000000 < n) : ∃ s c', spec_l11DrawText n c = some (s, c') ∧ CurOk c' := by
  obtain ⟨s, c1, e1, a1, q1⟩ := drawName_ok (n := n) hc hn
  obtain ⟨k, c2, e2, a2, q2⟩ := below_ok (n := n) q1 (m := ((strb s).length : Int)) (by rw [strb_length, a1]; omega)
  obtain ⟨v, c3, e3, a3, q3⟩ := below_ok (n := n) q2 (m := 5) (by omega)
  have hl : (strb s).length = 11 := by rw [strb_length, a1]
  unfold spec_l11DrawText
  rw [e1, Option.bind_some]
  dsimp only
  rw [e2, Option.bind_some]
  dsimp only
  rw [e3, Option.bind_some]
  dsimp only
  cases decide (v = 0) with
  | true =>
    rw [cond_true]
    obtain ⟨t, c4, e4, m4, q4⟩ := pickB_ok (n := n) q3 (l := [str [97], str [48], str [90], str [32], str [53], str [75]]) (by simp)
    have ht : t.size = 1 := by
      simp only [List.mem_cons, List.not_mem_nil, or_false] at m4
      rcases m4 with rfl | rfl | rfl | rfl | rfl | rfl <;> rfl
    rw [e4, Option.bind_some]
    dsimp only
    rw [ix_of (by omega) (by omega), ix_of a2.1 a2.2, chk_dec (by omega), bd_eq]
    exact ⟨_, _, rfl, q4⟩
  | false =>
    rw [cond_false]
    cases decide (v = 1) with
    | true =>
      rw [cond_true, bd_eq, chk_dec (by rw [List.length_append, List.length_singleton, hl]; omega)]
      exact ⟨_, _, rfl, q3⟩
    | false =>
      rw [cond_false]
      cases decide (v = 2) with
      | true =>
        rw [cond_true, chk_dec (by omega), chk_dec (by omega), chk_dec (by omega)]
        exact ⟨_, _, rfl, q3⟩
      | false =>
        rw [cond_false]
        cases decide (v = 3) with
        | true =>
          rw [cond_true]
          obtain ⟨t, c4, e4, m4, q4⟩ := below_ok (n := n) q3 (m := 10) (by omega)
          rw [e4, Option.bind_some, bd_eq]
          dsimp only
          rw [ix_of (by omega) (by omega), chk_dec (by omega), bd_eq]
          exact ⟨_, _, rfl, q4⟩
        | false => exact ⟨_, _, rfl, q3⟩
theorem drawAnyB_ok {n : Nat} {c : Sl1Cur} (hc : CurOk c) (hn : 1000000000 < n) : ∃ b c', spec_l11DrawAny n c = some (b, c') ∧ CurOk c' := by
  obtain ⟨b, c1, e1, q1⟩ := drawB_ok (n := n) hc hn
  obtain ⟨v, c2, e2, a2, q2⟩ := below_ok (n := n) q1 (m := 30) (by omega)
  unfold spec_l11DrawAny
  rw [e1, Option.bind_some]
  dsimp only
  rw [e2, Option.bind_some]
  dsimp only
  cases decide (v = 0) with
  | true =>
    rw [cond_true]
    obtain ⟨t, c3, e3, q3⟩ := drawText_ok (n := n) q2 hn
    rw [e3, Option.bind_some]
    exact ⟨_, _, rfl, q3⟩
  | false =>
    rw [cond_false]
    cases decide (v = 1) with
    | true =>
      rw [cond_true]
      obtain ⟨t, c3, e3, q3⟩ := pickIntB_ok (n := n) q2 (l := [(0 : Int), (40000 : Int), (40001 : Int), (-1 : Int)]) (by simp)
      rw [e3, Option.bind_some]
      exact ⟨_, _, rfl, q3⟩
    | false =>
      rw [cond_false]
      cases decide (v = 2) with
      | true =>
        rw [cond_true]
        obtain ⟨t, c3, e3, q3⟩ := pickIntB_ok (n := n) q2 (l := [(-1 : Int), (9 : Int), (10 : Int)]) (by simp)
        rw [e3, Option.bind_some]
        exact ⟨_, _, rfl, q3⟩
      | false =>
        rw [cond_false]
        cases decide (v = 3) with
        | true =>
          rw [cond_true]
          obtain ⟨t, c3, e3, q3⟩ := pickIntB_ok (n := n) q2 (l := [(-1 : Int), (18 : Int), (19 : Int)]) (by simp)
          rw [e3, Option.bind_some]
          exact ⟨_, _, rfl, q3⟩
        | false =>
          rw [cond_false]
          cases decide (v = 4) with
          | true =>
            rw [cond_true]
            obtain ⟨t, c3, e3, q3⟩ := pickIntB_ok (n := n) q2 (l := [(0 : Int), (19 : Int), (20 : Int)]) (by simp)
            rw [e3, Option.bind_some]
            exact ⟨_, _, rfl, q3⟩
          | false => exact ⟨_, _, rfl, q2⟩
theorem drawStack_ok {n : Nat} {c : Sl1Cur} (hc : CurOk c) (hn : 1000000000 < n) : ∃ l c', spec_l11DrawStack n c = some (l, c') ∧ l.length ≤ 100 ∧ CurOk c' := by
  obtain ⟨v1, c1, e1, a1, q1⟩ := below_ok (n := n) hc (m := 60) (by omega)
  obtain ⟨v2, c2, e2, a2, q2⟩ := below_ok (n := n) q1 (m := 6) (by omega)
  unfold spec_l11DrawStack
  rw [e1, Option.bind_some, bd_eq]
  dsimp only
  rw [e2, Option.bind_some]
  refine loopN_ind (fun x : Int × Int × Sl1Cur × List SBox => x.2.1.toNat) (fun x => ∃ k : Nat, x.2.1 = (k : Int) ∧ CurOk x.2.2.1 ∧ x.2.2.2.length + k ≤ 10) (fun x r => ∃ (l : List SBox) (c' : Sl1Cur), r = some (l, c') ∧ l.length ≤ 100 ∧ CurOk c') ?_ n _ ⟨v2.toNat, by dsimp only; omega, q2, by dsimp only; rw [List.length_nil]; omega⟩ (by dsimp only; omega)
  rintro ⟨wt, _, p, F⟩ J ⟨k, rfl, hp, hF⟩ ih
  dsimp only at hp hF
  show ∃ l c', spec_l11DrawStack_L4 n _ _ wt (k : Int) p F = some (l, c') ∧ _
  unfold spec_l11DrawStack_L4
  cases k with
  | zero =>
    rw [decide_eq_false (by omega), cond_false]
    obtain ⟨v, c3, e3, a3, q3⟩ := below_ok (n := n) hp (m := 30) (by omega)
    dsimp only
    rw [e3, Option.bind_some]
    dsimp only
    cases decide (v = 0) with
    | true =>
      rw [cond_true]
      obtain ⟨t, c4, e4, q4⟩ := drawAnyB_ok (n := n) q3 hn
      rw [e4, Option.bind_some, chk_dec (by rw [List.length_append, List.length_singleton]; omega)]
      exact ⟨_, _, rfl, by rw [List.length_append, List.length_singleton]; omega, q4⟩
    | false =>
      rw [cond_false]
      cases decide (v = 1) with
      | false => exact ⟨_, _, rfl, by omega, q3⟩
      | true =>
        rw [cond_true]
        refine loopN_ind (fun x : Sl1Cur × List SBox => 30 - x.2.length) (fun x => CurOk x.1 ∧ x.2.length ≤ 21) (fun x r => ∃ (l : List SBox) (c' : Sl1Cur), r = some (l, c') ∧ l.length ≤ 100 ∧ CurOk c') ?_ n _ ⟨q3, by dsimp only; omega⟩ (by dsimp only; omega)
        rintro ⟨p, G⟩ J2 ⟨hp, hG⟩ ih2
        dsimp only at hp hG
        show ∃ l c', spec_l11DrawStack_L17 n _ _ p G = some (l, c') ∧ _
        unfold spec_l11DrawStack_L17
        obtain ⟨t, c4, e4, a4, q4⟩ := below_ok (n := n) hp (m := 2) (by omega)
        rw [e4, Option.bind_some, bd_eq]
        dsimp only
        rw [w64_id (by omega) (by omega)]
        by_cases hlt : (G.length : Int) < 20 + t
        · obtain ⟨b, c5, e5, q5⟩ := drawB_ok (n := n) q4 hn
          rw [decide_eq_true hlt, cond_true, e5, Option.bind_some, bd_eq, chk_dec (by rw [List.length_append, List.length_singleton]; omega)]
          exact ih2 _ ⟨q5, by rw [List.length_append, List.length_singleton]; omega⟩ (by dsimp only; rw [List.length_append, List.length_singleton]; omega)
        · rw [decide_eq_false hlt, cond_false]
          exact ⟨_, _, rfl, by omega, q4⟩
  | succ k =>
    rw [decide_eq_true (by omega), cond_true]
    unfold spec_l11DrawStack_k0
    obtain ⟨b1, d1, f1, r1⟩ := drawB_ok (n := n) hp hn
    obtain ⟨b2, d2, f2, r2⟩ := onceB_ok (n := n) r1 (m := 12) (by omega)
    obtain ⟨b3, d3, f3, g3, r3⟩ := below_ok (n := n) r2 (m := 9) (by omega)
    obtain ⟨b4, d4, f4, g4, r4⟩ := below_ok (n := n) r3 (m := 20) (by omega)
    simp only [f1, f2, f3, f4, Option.bind_some, bd_eq]
    rw [show w64 (((k + 1 : Nat) : Int) - 1) = (k : Int) from by rw [w64_id (by omega) (by omega)]; omega]
    cases decide (w64 (w64 (wt - b3) + w64 (w64 (Int.tdiv b4 19) * 15)) < 1) with
    | true =>
      rw [cond_true, chk_dec (by rw [List.length_append, List.length_singleton]; omega)]
      exact ih _ ⟨k, rfl, r4, by rw [List.length_append, List.length_singleton]; omega⟩ (by dsimp only; omega)
    | false =>
      rw [cond_false, chk_dec (by rw [List.length_append, List.length_singleton]; omega)]
      exact ih _ ⟨k, rfl, r4, by rw [List.length_append, List.length_singleton]; omega⟩ (by dsimp only; omega)
theorem drawStackOk_ok {n : Nat} (code : List Int) (hc : code.length ≤ 1048576) (hn : 1000000000 < n) : ∃ l v, spec_DrawStackOk n code = some (l, v) ∧ l.length ≤ 100 := by
  obtain ⟨c, e1, q1⟩ := new_ok code hc hn
  obtain ⟨l, c2, e2, hd, q2⟩ := drawStack_ok q1 hn
  obtain ⟨v, c3, e3, _⟩ := pickIntB_ok (n := n) q2 (l := [(500 : Int), (300 : Int), (100 : Int), (1000000 : Int), (1000001 : Int), (-1 : Int), (0 : Int)]) (by simp)
  unfold spec_DrawStackOk
  rw [e1, Option.bind_some, e2, Option.bind_some]
  dsimp only
  rw [e3, Option.bind_some]
  exact ⟨_, _, rfl, hd⟩
end Go.Sm
end

section
set_option linter.unusedSimpArgs false
set_option linter.deprecated false
set_option linter.unusedSectionVars false
set_option linter.unusedVariables false
set_option linter.unusedSimpArgs false
namespace Go.Sm
attribute [local irreducible] bd chk ix loopN
/-! ### Boxes -/
def nameB (s : ByteArray) : Bool := decide ((s.size : Int) = 11) && (decide (cdR (s.extract 0 10) ≥ 0) && decide (byteAt s 10 = 48 + cdR (s.extract 0 10)))
theorem nameB_spec {n : Nat} (s : ByteArray) (hn : 1000000000 < n) : spec_BoxName n s = some (nameB s) := by
  unfold spec_BoxName nameB
  by_cases h : (s.size : Int) = 11
  · have hr := cdR_rng (s.extract 0 10)
    have hb := byteAt_rng s 10
    rw [decide_eq_true h, Bool.not_true, cond_false, chk_dec (by omega), check_spec _ hn, Option.bind_some, ix_of (by omega) (by omega), w64_id (x := byteAt s 10) (by omega) (by omega), w64_id (x := 48 + cdR (s.extract 0 10)) (by omega) (by omega)]
    cases decide (cdR (s.extract 0 10) ≥ 0) <;> rfl
  · rw [decide_eq_false h]; rfl
theorem nameB_impl {n : Nat} (s : ByteArray) (hn : 1000000000 < n) : impl_BoxName n s = some (nameB s) := by
  unfold impl_BoxName nameB
  by_cases h : (s.size : Int) = 11
  · have hr := cdR_rng (s.extract 0 10)
    have hb := byteAt_rng s 10
    rw [decide_eq_true h, Bool.not_true, cond_false, chk_dec (by omega), check_impl _ hn, Option.bind_some, ix_of (by omega) (by omega), w64_id (x := 48 + cdR (s.extract 0 10)) (by omega) (by omega)]
    by_cases h0 : cdR (s.extract 0 10) ≥ 0
    · rw [decide_eq_true h0, cond_true, wu8_id (by omega) (by omega)]; rfl
    · rw [decide_eq_false h0]; rfl
  · rw [decide_eq_false h]; rfl
def boxB (b : SBox) : Bool := nameB b.Name && (decide (1 ≤ b.Weight ∧ b.Weight ≤ 40000) && (decide (0 ≤ b.Class ∧ b.Class ≤ 9) && (decide (0 ≤ b.From ∧ b.From ≤ 19) && decide (b.From < b.To ∧ b.To ≤ 19))))
theorem boxB_spec {n : Nat} (b : SBox) (hn : 1000000000 < n) : spec_BoxOk n b = some (boxB b) := by
  unfold spec_BoxOk boxB
  rw [nameB_spec _ hn]
  simp only [in_specB, Option.bind_some, bd_eq]
  cases nameB b.Name with
  | false => rfl
  | true =>
    cases decide (1 ≤ b.Weight ∧ b.Weight ≤ 40000) with
    | false => rfl
    | true =>
      cases decide (0 ≤ b.Class ∧ b.Class ≤ 9) with
      | false => rfl
      | true =>
        by_cases h : 0 ≤ b.From ∧ b.From ≤ 19
        · rw [decide_eq_true h, w64_id (by omega) (by omega)]
          simp only [cond_true, Bool.true_and, Option.some.injEq, decide_eq_decide]
          omega
        · rw [decide_eq_false h]; rfl
theorem boxB_impl {n : Nat} (b : SBox) (hn : 1000000000 < n) : impl_BoxOk n b = some (boxB b) := by
  unfold impl_BoxOk boxB impl_portOk
  rw [nameB_impl _ hn]
  simp only [in_implB, Option.bind_some]
  cases nameB b.Name with
  | false => rfl
  | true =>
    cases decide (1 ≤ b.Weight ∧ b.Weight ≤ 40000) with
    | false => rfl
    | true =>
      cases decide (0 ≤ b.Class ∧ b.Class ≤ 9) with
      | false => rfl
      | true =>
        by_cases h : 0 ≤ b.From ∧ b.From ≤ 19
        · rw [decide_eq_true h]
          by_cases h2 : 0 ≤ b.To ∧ b.To ≤ 19
          · rw [decide_eq_true h2]
            simp only [cond_true, Bool.true_and, Option.some.injEq, decide_eq_decide]
            omega
          · rw [decide_eq_false h2]
            simp only [cond_true, cond_false, Bool.true_and, Option.some.injEq]
            exact (decide_eq_false (by omega)).symm
        · rw [decide_eq_false h]; rfl
theorem boxB_w {b : SBox} (h : boxB b = true) : 1 ≤ b.Weight ∧ b.Weight ≤ 40000 := by
  unfold boxB at h
  simp only [Bool.and_eq_true, decide_eq_true_eq] at h
  exact h.2.1
/-! ### Stacks -/
abbrev bx (l : List SBox) (i : Nat) : SBox := l.getD i dSBox
def wU (l : List SBox) : Nat → Int
  | 0 => 0
  | k + 1 => w64 (wU l k + (bx l k).Weight)
def okAt (l : List SBox) (i : Nat) : Bool := boxB (bx l i) && ((bif decide ((i : Int) > 0) then !decide ((bx l i).Weight > (bx l (i - 1)).Weight) else true) && (bif (bx l i).Cold then !decide ((i : Int) > 1) else true))
def stackB (l : List SBox) (most : Int) : Bool := decide ((l.length : Int) ≤ 20) && ((List.range l.length).all (okAt l) && (decide (0 ≤ most ∧ most ≤ 1000000) && decide (wU l l.length ≤ most)))
theorem stack_step {α : Type} {l : List SBox} {k : Nat} (hk : k < l.length) (hl : l.length ≤ 1000) {no : Option α} {J : Int → Int → Option α} (s : Int) :
    (bif !boxB (bx l k) then no else (bif decide ((k : Int) > 0) then ix (w64 ((k : Int) - 1)) l.length (bif decide ((bx l k).Weight > (l.getD (w64 ((k : Int) - 1)).toNat dSBox).Weight) then no else (bif (bx l k).Cold then (bif decide ((k : Int) > 1) then no else J (w64 (s + (bx l k).Weight)) (w64 ((k : Int) + 1))) else J (w64 (s + (bx l k).Weight)) (w64 ((k : Int) + 1)))) else (bif (bx l k).Cold then (bif decide ((k : Int) > 1) then no else J (w64 (s + (bx l k).Weight)) (w64 ((k : Int) + 1))) else J (w64 (s + (bx l k).Weight)) (w64 ((k : Int) + 1))))) =
    bif okAt l k then J (w64 (s + (bx l k).Weight)) ((k + 1 : Nat) : Int) else no := by
  unfold okAt
  rw [w64_succ (show k < 9223372036854775807 by omega)]
  cases boxB (bx l k) with
  | false => rfl
  | true =>
    cases k with
    | zero => cases (bx l 0).Cold <;> rfl
    | succ k =>
      have e1 : w64 (((k + 1 : Nat) : Int) - 1) = (k : Int) := by rw [w64_id (by omega) (by omega)]; omega
      rw [e1, ix_nat (show k < l.length by omega), Int.toNat_natCast, decide_eq_true (show ((k + 1 : Nat) : Int) > 0 by omega)]
      simp only [Bool.not_true, cond_false, cond_true, Nat.add_sub_cancel, Bool.true_and]
      cases decide ((bx l (k + 1)).Weight > (bx l k).Weight) <;> cases (bx l (k + 1)).Cold <;> cases decide (((k + 1 : Nat) : Int) > 1) <;> rfl
theorem stack_impl {n : Nat} (l : List SBox) (most : Int) (hl : l.length ≤ 1000) (hn : 1000000000 < n) : impl_StackOk n l most = some (stackB l most) := by
  unfold impl_StackOk stackB
  by_cases h20 : (l.length : Int) ≤ 20
  · rw [decide_eq_false (show ¬ (l.length : Int) > 20 by omega), cond_false, decide_eq_true h20, Bool.true_and, in_implB, Option.bind_some]
    cases hm : decide (0 ≤ most ∧ most ≤ 1000000) with
    | false => cases (List.range l.length).all (okAt l) <;> rfl
    | true =>
      rw [Bool.not_true, cond_false, Bool.true_and]
      refine loopN_ind (fun x : Int × Int => l.length - x.2.toNat) (fun x => ∃ k : Nat, x.2 = (k : Int) ∧ k ≤ l.length ∧ x.1 = wU l k ∧ ∀ i, i < k → okAt l i = true) (fun x r => r = some ((List.range l.length).all (okAt l) && decide (wU l l.length ≤ most))) ?_ n _ ⟨0, rfl, by omega, rfl, fun i hi => absurd hi (Nat.not_lt_zero _)⟩ (by simp; omega)
      rintro ⟨_, _⟩ J ⟨k, rfl, hk, rfl, hg⟩ ih
      show impl_StackOk_L5 n _ _ _ l most (wU l k) l (l.length : Int) (k : Int) = _
      unfold impl_StackOk_L5
      by_cases h : k < l.length
      · rw [decide_eq_true (by omega), cond_true]
        unfold impl_StackOk_k0
        rw [ix_nat h, bd_eq, Int.toNat_natCast, boxB_impl _ hn, Option.bind_some]
        simp only [bd_eq]
        refine (stack_step (J := fun a b => J (a, b)) h hl (wU l k)).trans ?_
        cases ho : okAt l k with
        | true => exact ih _ ⟨k + 1, rfl, h, rfl, fun i hi => by
            by_cases e : i = k
            · rw [e]; exact ho
            · exact hg i (by omega)⟩ (by simp; omega)
        | false =>
          rw [all_range_not h ho]
          rfl
      · have : k = l.length := by omega
        subst this
        rw [decide_eq_false (by omega), cond_false, show (List.range l.length).all (okAt l) = true from by rw [List.all_eq_true]; exact fun i hi => hg i (List.mem_range.1 hi)]
        rfl
  · rw [decide_eq_true (show (l.length : Int) > 20 by omega), cond_true, decide_eq_false h20]
    rfl
theorem stack_spec {n : Nat} (l : List SBox) (most : Int) (hl : l.length ≤ 1000) (hn : 1000000000 < n) : spec_StackOk n l most = some (stackB l most) := by
  unfold spec_StackOk
  by_cases h20 : (l.length : Int) ≤ 20
  · unfold stackB
    rw [decide_eq_true h20, Bool.true_and]
    refine loopN_ind (fun x : Int × Int => l.length - x.2.toNat) (fun x => ∃ k : Nat, x.2 = (k : Int) ∧ k ≤ l.length ∧ x.1 = wU l k ∧ ∀ i, i < k → okAt l i = true) (fun x r => r = some ((List.range l.length).all (okAt l) && (decide (0 ≤ most ∧ most ≤ 1000000) && decide (wU l l.length ≤ most)))) ?_ n _ ⟨0, rfl, by omega, rfl, fun i hi => absurd hi (Nat.not_lt_zero _)⟩ (by simp; omega)
    rintro ⟨_, _⟩ J ⟨k, rfl, hk, rfl, hg⟩ ih
    show spec_StackOk_L3 n _ _ _ l most (wU l k) (k : Int) = _
    unfold spec_StackOk_L3
    by_cases h : k < l.length
    · rw [decide_eq_true (by omega), cond_true]
      unfold spec_StackOk_k0
      rw [ix_nat h, bd_eq, Int.toNat_natCast, decide_eq_false (show ¬ (l.length : Int) > 20 by omega), cond_false, boxB_spec _ hn, Option.bind_some]
      simp only [bd_eq]
      refine (stack_step (J := fun a b => J (a, b)) h hl (wU l k)).trans ?_
      cases ho : okAt l k with
      | true => exact ih _ ⟨k + 1, rfl, h, rfl, fun i hi => by
          by_cases e : i = k
          · rw [e]; exact ho
          · exact hg i (by omega)⟩ (by simp; omega)
      | false =>
        rw [all_range_not h ho]
        rfl
    · have : k = l.length := by omega
      subst this
      rw [decide_eq_false (by omega), cond_false, show (List.range l.length).all (okAt l) = true from by rw [List.all_eq_true]; exact fun i hi => hg i (List.mem_range.1 hi), in_specB]
      dsimp only
      rw [Option.bind_some, Bool.true_and]
      cases decide (0 ≤ most ∧ most ≤ 1000000) <;> rfl
  · obtain ⟨m, rfl⟩ : ∃ m, n = m + 1 := ⟨n - 1, by omega⟩
    rw [loopN_succ]
    unfold spec_StackOk_L3 spec_StackOk_k0 stackB
    rw [decide_eq_true (show (0 : Int) < (l.length : Int) by omega), cond_true, ix_of (by omega) (by omega), bd_eq, decide_eq_true (show (l.length : Int) > 20 by omega), cond_true, decide_eq_false h20]
    rfl
theorem wU_rng {l : List SBox} (h : ∀ i, i < l.length → boxB (bx l i) = true) (hl : l.length ≤ 1000) : ∀ k, k ≤ l.length → (k : Int) ≤ wU l k ∧ wU l k ≤ 40000 * (k : Int)
  | 0, _ => ⟨Int.le_refl _, Int.le_refl _⟩
  | k + 1, hk => by
    have h1 := wU_rng h hl k (by omega)
    have h2 := boxB_w (h k (by omega))
    show ((k + 1 : Nat) : Int) ≤ w64 (wU l k + (bx l k).Weight) ∧ w64 (wU l k + (bx l k).Weight) ≤ _
    rw [w64_id (by omega) (by omega)]
    omega
theorem bx_take {l : List SBox} {m i : Nat} (h : i < m) : bx (l.take m) i = bx l i := by
  unfold bx
  simp [List.getD_eq_getElem?_getD, List.getElem?_take, h]
theorem wU_take {l : List SBox} {m : Nat} : ∀ k, k ≤ m → wU (l.take m) k = wU l k
  | 0, _ => rfl
  | k + 1, hk => by
    show w64 (wU (l.take m) k + (bx (l.take m) k).Weight) = w64 (wU l k + (bx l k).Weight)
    rw [wU_take k (by omega), bx_take (by omega)]
theorem okAt_box {l : List SBox} {i : Nat} (h : okAt l i = true) : boxB (bx l i) = true := by
  unfold okAt at h
  rw [Bool.and_eq_true] at h
  exact h.1
theorem stack_less {l : List SBox} {most : Int} {m : Nat} (hm : l.length = m + 1) (hl : l.length ≤ 1000) (h : stackB l most = true) : stackB (l.take m) most = true := by
  unfold stackB at h ⊢
  simp only [Bool.and_eq_true, decide_eq_true_eq, List.all_eq_true, List.mem_range] at h ⊢
  obtain ⟨h1, h2, h3, h4⟩ := h
  have hlen : (l.take m).length = m := by rw [List.length_take]; omega
  have hr := wU_rng (fun i hi => okAt_box (h2 i hi)) hl
  refine ⟨by rw [hlen]; omega, fun i hi => ?_, h3, ?_⟩
  · rw [hlen] at hi
    have := h2 i (by omega)
    unfold okAt at this ⊢
    rw [bx_take hi, bx_take (show i - 1 < m by omega)]
    exact this
  · rw [hlen, wU_take m (Nat.le_refl _)]
    rw [hm] at h4
    have e : wU l (m + 1) = w64 (wU l m + (bx l m).Weight) := rfl
    have r1 := hr m (by omega)
    have r2 := boxB_w (okAt_box (h2 m (by omega)))
    rw [e, w64_id (by omega) (by omega)] at h4
    omega
end Go.Sm
end

section
set_option linter.unusedSimpArgs false
set_option linter.deprecated false
set_option linter.unusedSectionVars false
set_option linter.unusedVariables false
set_option linter.unusedSimpArgs false
namespace Go.Sm
attribute [local irreducible] bd chk ix loopN
/-! ### Lashes -/
def lashV (l : List SBox) (wind : Int) (k : Nat) : Int := w64 (w64 (w64 (100 * wind) * w64 ((l.length : Int) - (k : Int))) - w64 (Int.tdiv (wU l (k + 1)) 10))
def lashU (l : List SBox) (wind : Int) : Nat → Int
  | 0 => 0
  | k + 1 => bif decide (lashV l wind k > 0) then w64 (lashU l wind k + w64 (Int.tdiv (w64 (lashV l wind k + 499)) 500)) else lashU l wind k
theorem lashU_succ (l : List SBox) (wind : Int) (k : Nat) : lashU l wind (k + 1) = bif decide (lashV l wind k > 0) then w64 (lashU l wind k + w64 (Int.tdiv (w64 (lashV l wind k + 499)) 500)) else lashU l wind k := rfl
def allB (l : List SBox) : Bool := (List.range l.length).all fun i => boxB (bx l i)
def lashR (l : List SBox) (wind : Int) : Int × Bool := if (l.length : Int) ≤ 20 ∧ (0 ≤ wind ∧ wind ≤ 100) ∧ allB l = true then (lashU l wind l.length, true) else (0, false)
theorem bad_box {n : Nat} (l : List SBox) (hl : l.length ≤ 1000) (hn : 1000000000 < n) : slices_ContainsFunc_impl_Box_impl_Box__impl_Lashes_1 n l = some (!allB l) := by
  unfold slices_ContainsFunc_impl_Box_impl_Box__impl_Lashes_1 slices_IndexFunc_impl_Box_impl_Box__impl_Lashes_1
  rw [loop_idx (p := fun k => !boxB (bx l k)) (len := l.length) (by omega) (fun k J hk _ => ?_) (fun J _ => ?_) (by omega), Option.bind_some, idxOf_ge]
  · unfold allB
    congr 1
    rw [Bool.eq_iff_iff]
    simp only [List.any_eq_true, Bool.not_eq_true', List.all_eq_false]
    constructor
    · rintro ⟨x, h1, h2⟩; exact ⟨x, h1, by rw [h2]; decide⟩
    · rintro ⟨x, h1, h2⟩; exact ⟨x, h1, by simpa using h2⟩
  · unfold slices_IndexFunc_impl_Box_impl_Box__impl_Lashes_1_L2 impl_Lashes_1
    simp only [Int.ofNat_lt, hk, decide_true, cond_true, ix_nat hk, Int.toNat_natCast, bd_eq, boxB_impl _ hn, Option.bind_some, w64_succ (show k < 9223372036854775807 by omega)]
  · unfold slices_IndexFunc_impl_Box_impl_Box__impl_Lashes_1_L2
    simp only [Int.lt_irrefl, decide_false, cond_false]
theorem lash_impl {n : Nat} (l : List SBox) (wind : Int) (hl : l.length ≤ 1000) (hn : 1000000000 < n) : impl_Lashes n l wind = some (lashR l wind) := by
  unfold impl_Lashes lashR
  by_cases h20 : (l.length : Int) ≤ 20
  · rw [decide_eq_false (show ¬ (l.length : Int) > 20 by omega), cond_false, in_implB, Option.bind_some]
    by_cases hw : 0 ≤ wind ∧ wind ≤ 100
    · rw [decide_eq_true hw, Bool.not_true, cond_false, bad_box l hl hn, Option.bind_some]
      unfold impl_Lashes_k1
      cases ha : allB l with
      | false => rw [if_neg (fun h => by cases h.2.2)]; rfl
      | true =>
        rw [Bool.not_true, cond_false, if_pos ⟨h20, hw, rfl⟩]
        refine loop_runS (S := Int × Int) (X := Int × Int × Int) (enc := fun k s => (s.1, s.2, k)) (len := l.length) (I := fun k s => s = (lashU l wind k, wU l k)) (Q := fun r => r = some (lashU l wind l.length, true)) (fun k s J hk hI => ?_) (fun s J hI => ?_) (by omega) (s0 := (0, 0)) rfl
        · refine ⟨_, rfl, ?_⟩
          subst hI
          show impl_Lashes_L5 n _ _ l wind (lashU l wind k) (wU l k) l (l.length : Int) (k : Int) = _
          unfold impl_Lashes_L5 impl_Lashes_k0
          rw [decide_eq_true (by omega), cond_true, ix_nat hk]
          simp only [bd_eq, Int.toNat_natCast, w64_succ (show k < 9223372036854775807 by omega)]
          show (bif decide (lashV l wind k > 0) then _ else _) = J (_, _, _)
          rw [lashU_succ]
          cases decide (lashV l wind k > 0) <;> rfl
        · subst hI
          show impl_Lashes_L5 n _ _ l wind (lashU l wind l.length) (wU l l.length) l (l.length : Int) (l.length : Int) = _
          unfold impl_Lashes_L5
          rw [decide_eq_false (by omega), cond_false]
    · rw [decide_eq_false hw, Bool.not_false, cond_true, if_neg (fun h => hw h.2.1)]
  · rw [decide_eq_true (show (l.length : Int) > 20 by omega), cond_true, if_neg (fun h => h20 h.1)]
theorem lash_spec {n : Nat} (l : List SBox) (wind : Int) (hl : l.length ≤ 1000) (hn : 1000000000 < n) : spec_Lashes n l wind = some (lashR l wind) := by
  unfold spec_Lashes
  by_cases h20 : (l.length : Int) ≤ 20
  · rw [decide_eq_false (show ¬ (l.length : Int) > 20 by omega), cond_false, in_specB, Option.bind_some]
    unfold spec_Lashes_k1
    by_cases hw : 0 ≤ wind ∧ wind ≤ 100
    · rw [decide_eq_true hw, Bool.not_true, cond_false]
      refine loopN_ind (fun x : Int × Int × Int => l.length - x.2.2.toNat) (fun x => ∃ k : Nat, x = (lashU l wind k, wU l k, (k : Int)) ∧ k ≤ l.length ∧ ∀ i, i < k → boxB (bx l i) = true) (fun x r => r = some (lashR l wind)) ?_ n _ ⟨0, rfl, by omega, fun i hi => absurd hi (Nat.not_lt_zero _)⟩ (by simp; omega)
      rintro _ J ⟨k, rfl, hk, hg⟩ ih
      show spec_Lashes_L5 n _ _ _ l wind (lashU l wind k) (wU l k) (k : Int) = _
      unfold spec_Lashes_L5
      by_cases h : k < l.length
      · rw [decide_eq_true (by omega), cond_true, ix_nat h, bd_eq, Int.toNat_natCast, boxB_spec _ hn, Option.bind_some]
        cases hb : boxB (l.getD k dSBox) with
        | false =>
          have ha : allB l = false := by unfold allB; exact all_range_not h hb
          unfold lashR
          rw [if_neg (fun h => by rw [ha] at h; cases h.2.2)]
          rfl
        | true =>
          rw [Bool.not_true, cond_false]
          unfold spec_Lashes_k0
          rw [ix_nat h]
          simp only [bd_eq, Int.toNat_natCast, w64_succ (show k < 9223372036854775807 by omega)]
          have key := ih (lashU l wind (k + 1), wU l (k + 1), ((k + 1 : Nat) : Int)) ⟨k + 1, rfl, h, fun i hi => by
            by_cases e : i = k
            · rw [e]; exact hb
            · exact hg i (by omega)⟩ (by simp; omega)
          refine Eq.trans ?_ key
          show (bif decide (lashV l wind k > 0) then _ else _) = J (_, _, _)
          rw [lashU_succ]
          cases decide (lashV l wind k > 0) <;> rfl
      · have : k = l.length := by omega
        subst this
        rw [decide_eq_false (by omega), cond_false]
        have ha : allB l = true := by unfold allB; rw [List.all_eq_true]; exact fun i hi => hg i (List.mem_range.1 hi)
        unfold lashR
        rw [if_pos ⟨h20, hw, ha⟩]
    · rw [decide_eq_false hw, Bool.not_false, cond_true]
      unfold lashR
      rw [if_neg (fun h => hw h.2.1)]
  · rw [decide_eq_true (show (l.length : Int) > 20 by omega), cond_true]
    unfold lashR
    rw [if_neg (fun h => h20 h.1)]
theorem lashV_eq {l : List SBox} (hb : ∀ i, i < l.length → boxB (bx l i) = true) (h20 : (l.length : Int) ≤ 20) {wind : Int} (hw : 0 ≤ wind ∧ wind ≤ 100) {k : Nat} (hk : k < l.length) :
    ∃ t, 0 ≤ t ∧ t ≤ 80000 ∧ lashV l wind k = 100 * wind * ((l.length : Int) - (k : Int)) - t ∧ 0 ≤ 100 * wind * ((l.length : Int) - (k : Int)) ∧ 100 * wind * ((l.length : Int) - (k : Int)) ≤ 10000 * 20 ∧ t = Int.tdiv (wU l (k + 1)) 10 := by
  have h1 := wU_rng hb (by omega) (k + 1) hk
  have h2 : 0 ≤ 100 * wind * ((l.length : Int) - (k : Int)) := Int.mul_nonneg (by omega) (by omega)
  have h3 : 100 * wind * ((l.length : Int) - (k : Int)) ≤ 10000 * 20 := Int.mul_le_mul (by omega) (by omega) (by omega) (by omega)
  have h4 : Int.tdiv (wU l (k + 1)) 10 = wU l (k + 1) / 10 := Int.tdiv_eq_ediv_of_nonneg (by omega)
  refine ⟨Int.tdiv (wU l (k + 1)) 10, by rw [h4]; omega, by rw [h4]; omega, ?_, h2, h3, rfl⟩
  unfold lashV
  rw [w64_id (x := 100 * wind) (by omega) (by omega), w64_id (x := (l.length : Int) - (k : Int)) (by omega) (by omega), w64_id (x := 100 * wind * ((l.length : Int) - (k : Int))) (by omega) (by omega), w64_id (x := Int.tdiv (wU l (k + 1)) 10) (by rw [h4]; omega) (by rw [h4]; omega), w64_id (by rw [h4]; omega) (by rw [h4]; omega)]
theorem lashU_step {l : List SBox} (hb : ∀ i, i < l.length → boxB (bx l i) = true) (h20 : (l.length : Int) ≤ 20) {wind : Int} (hw : 0 ≤ wind ∧ wind ≤ 100) {k : Nat} (hk : k < l.length) (hr : 0 ≤ lashU l wind k ∧ lashU l wind k ≤ 1000 * (k : Int)) :
    lashU l wind (k + 1) = lashU l wind k + (if lashV l wind k > 0 then (lashV l wind k + 499) / 500 else 0) := by
  obtain ⟨t, t1, t2, t3, t4, t5, _⟩ := lashV_eq hb h20 hw hk
  show (bif decide (lashV l wind k > 0) then _ else _) = _
  rw [bif_dec]
  split
  · have e : Int.tdiv (lashV l wind k + 499) 500 = (lashV l wind k + 499) / 500 := Int.tdiv_eq_ediv_of_nonneg (by omega)
    rw [w64_id (x := lashV l wind k + 499) (by omega) (by omega), e, w64_id (x := (lashV l wind k + 499) / 500) (by omega) (by omega), w64_id (by omega) (by omega)]
  · omega
theorem lashU_rng {l : List SBox} (hb : ∀ i, i < l.length → boxB (bx l i) = true) (h20 : (l.length : Int) ≤ 20) {wind : Int} (hw : 0 ≤ wind ∧ wind ≤ 100) : ∀ k, k ≤ l.length → 0 ≤ lashU l wind k ∧ lashU l wind k ≤ 1000 * (k : Int)
  | 0, _ => ⟨Int.le_refl _, Int.le_refl _⟩
  | k + 1, hk => by
    have h1 := lashU_rng hb h20 hw k (by omega)
    obtain ⟨t, t1, t2, t3, t4, t5, _⟩ := lashV_eq hb h20 hw (show k < l.length by omega)
    rw [lashU_step hb h20 hw (by omega) h1]
    split <;> omega
theorem lashU_mono {l : List SBox} (hb : ∀ i, i < l.length → boxB (bx l i) = true) (h20 : (l.length : Int) ≤ 20) {a b : Int} (ha : 0 ≤ a ∧ a ≤ b) (hw : b ≤ 100) : ∀ k, k ≤ l.length → lashU l a k ≤ lashU l b k
  | 0, _ => Int.le_refl _
  | k + 1, hk => by
    have h1 := lashU_mono hb h20 ha hw k (by omega)
    have r1 := lashU_rng (wind := a) hb h20 ⟨ha.1, by omega⟩ k (by omega)
    have r2 := lashU_rng (wind := b) hb h20 ⟨by omega, hw⟩ k (by omega)
    obtain ⟨t, t1, t2, t3, t4, t5, t6⟩ := lashV_eq (wind := a) hb h20 ⟨ha.1, by omega⟩ (show k < l.length by omega)
    obtain ⟨u, u1, u2, u3, u4, u5, u6⟩ := lashV_eq (wind := b) hb h20 ⟨by omega, hw⟩ (show k < l.length by omega)
    have hm : 100 * a * ((l.length : Int) - (k : Int)) ≤ 100 * b * ((l.length : Int) - (k : Int)) := Int.mul_le_mul_of_nonneg_right (by omega) (by omega)
    rw [lashU_step hb h20 ⟨ha.1, by omega⟩ (by omega) r1, lashU_step hb h20 ⟨by omega, hw⟩ (by omega) r2]
    split <;> split <;> omega
theorem lashU_zero {l : List SBox} (hb : ∀ i, i < l.length → boxB (bx l i) = true) (h20 : (l.length : Int) ≤ 20) : ∀ k, k ≤ l.length → lashU l 0 k = 0
  | 0, _ => rfl
  | k + 1, hk => by
    have h1 := lashU_zero hb h20 k (by omega)
    obtain ⟨t, t1, t2, t3, t4, t5, _⟩ := lashV_eq (wind := 0) hb h20 (by omega) (show k < l.length by omega)
    rw [lashU_step hb h20 (by omega) (by omega) (by omega), if_neg (by rw [t3]; omega), h1]
    rfl
theorem one_box : lashR [⟨str [67, 83, 81, 85, 51, 48, 53, 52, 51, 56, 51], 10, 0, false, 0, 1⟩] 10 = (2, true) := by decide +kernel
theorem at_okB {n : Nat} (code : List Int) (hc : code.length ≤ 1048576) (hr : ∀ y ∈ code, rng 0 255 y) {i : Int} (hi : 0 ≤ i ∧ i ≤ 100) : ∃ v, laws_at n code i = some v ∧ 0 ≤ v ∧ v ≤ 255 := by
  unfold laws_at
  by_cases h : i < (code.length : Int)
  · rw [decide_eq_true h, cond_true, ix_of hi.1 h]
    have := hr _ (getD_mem (l := code) (d := 0) (show i.toNat < code.length by omega))
    unfold rng at this
    exact ⟨_, rfl, by rw [w64_id (by omega) (by omega)]; exact this⟩
  · rw [decide_eq_false h, cond_false, bd_eq, bd_eq, w64_id (x := i * 7) (by omega) (by omega), w64_id (by omega) (by omega)]
    exact ⟨_, rfl, Int.tmod_nonneg _ (by omega), by have := Int.tmod_lt_of_pos (i * 7 + (code.length : Int)) (show (0 : Int) < 256 by omega); omega⟩
theorem stacks_tail {n : Nat} (code : List Int) (hc : code.length ≤ 1048576) (hr : ∀ y ∈ code, rng 0 255 y) (l : List SBox) (hl : l.length ≤ 1000) (hn : 1000000000 < n) : laws_FnStacks_k0 n code l = some true := by
  obtain ⟨v, e1, a1⟩ := at_okB (n := n) code hc hr (i := 1) (by omega)
  obtain ⟨u, e2, a2⟩ := at_okB (n := n) code hc hr (i := 2) (by omega)
  have b1 : 0 ≤ Int.tmod v 60 ∧ Int.tmod v 60 < 60 := ⟨Int.tmod_nonneg _ a1.1, Int.tmod_lt_of_pos _ (by omega)⟩
  have b2 : 0 ≤ Int.tmod u 40 ∧ Int.tmod u 40 < 40 := ⟨Int.tmod_nonneg _ a2.1, Int.tmod_lt_of_pos _ (by omega)⟩
  unfold laws_FnStacks_k0
  simp only [e1, e2, Option.bind_some, bd_eq]
  generalize Int.tmod v 60 = a at *
  generalize Int.tmod u 40 = d at *
  rw [w64_id (x := a + d) (by omega) (by omega), lash_impl l a hl hn, Option.bind_some, lash_impl l (a + d) hl hn, Option.bind_some, lash_impl l 0 hl hn, Option.bind_some, lash_impl _ 10 (by simp) hn, Option.bind_some, lash_spec l 1 hl hn, Option.bind_some, one_box]
  by_cases h : (l.length : Int) ≤ 20 ∧ allB l = true
  · have hb : ∀ i, i < l.length → boxB (bx l i) = true := fun i hi => by
      have := h.2
      unfold allB at this
      exact List.all_eq_true.1 this i (List.mem_range.2 hi)
    have q : ∀ w : Int, 0 ≤ w ∧ w ≤ 100 → lashR l w = (lashU l w l.length, true) := fun w hw => by unfold lashR; rw [if_pos ⟨h.1, hw, h.2⟩]
    rw [q 1 (by omega), q a (by omega), q (a + d) (by omega), q 0 (by omega)]
    have m1 := lashU_mono hb h.1 (a := a) (b := a + d) (by omega) (by omega) l.length (Nat.le_refl _)
    have m2 := lashU_zero hb h.1 l.length (Nat.le_refl _)
    simp only [Bool.not_true, cond_false, cond_true, decide_eq_true m1, m2, decide_true]
  · have q : ∀ w : Int, lashR l w = (0, false) := fun w => by unfold lashR; rw [if_neg (fun x => h ⟨x.1, x.2.2⟩)]
    rw [q 1, q a, q (a + d)]
    rfl
theorem laws_FnStacks_true (code0 : List Int) (h0 : (code0.length ≤ 9223372036854775807 ∧ ∀ y ∈ code0, rng 0 255 y)) : ∃ n, laws_FnStacks n code0 = some true := by
  refine ⟨1000000001, ?_⟩
  generalize hN : (1000000001 : Nat) = n
  have hn : 1000000000 < n := by omega
  unfold laws_FnStacks laws_big
  rw [Option.bind_some, bif_dec]
  split
  · rfl
  · obtain ⟨l, most, e1, hl⟩ := drawStackOk_ok (n := n) code0 (by omega) hn
    have ht := stacks_tail (n := n) code0 (by omega) h0.2 l (by omega) hn
    unfold laws_FnStacks_k1
    rw [e1, Option.bind_some]
    dsimp only
    rw [stack_impl l most (by omega) hn, Option.bind_some, stack_spec l most (by omega) hn, Option.bind_some, beq_self_eq_true, Bool.not_true, cond_false, ht]
    cases hs : stackB l most with
    | false => rfl
    | true =>
      rw [cond_true]
      by_cases h : 0 < l.length
      · obtain ⟨m, hm⟩ : ∃ m, l.length = m + 1 := ⟨l.length - 1, by omega⟩
        have e : w64 ((l.length : Int) - 1) = (m : Int) := by rw [w64_id (by omega) (by omega)]; omega
        rw [decide_eq_true (by omega), cond_true, bd_eq, e, chk_dec (by omega), chk_dec (by omega), chk_dec (by omega), List.drop_zero, Nat.sub_zero, Int.toNat_natCast, stack_impl _ most (by rw [List.length_take]; omega) hn, Option.bind_some, stack_less hm (by omega) hs]
        rfl
      · rw [decide_eq_false (by omega)]
        rfl
end Go.Sm
end
