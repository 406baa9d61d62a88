import Derived.Test.YtakllmgiobpmgaaEngE
import Derived.Test.YtakllmgiobpmgaaEngA
/- The functions as plain functions over data, and that the law answers true for all arguments. Title: along the drawn ops of a drawn book goods are handed over at most once, to who held an original; what is refused changes nothing; title is one's. -/
set_option linter.unusedSimpArgs false
set_option linter.deprecated false
set_option linter.unusedSectionVars false
set_option linter.unusedVariables false
noncomputable section
namespace Go.Sm
structure SBill where
  Id : Int
  Shipper : ByteArray
  Order : ByteArray
  Many : Int
  Held : List ByteArray
structure SBook where
  Bills : List SBill
  Freed : List Int
structure SBillOp where
  Kind : Int
  Id : Int
  Who : ByteArray
  To : ByteArray
  Number : Int
  Many : Int
structure Sl1Cur where
  b : List Int
  i : Int
  h : Int
def dSBill : SBill := ⟨(0 : Int), str [], str [], (0 : Int), []⟩
def dSBook : SBook := ⟨[], []⟩
def dSBillOp : SBillOp := ⟨(0 : Int), (0 : Int), str [], str [], (0 : Int), (0 : Int)⟩
def dSl1Cur : Sl1Cur := ⟨[], (0 : Int), (0 : Int)⟩
def laws_big (n : Nat) (code0 : List Int) : Option Bool :=
  some ((decide ((code0.length : Int) > (1048576 : Int))))
def spec_l1New_k0 {R : Type} (n : Nat) (kx0 : Int → Option R) (J : Int → Int → Option R) (code2 : List Int) (h8 : Int) (i9 : Int) : Option R :=
  ix i9 code2.length ((bd (w64 ((w64 (h8 * (131 : Int))) + (w64 (code2.getD i9.toNat (0 : Int))))) fun (v10 : Int) => (bd (w64 (((BitVec.ofInt 64 (w64 (v10 + (7 : Int))) &&& BitVec.ofInt 64 (1073741823 : Int)).toNat : Nat) : Int)) fun (v11 : Int) => J v11 (w64 (i9 + (1 : Int))))))
def spec_l1New_L3 {R : Type} (n : Nat) (kx0 : Int → Option R) (J : Int → Int → Option R) (code2 : List Int) (h3 : Int) (i4 : Int) : Option R :=
  (bif (decide (i4 < (code2.length : Int))) then (bif (decide (i4 < (4000 : Int))) then spec_l1New_k0 n kx0 J code2 h3 i4 else kx0 h3) else kx0 h3)
def spec_l1New (n : Nat) (code0 : List Int) : Option Sl1Cur :=
  (bd (w64 ((59059 : Int) + (code0.length : Int))) fun (v1 : Int) => loopN (fun (x : Int × Int) J' => spec_l1New_L3 n (fun h16 => some ((⟨code0, (0 : Int), h16⟩ : Sl1Cur))) (fun h17 i18 => J' (h17, i18)) code0 x.1 x.2) n (v1, (0 : Int)))
def spec_l1Byte (n : Nat) (c0 : Sl1Cur) : Option (Int × Sl1Cur) :=
  (bd (w64 (c0.h * (6364136223846793005 : Int))) fun (v1 : Int) => (bd (w64 (v1 + (1442695040888963407 : Int))) fun (v2 : Int) => (bd (Int.fdiv v2 (2 ^ (min (33 : Int).toNat 64))) fun (v3 : Int) => (bd (Int.fdiv v2 (2 ^ (min (45 : Int).toNat 64))) fun (v4 : Int) => (bd (w64 (((BitVec.ofInt 64 v3 ^^^ BitVec.ofInt 64 v4).toNat : Nat) : Int)) fun (v5 : Int) => (bd (w64 (((BitVec.ofInt 64 v5 &&& BitVec.ofInt 64 (255 : Int)).toNat : Nat) : Int)) fun (v6 : Int) => (bif (decide (c0.i < (c0.b.length : Int))) then ix c0.i c0.b.length ((bd (w64 (v6 + (w64 (c0.b.getD c0.i.toNat (0 : Int))))) fun (v7 : Int) => (bd (w64 (((BitVec.ofInt 64 v7 &&& BitVec.ofInt 64 (255 : Int)).toNat : Nat) : Int)) fun (v8 : Int) => some (v8, (⟨c0.b, (w64 (c0.i + (1 : Int))), v2⟩ : Sl1Cur))))) else some (v6, (⟨c0.b, c0.i, v2⟩ : Sl1Cur)))))))))
def spec_l1Below_k0 (n : Nat)  (n1 : Int) (p3 : Sl1Cur) : Option (Int × Sl1Cur) :=
  (spec_l1Byte n p3).bind fun r4 => (spec_l1Byte n r4.2).bind fun r5 => (spec_l1Byte n r5.2).bind fun r6 => (spec_l1Byte n r6.2).bind fun r7 => (bd (w64 (r4.1 * (16777216 : Int))) fun (v8 : Int) => (bd (w64 (r5.1 * (65536 : Int))) fun (v9 : Int) => (bd (w64 (r6.1 * (256 : Int))) fun (v10 : Int) => (bd (w64 ((w64 (v8 + v9)) + v10)) fun (v11 : Int) => (bif decide (n1 = 0) then none else (bd (Int.tmod (w64 (v11 + r7.1)) n1) fun (v12 : Int) => some (v12, r7.2)))))))
def spec_l1Below (n : Nat) (c0 : Sl1Cur) (n1 : Int) : Option (Int × Sl1Cur) :=
  (bif (decide (n1 ≤ (0 : Int))) then some ((0 : Int), c0) else (bif (decide (n1 ≤ (256 : Int))) then (spec_l1Byte n c0).bind fun r13 => (bif decide (n1 = 0) then none else some ((Int.tmod r13.1 n1), r13.2)) else spec_l1Below_k0 n  n1 c0))
def spec_l1Pick (n : Nat) (c0 : Sl1Cur) (list1 : List ByteArray) : Option (ByteArray × Sl1Cur) :=
  (spec_l1Below n c0 (list1.length : Int)).bind fun r1 => ix r1.1 list1.length (some ((list1.getD r1.1.toNat (str [])), r1.2))
def spec_l14Who (n : Nat) (c0 : Sl1Cur) : Option (ByteArray × Sl1Cur) :=
  (spec_l1Pick n c0 [str [97, 110, 110], str [98, 111, 98], str [99, 121, 100], str [100, 111, 116]]).bind fun r1 => some (r1.1, r1.2)
def spec_l1Once (n : Nat) (c0 : Sl1Cur) (n1 : Int) : Option (Bool × Sl1Cur) :=
  (spec_l1Below n c0 n1).bind fun r1 => some ((decide (r1.1 = (0 : Int))), r1.2)
def spec_l1PickInt (n : Nat) (c0 : Sl1Cur) (list1 : List Int) : Option (Int × Sl1Cur) :=
  (spec_l1Below n c0 (list1.length : Int)).bind fun r1 => ix r1.1 list1.length (some ((list1.getD r1.1.toNat (0 : Int)), r1.2))
def spec_l14DrawOp_k0 (n : Nat)  (p16 : Sl1Cur) (op17 : Int) (op18 : Int) (op19 : ByteArray) (op20 : Int) (op21 : Int) : Option (SBillOp × Sl1Cur) :=
  (spec_l1Below n p16 (40 : Int)).bind fun r22 => (bif (decide (r22.1 = (0 : Int))) then (spec_l1PickInt n r22.2 [(0 : Int), (6 : Int)]).bind fun r23 => some ((⟨r23.1, op18, op19, str [], op20, op21⟩ : SBillOp), r23.2) else (bif (decide (r22.1 = (1 : Int))) then (spec_l1PickInt n r22.2 [(0 : Int), (1000000 : Int), (1000001 : Int)]).bind fun r30 => some ((⟨op17, r30.1, op19, str [], op20, op21⟩ : SBillOp), r30.2) else (bif (decide (r22.1 = (2 : Int))) then (spec_l1Pick n r22.2 [str [], str [97, 32, 98], str [97, 98, 99, 100, 101, 102, 103, 104, 105, 106, 107, 108, 109, 110, 111, 112, 113, 114, 115, 116, 117]]).bind fun r37 => some ((⟨op17, op18, r37.1, str [], op20, op21⟩ : SBillOp), r37.2) else (bif (decide (r22.1 = (3 : Int))) then (spec_l1Pick n r22.2 [str [], str [97, 95, 98], str [97, 98, 99, 100, 101, 102, 103, 104, 105, 106, 107, 108, 109, 110, 111, 112, 113, 114, 115, 116]]).bind fun r44 => some ((⟨op17, op18, op19, r44.1, op20, op21⟩ : SBillOp), r44.2) else (bif (decide (r22.1 = (4 : Int))) then (spec_l1PickInt n r22.2 [(0 : Int), (5 : Int), (6 : Int)]).bind fun r52 => some ((⟨op17, op18, op19, str [], op20, r52.1⟩ : SBillOp), r52.2) else (bif (decide (r22.1 = (5 : Int))) then (spec_l1PickInt n r22.2 [(-1 : Int), (5 : Int)]).bind fun r59 => some ((⟨op17, op18, op19, str [], r59.1, op21⟩ : SBillOp), r59.2) else some ((⟨op17, op18, op19, str [], op20, op21⟩ : SBillOp), r22.2)))))))
def spec_l14DrawOp_k1 (n : Nat)  (p72 : Sl1Cur) (op73 : Int) (op74 : Int) (op75 : ByteArray) (op76 : ByteArray) (op77 : Int) (op78 : Int) : Option (SBillOp × Sl1Cur) :=
  (spec_l1Below n p72 (40 : Int)).bind fun r79 => (bif (decide (r79.1 = (0 : Int))) then (spec_l1PickInt n r79.2 [(0 : Int), (6 : Int)]).bind fun r80 => some ((⟨r80.1, op74, op75, op76, op77, op78⟩ : SBillOp), r80.2) else (bif (decide (r79.1 = (1 : Int))) then (spec_l1PickInt n r79.2 [(0 : Int), (1000000 : Int), (1000001 : Int)]).bind fun r88 => some ((⟨op73, r88.1, op75, op76, op77, op78⟩ : SBillOp), r88.2) else (bif (decide (r79.1 = (2 : Int))) then (spec_l1Pick n r79.2 [str [], str [97, 32, 98], str [97, 98, 99, 100, 101, 102, 103, 104, 105, 106, 107, 108, 109, 110, 111, 112, 113, 114, 115, 116, 117]]).bind fun r96 => some ((⟨op73, op74, r96.1, op76, op77, op78⟩ : SBillOp), r96.2) else (bif (decide (r79.1 = (3 : Int))) then (spec_l1Pick n r79.2 [str [], str [97, 95, 98], str [97, 98, 99, 100, 101, 102, 103, 104, 105, 106, 107, 108, 109, 110, 111, 112, 113, 114, 115, 116]]).bind fun r104 => some ((⟨op73, op74, op75, r104.1, op77, op78⟩ : SBillOp), r104.2) else (bif (decide (r79.1 = (4 : Int))) then (spec_l1PickInt n r79.2 [(0 : Int), (5 : Int), (6 : Int)]).bind fun r112 => some ((⟨op73, op74, op75, op76, op77, r112.1⟩ : SBillOp), r112.2) else (bif (decide (r79.1 = (5 : Int))) then (spec_l1PickInt n r79.2 [(-1 : Int), (5 : Int)]).bind fun r120 => some ((⟨op73, op74, op75, op76, r120.1, op78⟩ : SBillOp), r120.2) else some ((⟨op73, op74, op75, op76, op77, op78⟩ : SBillOp), r79.2)))))))
def spec_l14DrawOp (n : Nat) (c0 : Sl1Cur) : Option (SBillOp × Sl1Cur) :=
  (spec_l1Below n c0 (5 : Int)).bind fun r1 => (spec_l1Below n r1.2 (5 : Int)).bind fun r2 => (spec_l14Who n r2.2).bind fun r3 => (spec_l14Who n r3.2).bind fun r4 => (spec_l1Below n r4.2 (3 : Int)).bind fun r5 => (spec_l1Below n r5.2 (3 : Int)).bind fun r6 => (spec_l1Once n r6.2 (5 : Int)).bind fun r7 => (bif r7.1 then (bif (decide ((w64 ((1 : Int) + r1.1)) ≤ (2 : Int))) then spec_l14DrawOp_k0 n  r7.2 (w64 ((1 : Int) + r1.1)) (w64 ((1 : Int) + r2.1)) r3.1 r5.1 (w64 ((1 : Int) + r6.1)) else spec_l14DrawOp_k1 n  r7.2 (w64 ((1 : Int) + r1.1)) (w64 ((1 : Int) + r2.1)) r3.1 r4.1 r5.1 (w64 ((1 : Int) + r6.1))) else spec_l14DrawOp_k1 n  r7.2 (w64 ((1 : Int) + r1.1)) (w64 ((1 : Int) + r2.1)) r3.1 r4.1 r5.1 (w64 ((1 : Int) + r6.1)))
def spec_l14Copy_L3 {R : Type} (n : Nat) (kx0 : List SBill → Option R) (J : Int → List SBill → Option R) (i1 : Int) (b2 : SBook) (c3 : List SBill) (c4 : List Int) (c5 : List SBill) (c6 : List Int) : Option R :=
  (bif (decide (i1 < (b2.Bills.length : Int))) then ix i1 b2.Bills.length ((bd (b2.Bills.getD i1.toNat dSBill) fun (e10 : SBill) => chk (decide (e10.Held.length * 16 ≤ 140737488355328)) (chk (decide ((c5 ++ [e10]).length * 72 ≤ 140737488355328)) (J (w64 (i1 + (1 : Int))) (c5 ++ [e10]))))) else kx0 c5)
def spec_l14Copy (n : Nat) (b0 : SBook) : Option SBook :=
  chk (decide (b0.Freed.length * 8 ≤ 140737488355328)) (loopN (fun (x : Int × List SBill) J' => spec_l14Copy_L3 n (fun c11 => some ((⟨c11, b0.Freed⟩ : SBook))) (fun i12 c13 => J' (i12, c13)) x.1 b0 [] [] x.2 b0.Freed) n ((0 : Int), []))
def spec_l1In (n : Nat) (x0 : Int) (a1 : Int) (b2 : Int) : Option Bool :=
  (bif (decide (x0 ≥ a1)) then some ((decide (x0 ≤ b2))) else some (false))
def spec_l1Name_k0 {R : Type} (n : Nat) (kx0 : Option R) (kxr : Bool → Option R) (J : Int → Option R) (s1 : ByteArray) (i3 : Int) : Option R :=
  ix i3 s1.size ((spec_l1In n (w64 (byteAt s1 i3.toNat)) (97 : Int) (122 : Int)).bind fun r4 => (bif (!r4) then (spec_l1In n (w64 (byteAt s1 i3.toNat)) (65 : Int) (90 : Int)).bind fun r5 => (bif (!r5) then (spec_l1In n (w64 (byteAt s1 i3.toNat)) (48 : Int) (57 : Int)).bind fun r6 => (bif (!r6) then (bif (!(decide ((w64 (byteAt s1 i3.toNat)) = (45 : Int)))) then kxr false else J (w64 (i3 + (1 : Int)))) else J (w64 (i3 + (1 : Int)))) else J (w64 (i3 + (1 : Int)))) else J (w64 (i3 + (1 : Int)))))
def spec_l1Name_L2 {R : Type} (n : Nat) (kx0 : Option R) (kxr : Bool → Option R) (J : Int → Option R) (s1 : ByteArray) (i2 : Int) : Option R :=
  (bif (decide (i2 < (s1.size : Int))) then spec_l1Name_k0 n kx0 kxr J s1 i2 else kx0)
def spec_l1Name (n : Nat) (s0 : ByteArray) : Option Bool :=
  loopN (fun (x : Int) J' => spec_l1Name_L2 n ((spec_l1In n (s0.size : Int) (1 : Int) (20 : Int)).bind fun r18 => some (r18)) (fun t19 => some (t19)) J' s0 x) n ((0 : Int))
def spec_l14Find_L2 {R : Type} (n : Nat) (kx0 : Option R) (kxr : Int → Option R) (J : Int → Option R) (id1 : Int) (i2 : Int) (b3 : SBook) : Option R :=
  (bif (decide (i2 < (b3.Bills.length : Int))) then ix i2 b3.Bills.length ((bd (b3.Bills.getD i2.toNat dSBill) fun (e7 : SBill) => (bif (decide (e7.Id = id1)) then kxr i2 else J (w64 (i2 + (1 : Int)))))) else kx0)
def spec_l14Find (n : Nat) (b0 : SBook) (id1 : Int) : Option Int :=
  loopN (fun (x : Int) J' => spec_l14Find_L2 n (some ((-1 : Int))) (fun t9 => some (t9)) J' id1 x b0) n ((0 : Int))
def spec_BookOk_k0 {R : Type} (n : Nat) (kx2 : Option R) (kxr : Bool → Option R) (J : Int → Option R) (i25 : Int) (k29 : Int) (b27 : SBook) (x28 : SBill) : Option R :=
  ix k29 x28.Held.length ((bif (!(decide ((x28.Held.getD k29.toNat (str [])) = str []))) then ix k29 x28.Held.length ((spec_l1Name n (x28.Held.getD k29.toNat (str []))).bind fun r30 => (bif (!r30) then kxr false else J (w64 (k29 + (1 : Int))))) else J (w64 (k29 + (1 : Int)))))
def spec_BookOk_L8 {R : Type} (n : Nat) (kx2 : Option R) (kxr : Bool → Option R) (J : Int → Option R) (i25 : Int) (k26 : Int) (b27 : SBook) (x28 : SBill) : Option R :=
  (bif (decide (k26 < (x28.Held.length : Int))) then spec_BookOk_k0 n kx2 kxr J i25 k26 b27 x28 else kx2)
def spec_BookOk_k1 {R : Type} (n : Nat) (kx0 : Option R) (kxr : Bool → Option R) (J : Int → Option R) (i3 : Int) (b2 : SBook) : Option R :=
  ix i3 b2.Bills.length ((bd (b2.Bills.getD i3.toNat dSBill) fun (e4 : SBill) => (spec_l1In n e4.Id (1 : Int) (1000000 : Int)).bind fun r5 => (bif (!r5) then kxr false else (bif (decide (i3 > (0 : Int))) then ix (w64 (i3 - (1 : Int))) b2.Bills.length ((bd (b2.Bills.getD ((w64 (i3 - (1 : Int))).toNat) dSBill) fun (e8 : SBill) => (bif (decide (e8.Id ≥ e4.Id)) then kxr false else (spec_l1Name n e4.Shipper).bind fun r11 => (bif (!r11) then kxr false else (bif (!(decide (e4.Order = str []))) then (spec_l1Name n e4.Order).bind fun r14 => (bif (!r14) then kxr false else (spec_l1In n e4.Many (1 : Int) (5 : Int)).bind fun r17 => (bif (!r17) then kxr false else (bif (!(decide ((e4.Held.length : Int) = e4.Many))) then kxr false else loopN (fun (x : Int) J' => spec_BookOk_L8 n (J (w64 (i3 + (1 : Int)))) (fun t47 => kxr t47) J' i3 x b2 e4) n ((0 : Int))))) else (spec_l1In n e4.Many (1 : Int) (5 : Int)).bind fun r49 => (bif (!r49) then kxr false else (bif (!(decide ((e4.Held.length : Int) = e4.Many))) then kxr false else loopN (fun (x : Int) J' => spec_BookOk_L8 n (J (w64 (i3 + (1 : Int)))) (fun t58 => kxr t58) J' i3 x b2 e4) n ((0 : Int))))))))) else (spec_l1Name n e4.Shipper).bind fun r60 => (bif (!r60) then kxr false else (bif (!(decide (e4.Order = str []))) then (spec_l1Name n e4.Order).bind fun r63 => (bif (!r63) then kxr false else (spec_l1In n e4.Many (1 : Int) (5 : Int)).bind fun r66 => (bif (!r66) then kxr false else (bif (!(decide ((e4.Held.length : Int) = e4.Many))) then kxr false else loopN (fun (x : Int) J' => spec_BookOk_L8 n (J (w64 (i3 + (1 : Int)))) (fun t75 => kxr t75) J' i3 x b2 e4) n ((0 : Int))))) else (spec_l1In n e4.Many (1 : Int) (5 : Int)).bind fun r77 => (bif (!r77) then kxr false else (bif (!(decide ((e4.Held.length : Int) = e4.Many))) then kxr false else loopN (fun (x : Int) J' => spec_BookOk_L8 n (J (w64 (i3 + (1 : Int)))) (fun t86 => kxr t86) J' i3 x b2 e4) n ((0 : Int))))))))))
def spec_BookOk_L2 {R : Type} (n : Nat) (kx0 : Option R) (kxr : Bool → Option R) (J : Int → Option R) (i1 : Int) (b2 : SBook) : Option R :=
  (bif (decide (i1 < (b2.Bills.length : Int))) then spec_BookOk_k1 n kx0 kxr J i1 b2 else kx0)
def spec_BookOk_k2 {R : Type} (n : Nat) (kx4 : Option R) (kxr : Bool → Option R) (J : Int → Option R) (i90 : Int) (b89 : SBook) : Option R :=
  ix i90 b89.Freed.length ((spec_l14Find n b89 (b89.Freed.getD i90.toNat (0 : Int))).bind fun r91 => (bif (decide (r91 < (0 : Int))) then kxr false else (bif (decide (i90 > (0 : Int))) then ix (w64 (i90 - (1 : Int))) b89.Freed.length (ix i90 b89.Freed.length ((bif (decide ((b89.Freed.getD ((w64 (i90 - (1 : Int))).toNat) (0 : Int)) ≥ (b89.Freed.getD i90.toNat (0 : Int)))) then kxr false else J (w64 (i90 + (1 : Int)))))) else J (w64 (i90 + (1 : Int))))))
def spec_BookOk_L13 {R : Type} (n : Nat) (kx4 : Option R) (kxr : Bool → Option R) (J : Int → Option R) (i88 : Int) (b89 : SBook) : Option R :=
  (bif (decide (i88 < (b89.Freed.length : Int))) then spec_BookOk_k2 n kx4 kxr J i88 b89 else kx4)
def spec_BookOk (n : Nat) (b0 : SBook) : Option Bool :=
  loopN (fun (x : Int) J' => spec_BookOk_L2 n (loopN (fun (x : Int) J' => spec_BookOk_L13 n (some ((decide ((b0.Bills.length : Int) ≤ (30 : Int))))) (fun t100 => some (t100)) J' x b0) n ((0 : Int))) (fun t102 => some (t102)) J' x b0) n ((0 : Int))
def spec_l14Op_k0 (n : Nat)  (op0 : SBillOp) : Option Bool :=
  (bif (!(decide (op0.To = str []))) then (spec_l1Name n op0.To).bind fun r5 => (bif (!r5) then some (false) else (spec_l1In n op0.Many (1 : Int) (5 : Int)).bind fun r11 => (bif r11 then some (true) else (bif (!(decide (op0.Kind = (1 : Int)))) then some ((!(decide (op0.Kind = (5 : Int))))) else some (false)))) else (spec_l1In n op0.Many (1 : Int) (5 : Int)).bind fun r15 => (bif r15 then some (true) else (bif (!(decide (op0.Kind = (1 : Int)))) then some ((!(decide (op0.Kind = (5 : Int))))) else some (false))))
def spec_l14Op_k1 (n : Nat)  (op0 : SBillOp) (t17 : Bool) : Option Bool :=
  (bif t17 then (bif (!(decide (op0.To = str []))) then (spec_l1Name n op0.To).bind fun r18 => (bif (!r18) then some (false) else (spec_l1In n op0.Many (1 : Int) (5 : Int)).bind fun r20 => (bif r20 then some (true) else (bif (!(decide (op0.Kind = (1 : Int)))) then some ((!(decide (op0.Kind = (5 : Int))))) else some (false)))) else (spec_l1In n op0.Many (1 : Int) (5 : Int)).bind fun r22 => (bif r22 then some (true) else (bif (!(decide (op0.Kind = (1 : Int)))) then some ((!(decide (op0.Kind = (5 : Int))))) else some (false)))) else (bif (decide (op0.Kind = (3 : Int))) then (spec_l1Name n op0.To).bind fun r24 => some (r24) else (spec_l1In n op0.Many (1 : Int) (5 : Int)).bind fun r25 => (bif r25 then some (true) else (bif (!(decide (op0.Kind = (1 : Int)))) then some ((!(decide (op0.Kind = (5 : Int))))) else some (false)))))
def spec_l14Op (n : Nat) (op0 : SBillOp) : Option Bool :=
  (spec_l1In n op0.Kind (1 : Int) (5 : Int)).bind fun r1 => (bif (!r1) then some (false) else (spec_l1In n op0.Id (1 : Int) (1000000 : Int)).bind fun r2 => (bif (!r2) then some (false) else (spec_l1Name n op0.Who).bind fun r3 => (bif (!r3) then some (false) else (bif (decide (op0.Kind = (1 : Int))) then spec_l14Op_k0 n  op0 else spec_l14Op_k1 n  op0 (decide (op0.Kind = (2 : Int)))))))
def spec_l14Made_L3 {R : Type} (n : Nat) (kx0 : List ByteArray → Option R) (J : Int → List ByteArray → Option R) (who1 : ByteArray) (many2 : Int) (k3 : Int) (out4 : List ByteArray) : Option R :=
  (bif (decide (k3 < many2)) then chk (decide ((out4 ++ [who1]).length * 16 ≤ 140737488355328)) (J (w64 (k3 + (1 : Int))) (out4 ++ [who1])) else kx0 out4)
def spec_l14Made (n : Nat) (who0 : ByteArray) (many1 : Int) : Option (List ByteArray) :=
  loopN (fun (x : Int × List ByteArray) J' => spec_l14Made_L3 n (fun out7 => some (out7)) (fun k8 out9 => J' (k8, out9)) who0 many1 x.1 x.2) n ((0 : Int), [])
def spec_l9Has_L2 {R : Type} (n : Nat) (kx0 : Option R) (kxr : Bool → Option R) (J : Int → Option R) (list1 : List Int) (x2 : Int) (i3 : Int) : Option R :=
  (bif (decide (i3 < (list1.length : Int))) then ix i3 list1.length ((bif (decide ((list1.getD i3.toNat (0 : Int)) = x2)) then kxr true else J (w64 (i3 + (1 : Int))))) else kx0)
def spec_l9Has (n : Nat) (list0 : List Int) (x1 : Int) : Option Bool :=
  loopN (fun (x : Int) J' => spec_l9Has_L2 n (some (false)) (fun t7 => some (t7)) J' list0 x1 x) n ((0 : Int))
def spec_l14Holds_L3 {R : Type} (n : Nat) (kx0 : Int → Option R) (J : Int → Int → Option R) (who1 : ByteArray) (n2 : Int) (k3 : Int) (x4 : SBill) : Option R :=
  (bif (decide (k3 < (x4.Held.length : Int))) then ix k3 x4.Held.length ((bif (decide ((x4.Held.getD k3.toNat (str [])) = who1)) then J (w64 (n2 + (1 : Int))) (w64 (k3 + (1 : Int))) else J n2 (w64 (k3 + (1 : Int))))) else kx0 n2)
def spec_l14Holds (n : Nat) (x0 : SBill) (who1 : ByteArray) : Option Int :=
  loopN (fun (x : Int × Int) J' => spec_l14Holds_L3 n (fun n15 => some (n15)) (fun n16 k17 => J' (n16, k17)) who1 x.1 x.2 x0) n ((0 : Int), (0 : Int))
def spec_l14Do (n : Nat) (x0 : SBill) (op1 : SBillOp) : Option (SBill × Bool) :=
  (bif (decide (op1.Kind = (2 : Int))) then (bif (!(decide (op1.Who = x0.Order))) then (bif (!(decide (x0.Order = str []))) then some (x0, false) else (spec_l14Holds n x0 op1.Who).bind fun r1 => (bif (decide (r1 = (0 : Int))) then some (x0, false) else some ((⟨x0.Id, x0.Shipper, op1.To, x0.Many, x0.Held⟩ : SBill), true))) else some ((⟨x0.Id, x0.Shipper, op1.To, x0.Many, x0.Held⟩ : SBill), true)) else (bif (decide (op1.Kind = (3 : Int))) then (bd (w64 (x0.Many - (1 : Int))) fun (v3 : Int) => (spec_l1In n op1.Number (0 : Int) v3).bind fun r4 => (bif (!r4) then some (x0, false) else ix op1.Number x0.Held.length (chk (decide (op1.Number.toNat < x0.Held.length)) ((bif (!(decide ((x0.Held.getD op1.Number.toNat (str [])) = op1.Who))) then some (x0, false) else ix op1.Number x0.Held.length (chk (decide (op1.Number.toNat < x0.Held.length)) ((bd (x0.Held.set op1.Number.toNat op1.To) fun (l10 : List ByteArray) => some ((⟨x0.Id, x0.Shipper, x0.Order, x0.Many, l10⟩ : SBill), true))))))))) else (bif (decide (op1.Kind = (4 : Int))) then (bd (w64 (x0.Many - (1 : Int))) fun (v12 : Int) => (spec_l1In n op1.Number (0 : Int) v12).bind fun r13 => (bif (!r13) then some (x0, false) else ix op1.Number x0.Held.length (chk (decide (op1.Number.toNat < x0.Held.length)) ((bif (!(decide ((x0.Held.getD op1.Number.toNat (str [])) = op1.Who))) then some (x0, false) else (bif (!(decide (x0.Order = str []))) then (bif (!(decide (x0.Order = op1.Who))) then some (x0, false) else (spec_l14Made n (str []) x0.Many).bind fun r19 => some ((⟨x0.Id, x0.Shipper, x0.Order, x0.Many, r19⟩ : SBill), true)) else (spec_l14Made n (str []) x0.Many).bind fun r23 => some ((⟨x0.Id, x0.Shipper, x0.Order, x0.Many, r23⟩ : SBill), true))))))) else (bif (decide (op1.Kind = (5 : Int))) then (spec_l14Holds n x0 op1.Who).bind fun r25 => (bif (!(decide (r25 = x0.Many))) then some (x0, false) else (spec_l14Made n op1.Who op1.Many).bind fun r28 => some ((⟨x0.Id, x0.Shipper, x0.Order, op1.Many, r28⟩ : SBill), true)) else some (x0, true)))))
def spec_DoBill_L9 {R : Type} (n : Nat) (kx0 : Int → Option R) (J : Int → Option R) (k19 : Int) (op20 : SBillOp) (c21 : List SBill) (c22 : List Int) (c23 : List SBill) (c24 : List Int) : Option R :=
  (bif (decide (k19 < (c23.length : Int))) then ix k19 c23.length (chk (decide (k19.toNat < c23.length)) ((bif (decide ((c23.getD k19.toNat dSBill).Id < op20.Id)) then J (w64 (k19 + (1 : Int))) else kx0 k19))) else kx0 k19)
def spec_DoBill_k0 (n : Nat)  (op1 : SBillOp) (t17 : List SBill) (t18 : List Int) : Option (SBook × Int) :=
  loopN (fun (x : Int) J' => spec_DoBill_L9 n (fun k30 => (spec_l14Made n op1.Who op1.Many).bind fun r31 => chk (decide ((0 : Int) ≤ k30)) (chk (decide (k30 ≤ (t17.length : Int))) (chk (decide ((k30.toNat + (t17.length - k30.toNat)) ≤ t17.length)) (chk (decide (([(⟨op1.Id, op1.Who, op1.To, op1.Many, r31⟩ : SBill)] ++ ((t17.drop k30.toNat).take (t17.length - k30.toNat))).length * 72 ≤ 140737488355328)) (chk (decide ((0 : Int) ≤ k30)) (chk (decide (k30 ≤ (t17.length : Int))) (chk (decide ((0 + (k30.toNat - 0)) ≤ t17.length)) (chk (decide (((t17.drop 0).take (k30.toNat - 0)).length * 72 ≤ 140737488355328)) (chk (decide ((((t17.drop 0).take (k30.toNat - 0)) ++ ([(⟨op1.Id, op1.Who, op1.To, op1.Many, r31⟩ : SBill)] ++ ((t17.drop k30.toNat).take (t17.length - k30.toNat)))).length * 72 ≤ 140737488355328)) (some ((⟨(((t17.drop 0).take (k30.toNat - 0)) ++ ([(⟨op1.Id, op1.Who, op1.To, op1.Many, r31⟩ : SBill)] ++ ((t17.drop k30.toNat).take (t17.length - k30.toNat)))), t18⟩ : SBook), (0 : Int)))))))))))) J' x op1 [] [] t17 t18) n ((0 : Int))
def spec_DoBill_L25 {R : Type} (n : Nat) (kx2 : Int → Option R) (J : Int → Option R) (k58 : Int) (op59 : SBillOp) (c60 : List SBill) (c61 : List Int) (c62 : List SBill) (c63 : List Int) : Option R :=
  (bif (decide (k58 < (c63.length : Int))) then ix k58 c63.length (chk (decide (k58.toNat < c63.length)) ((bif (decide ((c63.getD k58.toNat (0 : Int)) < op59.Id)) then J (w64 (k58 + (1 : Int))) else kx2 k58))) else kx2 k58)
def spec_DoBill_k1 (n : Nat)  (at48 : Int) (op1 : SBillOp) (t49 : Nat) (t50 : List SBill) (t51 : List Int) (x52 : Int) (x53 : ByteArray) (x54 : ByteArray) (x55 : Int) (t56 : List ByteArray) : Option (SBook × Int) :=
  ix at48 t50.length (chk (decide (at48.toNat < t50.length)) (chk (decide (at48.toNat = t49)) ((bd (t50.set at48.toNat (⟨x52, x53, x54, x55, t56⟩ : SBill)) fun (l57 : List SBill) => (bif (decide (op1.Kind = (4 : Int))) then loopN (fun (x : Int) J' => spec_DoBill_L25 n (fun k69 => chk (decide ((0 : Int) ≤ k69)) (chk (decide (k69 ≤ (t51.length : Int))) (chk (decide ((k69.toNat + (t51.length - k69.toNat)) ≤ t51.length)) ((bd ([op1.Id] ++ ((t51.drop k69.toNat).take (t51.length - k69.toNat))) fun (l70 : List Int) => chk (decide (l70.length * 8 ≤ 140737488355328)) (chk (decide ((0 : Int) ≤ k69)) (chk (decide (k69 ≤ (t51.length : Int))) (chk (decide ((0 + (k69.toNat - 0)) ≤ t51.length)) ((bd ((t51.drop 0).take (k69.toNat - 0)) fun (l71 : List Int) => chk (decide (l71.length * 8 ≤ 140737488355328)) (chk (decide ((l71 ++ l70).length * 8 ≤ 140737488355328)) (some ((⟨l57, (l71 ++ l70)⟩ : SBook), (0 : Int)))))))))))))) J' x op1 [] [] l57 t51) n ((0 : Int)) else some ((⟨l57, t51⟩ : SBook), (0 : Int)))))))
def spec_DoBill_k2 (n : Nat)  (at42 : Int) (b0 : SBook) (op1 : SBillOp) (t43 : List SBill) (t44 : List Int) : Option (SBook × Int) :=
  ix at42 t43.length (chk (decide (at42.toNat < t43.length)) ((bd (t43.getD at42.toNat dSBill) fun (e45 : SBill) => chk (decide (at42.toNat < t43.length)) ((spec_l14Do n (⟨e45.Id, e45.Shipper, e45.Order, e45.Many, (t43.getD at42.toNat dSBill).Held⟩ : SBill) op1).bind fun r46 => (bif (!r46.2) then (spec_l14Copy n b0).bind fun r47 => some (r47, (5 : Int)) else spec_DoBill_k1 n  at42 op1 at42.toNat t43 t44 r46.1.Id r46.1.Shipper r46.1.Order r46.1.Many r46.1.Held)))))
def spec_DoBill_k3 (n : Nat)  (b0 : SBook) (op1 : SBillOp) (t9 : List SBill) (t10 : List Int) : Option (SBook × Int) :=
  (spec_l14Find n b0 op1.Id).bind fun r11 => (bif (decide (op1.Kind = (1 : Int))) then (bif (decide (r11 ≥ (0 : Int))) then some ((⟨t9, t10⟩ : SBook), (2 : Int)) else (bif (decide ((b0.Bills.length : Int) = (30 : Int))) then some ((⟨t9, t10⟩ : SBook), (2 : Int)) else spec_DoBill_k0 n  op1 t9 t10)) else (bif (decide (r11 < (0 : Int))) then some ((⟨t9, t10⟩ : SBook), (3 : Int)) else (spec_l9Has n b0.Freed op1.Id).bind fun r84 => (bif r84 then some ((⟨t9, t10⟩ : SBook), (4 : Int)) else spec_DoBill_k2 n  r11 b0 op1 t9 t10)))
def spec_DoBill (n : Nat) (b0 : SBook) (op1 : SBillOp) : Option (SBook × Int) :=
  (spec_l14Copy n b0).bind fun r1 => (spec_BookOk n b0).bind fun r2 => (bif (!r2) then some (r1, (1 : Int)) else (spec_l14Op n op1).bind fun r5 => (bif (!r5) then some (r1, (1 : Int)) else spec_DoBill_k3 n  b0 op1 r1.Bills r1.Freed))
def spec_l14Draw_k0 {R : Type} (n : Nat) (kx0 : List SBill → List Int → Sl1Cur → Option R) (J : Int → Sl1Cur → List SBill → List Int → Option R) (i8 : Int) (p9 : Sl1Cur) (c4 : List SBill) (c5 : List Int) (c10 : List SBill) (c11 : List Int) : Option R :=
  (spec_l14DrawOp n p9).bind fun r12 => (bif (decide ((Int.tmod i8 (2 : Int)) = (0 : Int))) then (spec_DoBill n (⟨c10, c11⟩ : SBook) (⟨(1 : Int), r12.1.Id, r12.1.Who, r12.1.To, r12.1.Number, r12.1.Many⟩ : SBillOp)).bind fun r27 => J (w64 (i8 - (1 : Int))) r12.2 r27.1.Bills r27.1.Freed else (spec_DoBill n (⟨c10, c11⟩ : SBook) r12.1).bind fun r42 => J (w64 (i8 - (1 : Int))) r12.2 r42.1.Bills r42.1.Freed)
def spec_l14Draw_L3 {R : Type} (n : Nat) (kx0 : List SBill → List Int → Sl1Cur → Option R) (J : Int → Sl1Cur → List SBill → List Int → Option R) (i2 : Int) (p3 : Sl1Cur) (c4 : List SBill) (c5 : List Int) (c6 : List SBill) (c7 : List Int) : Option R :=
  (bif (decide (i2 > (0 : Int))) then spec_l14Draw_k0 n kx0 J i2 p3 c4 c5 c6 c7 else kx0 c6 c7 p3)
def spec_l14Draw (n : Nat) (c0 : Sl1Cur) : Option (SBook × Sl1Cur) :=
  (spec_l1Below n c0 (10 : Int)).bind fun r1 => loopN (fun (x : Int × Sl1Cur × List SBill × List Int) J' => spec_l14Draw_L3 n (fun c47 c48 p49 => some ((⟨c47, c48⟩ : SBook), p49)) (fun i50 p51 c52 c53 => J' (i50, p51, c52, c53)) x.1 x.2.1 [] [] x.2.2.1 x.2.2.2) n (r1.1, r1.2, [], [])
def spec_DrawBook_L5 {R : Type} (n : Nat) (kx0 : List SBillOp → Option R) (J : Int → Sl1Cur → List SBillOp → Option R) (i4 : Int) (c5 : List SBill) (c6 : List Int) (t7 : Sl1Cur) (c8 : List SBill) (c9 : List Int) (ops10 : List SBillOp) : Option R :=
  (bif (decide (i4 > (0 : Int))) then (spec_l14DrawOp n t7).bind fun r15 => chk (decide ((ops10 ++ [r15.1]).length * 64 ≤ 140737488355328)) (J (w64 (i4 - (1 : Int))) r15.2 (ops10 ++ [r15.1])) else kx0 ops10)
def spec_DrawBook (n : Nat) (code0 : List Int) : Option (SBook × List SBillOp) :=
  (spec_l1New n code0).bind fun r1 => (spec_l14Draw n r1).bind fun r2 => (spec_l1Below n r2.2 (30 : Int)).bind fun r3 => loopN (fun (x : Int × Sl1Cur × List SBillOp) J' => spec_DrawBook_L5 n (fun ops16 => some (r2.1, ops16)) (fun i17 t18 ops19 => J' (i17, t18, ops19)) x.1 [] [] x.2.1 r2.1.Bills r2.1.Freed x.2.2) n (r3.1, r3.2, [])
def impl_own_impl_Bill (n : Nat) (l0 : List SBill) : Option (List SBill) :=
  chk (decide ((0 : Int) ≤ (l0.length : Int))) (chk (decide ((l0.length : Int) ≤ 9223372036854775807 ∧ (l0.length : Int) * (72 : Int) ≤ 281474976710656)) (chk (decide (l0.length * 72 ≤ 140737488355328)) (some (l0))))
def impl_own_string (n : Nat) (l0 : List ByteArray) : Option (List ByteArray) :=
  chk (decide ((0 : Int) ≤ (l0.length : Int))) (chk (decide ((l0.length : Int) ≤ 9223372036854775807 ∧ (l0.length : Int) * (16 : Int) ≤ 281474976710656)) (chk (decide (l0.length * 16 ≤ 140737488355328)) (some (l0))))
def impl_own_int (n : Nat) (l0 : List Int) : Option (List Int) :=
  chk (decide ((0 : Int) ≤ (l0.length : Int))) (chk (decide ((l0.length : Int) ≤ 9223372036854775807 ∧ (l0.length : Int) * (8 : Int) ≤ 281474976710656)) (chk (decide (l0.length * 8 ≤ 140737488355328)) (some (l0))))
def impl_Book_own_k0 {R : Type} (n : Nat) (kx0 : (List SBill) × Nat → Option R) (J : Int → (List SBill) × Nat → Option R) (t2 : Int) (t8 : Int) (b4 : SBook) (c5 : List SBill) (c6 : List Int) (l9 : Nat) (l10 : List SBill) : Option R :=
  ix t8 l10.length (chk (decide (t8.toNat < l10.length)) ((bif (decide (t8.toNat < l9)) then chk (decide (t8.toNat < l10.length)) ((impl_own_string n ((l10.getD t8.toNat dSBill).Held)).bind fun r11 => ix t8 l10.length (chk (decide (t8.toNat < l10.length)) ((bd (l10.getD t8.toNat dSBill) fun (e12 : SBill) => (bif (decide (t8.toNat = l9)) then (bd (l10.set t8.toNat (⟨e12.Id, e12.Shipper, e12.Order, e12.Many, r11⟩ : SBill)) fun (l13 : List SBill) => J (w64 (t8 + (1 : Int))) (l13, (l9 + 1))) else (bd (l10.set t8.toNat (⟨e12.Id, e12.Shipper, e12.Order, e12.Many, r11⟩ : SBill)) fun (l14 : List SBill) => J (w64 (t8 + (1 : Int))) (l14, l9))))))) else (impl_own_string n ((l10.getD t8.toNat dSBill).Held)).bind fun r15 => ix t8 l10.length (chk (decide (t8.toNat < l10.length)) ((bd (l10.getD t8.toNat dSBill) fun (e16 : SBill) => (bif (decide (t8.toNat = l9)) then (bd (l10.set t8.toNat (⟨e16.Id, e16.Shipper, e16.Order, e16.Many, r15⟩ : SBill)) fun (l17 : List SBill) => J (w64 (t8 + (1 : Int))) (l17, (l9 + 1))) else (bd (l10.set t8.toNat (⟨e16.Id, e16.Shipper, e16.Order, e16.Many, r15⟩ : SBill)) fun (l18 : List SBill) => J (w64 (t8 + (1 : Int))) (l18, l9)))))))))
def impl_Book_own_L3 {R : Type} (n : Nat) (kx0 : (List SBill) × Nat → Option R) (J : Int → (List SBill) × Nat → Option R) (t2 : Int) (t3 : Int) (b4 : SBook) (c5 : List SBill) (c6 : List Int) (l7 : (List SBill) × Nat) : Option R :=
  (bif (decide (t3 < t2)) then impl_Book_own_k0 n kx0 J t2 t3 b4 c5 c6 l7.2 l7.1 else kx0 (l7.1, l7.2))
def impl_Book_own (n : Nat) (b0 : SBook) : Option SBook :=
  (impl_own_impl_Bill n b0.Bills).bind fun r1 => loopN (fun (x : Int × ((List SBill) × Nat)) J' => impl_Book_own_L3 n (fun l19 => (impl_own_int n b0.Freed).bind fun r20 => chk (decide (l19.1.length ≤ l19.2)) (some ((⟨l19.1, r20⟩ : SBook)))) (fun t21 l22 => J' (t21, l22)) (r1.length : Int) x.1 b0 [] [] x.2) n ((0 : Int), (r1, 0))
def impl_nameOk_k0 {R : Type} (n : Nat) (kx0 : Option R) (kxr : Bool → Option R) (J : Int → Option R) (s2 : ByteArray) (t3 : Int) (t5 : Int) : Option R :=
  ix t5 s2.size ((bif (decide ((byteAt s2 t5.toNat) < (97 : Int))) then (bif (decide ((byteAt s2 t5.toNat) < (65 : Int))) then (bif (decide ((byteAt s2 t5.toNat) < (48 : Int))) then (bif (!(decide ((byteAt s2 t5.toNat) = (45 : Int)))) then kxr false else J (w64 (t5 + (1 : Int)))) else (bif (decide ((byteAt s2 t5.toNat) > (57 : Int))) then (bif (!(decide ((byteAt s2 t5.toNat) = (45 : Int)))) then kxr false else J (w64 (t5 + (1 : Int)))) else J (w64 (t5 + (1 : Int))))) else (bif (decide ((byteAt s2 t5.toNat) > (90 : Int))) then (bif (decide ((byteAt s2 t5.toNat) < (48 : Int))) then (bif (!(decide ((byteAt s2 t5.toNat) = (45 : Int)))) then kxr false else J (w64 (t5 + (1 : Int)))) else (bif (decide ((byteAt s2 t5.toNat) > (57 : Int))) then (bif (!(decide ((byteAt s2 t5.toNat) = (45 : Int)))) then kxr false else J (w64 (t5 + (1 : Int)))) else J (w64 (t5 + (1 : Int))))) else J (w64 (t5 + (1 : Int))))) else (bif (decide ((byteAt s2 t5.toNat) > (122 : Int))) then (bif (decide ((byteAt s2 t5.toNat) < (65 : Int))) then (bif (decide ((byteAt s2 t5.toNat) < (48 : Int))) then (bif (!(decide ((byteAt s2 t5.toNat) = (45 : Int)))) then kxr false else J (w64 (t5 + (1 : Int)))) else (bif (decide ((byteAt s2 t5.toNat) > (57 : Int))) then (bif (!(decide ((byteAt s2 t5.toNat) = (45 : Int)))) then kxr false else J (w64 (t5 + (1 : Int)))) else J (w64 (t5 + (1 : Int))))) else (bif (decide ((byteAt s2 t5.toNat) > (90 : Int))) then (bif (decide ((byteAt s2 t5.toNat) < (48 : Int))) then (bif (!(decide ((byteAt s2 t5.toNat) = (45 : Int)))) then kxr false else J (w64 (t5 + (1 : Int)))) else (bif (decide ((byteAt s2 t5.toNat) > (57 : Int))) then (bif (!(decide ((byteAt s2 t5.toNat) = (45 : Int)))) then kxr false else J (w64 (t5 + (1 : Int)))) else J (w64 (t5 + (1 : Int))))) else J (w64 (t5 + (1 : Int))))) else J (w64 (t5 + (1 : Int))))))
def impl_nameOk_L4 {R : Type} (n : Nat) (kx0 : Option R) (kxr : Bool → Option R) (J : Int → Option R) (s2 : ByteArray) (t3 : Int) (t4 : Int) : Option R :=
  (bif (decide (t4 < t3)) then impl_nameOk_k0 n kx0 kxr J s2 t3 t4 else kx0)
def impl_nameOk (n : Nat) (s0 : ByteArray) : Option Bool :=
  (bif (decide ((s0.size : Int) < (1 : Int))) then some (false) else (bif (decide ((s0.size : Int) > (20 : Int))) then some (false) else loopN (fun (x : Int) J' => impl_nameOk_L4 n (some (true)) (fun t50 => some (t50)) J' s0 (s0.size : Int) x) n ((0 : Int))))
def impl_in (n : Nat) (n0 : Int) (least1 : Int) (most2 : Int) : Option Bool :=
  (bif (decide (n0 ≥ least1)) then some ((decide (n0 ≤ most2))) else some (false))
def impl_idRight (n : Nat) (n0 : Int) : Option Bool :=
  (impl_in n n0 (1 : Int) (1000000 : Int)).bind fun r1 => some (r1)
def impl_emptyOrName (n : Nat) (s0 : ByteArray) : Option Bool :=
  (bif (decide (s0 = str [])) then some (true) else (impl_nameOk n s0).bind fun r1 => some (r1))
def impl_BookOk_1 (n : Nat) (s0 : ByteArray) : Option Bool :=
  (impl_emptyOrName n s0).bind fun r1 => some ((!r1))
def slices_IndexFunc_string_string__impl_BookOk_1_L2 {R : Type} (n : Nat) (kx0 : Option R) (kxr : Int → Option R) (J : Int → Option R) (s1 : List ByteArray) (t2 : Int) (t3 : Int) : Option R :=
  (bif (decide (t3 < t2)) then ix t3 s1.length ((impl_BookOk_1 n (s1.getD t3.toNat (str []))).bind fun r7 => (bif r7 then kxr t3 else J (w64 (t3 + (1 : Int))))) else kx0)
def slices_IndexFunc_string_string__impl_BookOk_1 (n : Nat) (s0 : List ByteArray) : Option Int :=
  loopN (fun (x : Int) J' => slices_IndexFunc_string_string__impl_BookOk_1_L2 n (some ((-1 : Int))) (fun t9 => some (t9)) J' s0 (s0.length : Int) x) n ((0 : Int))
def slices_ContainsFunc_string_string__impl_BookOk_1 (n : Nat) (s0 : List ByteArray) : Option Bool :=
  (slices_IndexFunc_string_string__impl_BookOk_1 n s0).bind fun r1 => some ((decide (r1 ≥ (0 : Int))))
def impl_BookOk_k0 {R : Type} (n : Nat) (kx0 : List (Int × Bool) → Option R) (kxr : Bool → Option R) (J : Int → List (Int × Bool) → Option R) (t1 : List SBill) (t2 : Int) (t6 : Int) (b4 : SBook) (t7 : List (Int × Bool)) : Option R :=
  ix t6 t1.length ((bd (t1.getD t6.toNat dSBill) fun (e8 : SBill) => (impl_idRight n e8.Id).bind fun r9 => (bif (!r9) then kxr false else (bif (decide (t6 > (0 : Int))) then ix (w64 (t6 - (1 : Int))) b4.Bills.length ((bd (b4.Bills.getD ((w64 (t6 - (1 : Int))).toNat) dSBill) fun (e13 : SBill) => (bif (decide (e13.Id ≥ e8.Id)) then kxr false else (impl_nameOk n e8.Shipper).bind fun r17 => (bif (!r17) then kxr false else (impl_emptyOrName n e8.Order).bind fun r21 => (bif (!r21) then kxr false else (impl_in n e8.Many (1 : Int) (5 : Int)).bind fun r25 => (bif (!r25) then kxr false else (bif (!(decide ((e8.Held.length : Int) = e8.Many))) then kxr false else (slices_ContainsFunc_string_string__impl_BookOk_1 n e8.Held).bind fun r32 => (bif r32 then kxr false else J (w64 (t6 + (1 : Int))) (mputI t7 e8.Id true))))))))) else (impl_nameOk n e8.Shipper).bind fun r49 => (bif (!r49) then kxr false else (impl_emptyOrName n e8.Order).bind fun r53 => (bif (!r53) then kxr false else (impl_in n e8.Many (1 : Int) (5 : Int)).bind fun r57 => (bif (!r57) then kxr false else (bif (!(decide ((e8.Held.length : Int) = e8.Many))) then kxr false else (slices_ContainsFunc_string_string__impl_BookOk_1 n e8.Held).bind fun r64 => (bif r64 then kxr false else J (w64 (t6 + (1 : Int))) (mputI t7 e8.Id true))))))))))
def impl_BookOk_L5 {R : Type} (n : Nat) (kx0 : List (Int × Bool) → Option R) (kxr : Bool → Option R) (J : Int → List (Int × Bool) → Option R) (t1 : List SBill) (t2 : Int) (t3 : Int) (b4 : SBook) (t5 : List (Int × Bool)) : Option R :=
  (bif (decide (t3 < t2)) then impl_BookOk_k0 n kx0 kxr J t1 t2 t3 b4 t5 else kx0 t5)
def impl_BookOk_k1 {R : Type} (n : Nat) (kx2 : Option R) (kxr : Bool → Option R) (J : Int → Option R) (t75 : List Int) (t76 : Int) (t80 : Int) (b78 : SBook) (t79 : List (Int × Bool)) : Option R :=
  ix t80 t75.length ((bd (mgetI t79 (t75.getD t80.toNat (0 : Int))) fun (g81 : Option Bool) => (bif (!(g81.getD false)) then kxr false else (bif (decide (t80 > (0 : Int))) then ix (w64 (t80 - (1 : Int))) b78.Freed.length ((bif (decide ((b78.Freed.getD ((w64 (t80 - (1 : Int))).toNat) (0 : Int)) ≥ (t75.getD t80.toNat (0 : Int)))) then kxr false else J (w64 (t80 + (1 : Int))))) else J (w64 (t80 + (1 : Int)))))))
def impl_BookOk_L12 {R : Type} (n : Nat) (kx2 : Option R) (kxr : Bool → Option R) (J : Int → Option R) (t75 : List Int) (t76 : Int) (t77 : Int) (b78 : SBook) (t79 : List (Int × Bool)) : Option R :=
  (bif (decide (t77 < t76)) then impl_BookOk_k1 n kx2 kxr J t75 t76 t77 b78 t79 else kx2)
def impl_BookOk_k2 (n : Nat)  (b0 : SBook) : Option Bool :=
  loopN (fun (x : Int × (List (Int × Bool))) J' => impl_BookOk_L5 n (fun t74 => loopN (fun (x : Int) J' => impl_BookOk_L12 n (some (true)) (fun t90 => some (t90)) J' b0.Freed (b0.Freed.length : Int) x b0 t74) n ((0 : Int))) (fun t92 => some (t92)) (fun t93 t94 => J' (t93, t94)) b0.Bills (b0.Bills.length : Int) x.1 b0 x.2) n ((0 : Int), [])
def impl_BookOk (n : Nat) (b0 : SBook) : Option Bool :=
  (bif (decide ((b0.Bills.length : Int) > (30 : Int))) then some (false) else impl_BookOk_k2 n  b0)
def impl_Book_at_1 (n : Nat) (x0 : SBill) (a1 : Int) : Option Bool :=
  some ((decide (x0.Id = a1)))
def slices_IndexFunc_impl_Bill_impl_Bill__impl_Book_at_1_L2 {R : Type} (n : Nat) (kx0 : Option R) (kxr : Int → Option R) (J : Int → Option R) (s1 : List SBill) (f2 : Int) (t3 : Int) (t4 : Int) : Option R :=
  (bif (decide (t4 < t3)) then ix t4 s1.length ((bd (s1.getD t4.toNat dSBill) fun (e9 : SBill) => (impl_Book_at_1 n e9 f2).bind fun r10 => (bif r10 then kxr t4 else J (w64 (t4 + (1 : Int)))))) else kx0)
def slices_IndexFunc_impl_Bill_impl_Bill__impl_Book_at_1 (n : Nat) (s0 : List SBill) (f1c0 : Int) : Option Int :=
  loopN (fun (x : Int) J' => slices_IndexFunc_impl_Bill_impl_Bill__impl_Book_at_1_L2 n (some ((-1 : Int))) (fun t12 => some (t12)) J' s0 f1c0 (s0.length : Int) x) n ((0 : Int))
def impl_Book_at (n : Nat) (b0 : SBook) (id1 : Int) : Option Int :=
  (slices_IndexFunc_impl_Bill_impl_Bill__impl_Book_at_1 n b0.Bills id1).bind fun r1 => some (r1)
def impl_heldBy_L3 {R : Type} (n : Nat) (kx0 : List ByteArray → Option R) (J : Int → List ByteArray → Option R) (who1 : ByteArray) (t2 : Int) (t3 : Int) (l4 : List ByteArray) : Option R :=
  (bif (decide (t3 < t2)) then ix t3 l4.length (chk (decide (t3.toNat < l4.length)) (J (w64 (t3 + (1 : Int))) (l4.set t3.toNat who1))) else kx0 l4)
def impl_heldBy (n : Nat) (who0 : ByteArray) (many1 : Int) : Option (List ByteArray) :=
  chk (decide ((0 : Int) ≤ many1)) (chk (decide (many1 ≤ many1)) (chk (decide (many1 ≤ 9223372036854775807 ∧ many1 * (16 : Int) ≤ 281474976710656)) (loopN (fun (x : Int × List ByteArray) J' => impl_heldBy_L3 n (fun l7 => some (l7)) (fun t8 l9 => J' (t8, l9)) who0 ((List.replicate many1.toNat (str [])).length : Int) x.1 x.2) n ((0 : Int), (List.replicate many1.toNat (str []))))))
def impl_DoBill_1 (n : Nat) (a0 : SBill) (b1 : SBill) : Option Int :=
  some ((w64 (a0.Id - b1.Id)))
def slices_SortFunc_impl_Bill_impl_Bill__impl_DoBill_1 (n : Nat) (l0 : List SBill) : Option (List SBill) :=
  sortL dSBill (fun a b => impl_DoBill_1 n a b) l0
def slices_Index_int_int_L2 {R : Type} (n : Nat) (kx0 : Option R) (kxr : Int → Option R) (J : Int → Option R) (s1 : List Int) (v2 : Int) (t3 : Int) (t4 : Int) : Option R :=
  (bif (decide (t4 < t3)) then ix t4 s1.length ((bif (decide (v2 = (s1.getD t4.toNat (0 : Int)))) then kxr t4 else J (w64 (t4 + (1 : Int))))) else kx0)
def slices_Index_int_int (n : Nat) (s0 : List Int) (v1 : Int) : Option Int :=
  loopN (fun (x : Int) J' => slices_Index_int_int_L2 n (some ((-1 : Int))) (fun t8 => some (t8)) J' s0 v1 (s0.length : Int) x) n ((0 : Int))
def slices_Contains_int_int (n : Nat) (s0 : List Int) (v1 : Int) : Option Bool :=
  (slices_Index_int_int n s0 v1).bind fun r1 => some ((decide (r1 ≥ (0 : Int))))
def slices_Index_string_string_L2 {R : Type} (n : Nat) (kx0 : Option R) (kxr : Int → Option R) (J : Int → Option R) (s1 : List ByteArray) (v2 : ByteArray) (t3 : Int) (t4 : Int) : Option R :=
  (bif (decide (t4 < t3)) then ix t4 s1.length ((bif (decide (v2 = (s1.getD t4.toNat (str [])))) then kxr t4 else J (w64 (t4 + (1 : Int))))) else kx0)
def slices_Index_string_string (n : Nat) (s0 : List ByteArray) (v1 : ByteArray) : Option Int :=
  loopN (fun (x : Int) J' => slices_Index_string_string_L2 n (some ((-1 : Int))) (fun t8 => some (t8)) J' s0 v1 (s0.length : Int) x) n ((0 : Int))
def slices_Contains_string_string (n : Nat) (s0 : List ByteArray) (v1 : ByteArray) : Option Bool :=
  (slices_Index_string_string n s0 v1).bind fun r1 => some ((decide (r1 ≥ (0 : Int))))
def slices_Sort_int_int (n : Nat) (l0 : List Int) : Option (List Int) :=
  sortIO l0
def impl_DoBill_2 (n : Nat) (s0 : ByteArray) (a1 : SBillOp) : Option Bool :=
  some ((!(decide (s0 = a1.Who))))
def slices_IndexFunc_string_string__impl_DoBill_2_L2 {R : Type} (n : Nat) (kx0 : Option R) (kxr : Int → Option R) (J : Int → Option R) (s1 : List ByteArray) (f2 : SBillOp) (t3 : Int) (t4 : Int) : Option R :=
  (bif (decide (t4 < t3)) then ix t4 s1.length ((impl_DoBill_2 n (s1.getD t4.toNat (str [])) f2).bind fun r8 => (bif r8 then kxr t4 else J (w64 (t4 + (1 : Int))))) else kx0)
def slices_IndexFunc_string_string__impl_DoBill_2 (n : Nat) (s0 : List ByteArray) (f1c0 : SBillOp) : Option Int :=
  loopN (fun (x : Int) J' => slices_IndexFunc_string_string__impl_DoBill_2_L2 n (some ((-1 : Int))) (fun t10 => some (t10)) J' s0 f1c0 (s0.length : Int) x) n ((0 : Int))
def slices_ContainsFunc_string_string__impl_DoBill_2 (n : Nat) (s0 : List ByteArray) (f1c0 : SBillOp) : Option Bool :=
  (slices_IndexFunc_string_string__impl_DoBill_2 n s0 f1c0).bind fun r1 => some ((decide (r1 ≥ (0 : Int))))
def impl_DoBill_k0 (n : Nat)  (op1 : SBillOp) (t39 : List SBill) (t40 : List Int) : Option (SBook × Int) :=
  (impl_heldBy n op1.Who op1.Many).bind fun r41 => (bd (t39 ++ [(⟨op1.Id, op1.Who, op1.To, op1.Many, r41⟩ : SBill)]) fun (l42 : List SBill) => chk (decide (l42.length * 72 ≤ 140737488355328)) ((slices_SortFunc_impl_Bill_impl_Bill__impl_DoBill_1 n l42).bind fun r43 => (impl_Book_own n (⟨r43, t40⟩ : SBook)).bind fun r44 => some (r44, (0 : Int))))
def impl_DoBill_k1 (n : Nat)  (bill75 : Nat) (op1 : SBillOp) (t76 : List SBill) (t77 : List Int) : Option (SBook × Int) :=
  (bif (decide (op1.Kind = (2 : Int))) then chk (decide (bill75 < t76.length)) ((bd (t76.getD bill75 dSBill) fun (e78 : SBill) => (bd (t76.set bill75 (⟨e78.Id, e78.Shipper, op1.To, e78.Many, e78.Held⟩ : SBill)) fun (l79 : List SBill) => (impl_Book_own n (⟨l79, t77⟩ : SBook)).bind fun r83 => some (r83, (0 : Int))))) else (bif (decide (op1.Kind = (3 : Int))) then chk (decide (bill75 < t76.length)) (chk (decide (bill75 < t76.length)) (ix op1.Number (((t76.getD bill75 dSBill).Held).length) (chk (decide (bill75 < t76.length)) (chk (decide (op1.Number.toNat < ((t76.getD bill75 dSBill).Held).length)) ((bd (t76.set bill75 (⟨(t76.getD bill75 dSBill).Id, (t76.getD bill75 dSBill).Shipper, (t76.getD bill75 dSBill).Order, (t76.getD bill75 dSBill).Many, (((t76.getD bill75 dSBill).Held).set op1.Number.toNat op1.To)⟩ : SBill)) fun (l84 : List SBill) => (impl_Book_own n (⟨l84, t77⟩ : SBook)).bind fun r87 => some (r87, (0 : Int)))))))) else (bif (decide (op1.Kind = (4 : Int))) then chk (decide (bill75 < t76.length)) ((impl_heldBy n (str []) ((t76.getD bill75 dSBill).Many)).bind fun r88 => chk (decide (bill75 < t76.length)) ((bd (t76.getD bill75 dSBill) fun (e89 : SBill) => (bd (t76.set bill75 (⟨e89.Id, e89.Shipper, e89.Order, e89.Many, r88⟩ : SBill)) fun (l90 : List SBill) => chk (decide ((t77 ++ [op1.Id]).length * 8 ≤ 140737488355328)) ((slices_Sort_int_int n (t77 ++ [op1.Id])).bind fun r91 => (impl_Book_own n (⟨l90, r91⟩ : SBook)).bind fun r95 => some (r95, (0 : Int))))))) else (bif (decide (op1.Kind = (5 : Int))) then (impl_heldBy n op1.Who op1.Many).bind fun r96 => chk (decide (bill75 < t76.length)) ((bd (t76.getD bill75 dSBill) fun (e97 : SBill) => (bd (t76.set bill75 (⟨e97.Id, e97.Shipper, e97.Order, op1.Many, e97.Held⟩ : SBill)) fun (l98 : List SBill) => chk (decide (bill75 < l98.length)) ((bd (l98.getD bill75 dSBill) fun (e99 : SBill) => (bd (l98.set bill75 (⟨e99.Id, e99.Shipper, e99.Order, e99.Many, r96⟩ : SBill)) fun (l100 : List SBill) => (impl_Book_own n (⟨l100, t77⟩ : SBook)).bind fun r104 => some (r104, (0 : Int)))))))) else (impl_Book_own n (⟨t76, t77⟩ : SBook)).bind fun r107 => some (r107, (0 : Int))))))
def impl_DoBill_k2 (n : Nat)  (bill58 : Nat) (op1 : SBillOp) (t59 : List SBill) (t60 : List Int) (t61 : List SBill) (t62 : List Int) : Option (SBook × Int) :=
  (bif (decide (op1.Kind = (2 : Int))) then chk (decide (bill58 < t61.length)) ((bif (!(decide ((t61.getD bill58 dSBill).Order = op1.Who))) then chk (decide (bill58 < t61.length)) ((bif (!(decide ((t61.getD bill58 dSBill).Order = str []))) then some ((⟨t59, t60⟩ : SBook), (5 : Int)) else chk (decide (bill58 < t61.length)) (chk (decide (bill58 < t61.length)) ((slices_Contains_string_string n ((t61.getD bill58 dSBill).Held) op1.Who).bind fun r68 => (bif (!r68) then some ((⟨t59, t60⟩ : SBook), (5 : Int)) else impl_DoBill_k1 n  bill58 op1 t61 t62))))) else impl_DoBill_k1 n  bill58 op1 t61 t62)) else (bif (decide (op1.Kind = (3 : Int))) then chk (decide (bill58 < t61.length)) (chk (decide (bill58 < t61.length)) (ix op1.Number (((t61.getD bill58 dSBill).Held).length) (chk (decide (bill58 < t61.length)) (chk (decide (op1.Number.toNat < ((t61.getD bill58 dSBill).Held).length)) ((bif (!(decide ((((t61.getD bill58 dSBill).Held).getD op1.Number.toNat (str [])) = op1.Who))) then some ((⟨t59, t60⟩ : SBook), (5 : Int)) else impl_DoBill_k1 n  bill58 op1 t61 t62)))))) else (bif (decide (op1.Kind = (4 : Int))) then chk (decide (bill58 < t61.length)) (chk (decide (bill58 < t61.length)) (ix op1.Number (((t61.getD bill58 dSBill).Held).length) (chk (decide (bill58 < t61.length)) (chk (decide (op1.Number.toNat < ((t61.getD bill58 dSBill).Held).length)) ((bif (!(decide ((((t61.getD bill58 dSBill).Held).getD op1.Number.toNat (str [])) = op1.Who))) then some ((⟨t59, t60⟩ : SBook), (5 : Int)) else chk (decide (bill58 < t61.length)) ((bif (!(decide ((t61.getD bill58 dSBill).Order = str []))) then chk (decide (bill58 < t61.length)) ((bif (!(decide ((t61.getD bill58 dSBill).Order = op1.Who))) then some ((⟨t59, t60⟩ : SBook), (5 : Int)) else impl_DoBill_k1 n  bill58 op1 t61 t62)) else impl_DoBill_k1 n  bill58 op1 t61 t62)))))))) else (bif (decide (op1.Kind = (5 : Int))) then chk (decide (bill58 < t61.length)) (chk (decide (bill58 < t61.length)) ((slices_ContainsFunc_string_string__impl_DoBill_2 n ((t61.getD bill58 dSBill).Held) op1).bind fun r153 => (bif r153 then some ((⟨t59, t60⟩ : SBook), (5 : Int)) else impl_DoBill_k1 n  bill58 op1 t61 t62))) else impl_DoBill_k1 n  bill58 op1 t61 t62))))
def impl_DoBill_k3 (n : Nat)  (bill173 : Nat) (number174 : Bool) (op1 : SBillOp) (t175 : List SBill) (t176 : List Int) (t177 : List SBill) (t178 : List Int) : Option (SBook × Int) :=
  (bif number174 then (bif (decide (op1.Kind = (2 : Int))) then chk (decide (bill173 < t177.length)) ((bif (!(decide ((t177.getD bill173 dSBill).Order = op1.Who))) then chk (decide (bill173 < t177.length)) ((bif (!(decide ((t177.getD bill173 dSBill).Order = str []))) then some ((⟨t175, t176⟩ : SBook), (5 : Int)) else chk (decide (bill173 < t177.length)) (chk (decide (bill173 < t177.length)) ((slices_Contains_string_string n ((t177.getD bill173 dSBill).Held) op1.Who).bind fun r184 => (bif (!r184) then some ((⟨t175, t176⟩ : SBook), (5 : Int)) else impl_DoBill_k1 n  bill173 op1 t177 t178))))) else impl_DoBill_k1 n  bill173 op1 t177 t178)) else (bif (decide (op1.Kind = (3 : Int))) then chk (decide (bill173 < t177.length)) (chk (decide (bill173 < t177.length)) (ix op1.Number (((t177.getD bill173 dSBill).Held).length) (chk (decide (bill173 < t177.length)) (chk (decide (op1.Number.toNat < ((t177.getD bill173 dSBill).Held).length)) ((bif (!(decide ((((t177.getD bill173 dSBill).Held).getD op1.Number.toNat (str [])) = op1.Who))) then some ((⟨t175, t176⟩ : SBook), (5 : Int)) else impl_DoBill_k1 n  bill173 op1 t177 t178)))))) else (bif (decide (op1.Kind = (4 : Int))) then chk (decide (bill173 < t177.length)) (chk (decide (bill173 < t177.length)) (ix op1.Number (((t177.getD bill173 dSBill).Held).length) (chk (decide (bill173 < t177.length)) (chk (decide (op1.Number.toNat < ((t177.getD bill173 dSBill).Held).length)) ((bif (!(decide ((((t177.getD bill173 dSBill).Held).getD op1.Number.toNat (str [])) = op1.Who))) then some ((⟨t175, t176⟩ : SBook), (5 : Int)) else chk (decide (bill173 < t177.length)) ((bif (!(decide ((t177.getD bill173 dSBill).Order = str []))) then chk (decide (bill173 < t177.length)) ((bif (!(decide ((t177.getD bill173 dSBill).Order = op1.Who))) then some ((⟨t175, t176⟩ : SBook), (5 : Int)) else impl_DoBill_k1 n  bill173 op1 t177 t178)) else impl_DoBill_k1 n  bill173 op1 t177 t178)))))))) else (bif (decide (op1.Kind = (5 : Int))) then chk (decide (bill173 < t177.length)) (chk (decide (bill173 < t177.length)) ((slices_ContainsFunc_string_string__impl_DoBill_2 n ((t177.getD bill173 dSBill).Held) op1).bind fun r233 => (bif r233 then some ((⟨t175, t176⟩ : SBook), (5 : Int)) else impl_DoBill_k1 n  bill173 op1 t177 t178))) else (bif (!number174) then some ((⟨t175, t176⟩ : SBook), (5 : Int)) else impl_DoBill_k1 n  bill173 op1 t177 t178))))) else (bif (!number174) then some ((⟨t175, t176⟩ : SBook), (5 : Int)) else impl_DoBill_k1 n  bill173 op1 t177 t178))
def impl_DoBill_k4 (n : Nat)  (i53 : Int) (op1 : SBillOp) (t54 : List SBill) (t55 : List Int) (t56 : List SBill) (t57 : List Int) : Option (SBook × Int) :=
  ix i53 t56.length ((bif (!(decide (op1.Kind = (3 : Int)))) then (bif (!(decide (op1.Kind = (4 : Int)))) then impl_DoBill_k2 n  i53.toNat op1 t54 t55 t56 t57 else chk (decide (i53.toNat < t56.length)) ((bd (w64 ((t56.getD i53.toNat dSBill).Many - (1 : Int))) fun (v171 : Int) => (impl_in n op1.Number (0 : Int) v171).bind fun r172 => impl_DoBill_k3 n  i53.toNat r172 op1 t54 t55 t56 t57))) else chk (decide (i53.toNat < t56.length)) ((bd (w64 ((t56.getD i53.toNat dSBill).Many - (1 : Int))) fun (v261 : Int) => (impl_in n op1.Number (0 : Int) v261).bind fun r262 => impl_DoBill_k3 n  i53.toNat r262 op1 t54 t55 t56 t57))))
def impl_DoBill_k5 (n : Nat)  (b0 : SBook) (op1 : SBillOp) (t26 : List SBill) (t27 : List Int) : Option (SBook × Int) :=
  (impl_Book_own n b0).bind fun r28 => (impl_Book_at n r28 op1.Id).bind fun r29 => (bif (decide (op1.Kind = (1 : Int))) then (bif (decide (r29 ≥ (0 : Int))) then some ((⟨t26, t27⟩ : SBook), (2 : Int)) else (bif (decide ((r28.Bills.length : Int) = (30 : Int))) then some ((⟨t26, t27⟩ : SBook), (2 : Int)) else impl_DoBill_k0 n  op1 r28.Bills r28.Freed)) else (bif (decide (r29 < (0 : Int))) then some ((⟨t26, t27⟩ : SBook), (3 : Int)) else (slices_Contains_int_int n r28.Freed op1.Id).bind fun r269 => (bif r269 then some ((⟨t26, t27⟩ : SBook), (4 : Int)) else impl_DoBill_k4 n  r29 op1 t26 t27 r28.Bills r28.Freed)))
def impl_DoBill_k6 (n : Nat)  (to5 : Bool) (b0 : SBook) (op1 : SBillOp) (t6 : List SBill) (t7 : List Int) : Option (SBook × Int) :=
  (impl_BookOk n b0).bind fun r8 => (bif (!r8) then some ((⟨t6, t7⟩ : SBook), (1 : Int)) else (impl_in n op1.Kind (1 : Int) (5 : Int)).bind fun r11 => (bif (!r11) then some ((⟨t6, t7⟩ : SBook), (1 : Int)) else (impl_idRight n op1.Id).bind fun r14 => (bif (!r14) then some ((⟨t6, t7⟩ : SBook), (1 : Int)) else (impl_nameOk n op1.Who).bind fun r17 => (bif (!r17) then some ((⟨t6, t7⟩ : SBook), (1 : Int)) else (bif (!to5) then some ((⟨t6, t7⟩ : SBook), (1 : Int)) else (impl_in n op1.Many (1 : Int) (5 : Int)).bind fun r22 => (bif (!r22) then some ((⟨t6, t7⟩ : SBook), (1 : Int)) else impl_DoBill_k5 n  b0 op1 t6 t7))))))
def impl_DoBill_k7 (n : Nat)  (b0 : SBook) (op1 : SBillOp) (t294 : List SBill) (t295 : List Int) : Option (SBook × Int) :=
  (impl_BookOk n b0).bind fun r296 => (bif (!r296) then some ((⟨t294, t295⟩ : SBook), (1 : Int)) else (impl_in n op1.Kind (1 : Int) (5 : Int)).bind fun r299 => (bif (!r299) then some ((⟨t294, t295⟩ : SBook), (1 : Int)) else (impl_idRight n op1.Id).bind fun r302 => (bif (!r302) then some ((⟨t294, t295⟩ : SBook), (1 : Int)) else (impl_nameOk n op1.Who).bind fun r305 => (bif (!r305) then some ((⟨t294, t295⟩ : SBook), (1 : Int)) else (impl_in n op1.Many (1 : Int) (5 : Int)).bind fun r308 => (bif (!r308) then some ((⟨t294, t295⟩ : SBook), (1 : Int)) else impl_DoBill_k5 n  b0 op1 t294 t295)))))
def impl_DoBill_k8 (n : Nat)  (b0 : SBook) (op1 : SBillOp) (t2 : List SBill) (t3 : List Int) : Option (SBook × Int) :=
  (bif (decide (op1.Kind = (3 : Int))) then (impl_nameOk n op1.To).bind fun r4 => impl_DoBill_k6 n  r4 b0 op1 t2 t3 else (bif (decide (op1.Kind = (1 : Int))) then (impl_emptyOrName n op1.To).bind fun r283 => impl_DoBill_k6 n  r283 b0 op1 t2 t3 else (bif (decide (op1.Kind = (2 : Int))) then (impl_emptyOrName n op1.To).bind fun r314 => impl_DoBill_k6 n  r314 b0 op1 t2 t3 else impl_DoBill_k7 n  b0 op1 t2 t3)))
def impl_DoBill_k9 (n : Nat)  (makes324 : Bool) (to325 : Bool) (b0 : SBook) (op1 : SBillOp) (t326 : List SBill) (t327 : List Int) : Option (SBook × Int) :=
  (impl_BookOk n b0).bind fun r328 => (bif (!r328) then some ((⟨t326, t327⟩ : SBook), (1 : Int)) else (impl_in n op1.Kind (1 : Int) (5 : Int)).bind fun r331 => (bif (!r331) then some ((⟨t326, t327⟩ : SBook), (1 : Int)) else (impl_idRight n op1.Id).bind fun r334 => (bif (!r334) then some ((⟨t326, t327⟩ : SBook), (1 : Int)) else (impl_nameOk n op1.Who).bind fun r337 => (bif (!r337) then some ((⟨t326, t327⟩ : SBook), (1 : Int)) else (bif (!to325) then some ((⟨t326, t327⟩ : SBook), (1 : Int)) else (bif makes324 then (impl_in n op1.Many (1 : Int) (5 : Int)).bind fun r342 => (bif (!r342) then some ((⟨t326, t327⟩ : SBook), (1 : Int)) else impl_DoBill_k5 n  b0 op1 t326 t327) else impl_DoBill_k5 n  b0 op1 t326 t327))))))
def impl_DoBill_k10 (n : Nat)  (makes376 : Bool) (b0 : SBook) (op1 : SBillOp) (t377 : List SBill) (t378 : List Int) : Option (SBook × Int) :=
  (impl_BookOk n b0).bind fun r379 => (bif (!r379) then some ((⟨t377, t378⟩ : SBook), (1 : Int)) else (impl_in n op1.Kind (1 : Int) (5 : Int)).bind fun r382 => (bif (!r382) then some ((⟨t377, t378⟩ : SBook), (1 : Int)) else (impl_idRight n op1.Id).bind fun r385 => (bif (!r385) then some ((⟨t377, t378⟩ : SBook), (1 : Int)) else (impl_nameOk n op1.Who).bind fun r388 => (bif (!r388) then some ((⟨t377, t378⟩ : SBook), (1 : Int)) else (bif makes376 then (impl_in n op1.Many (1 : Int) (5 : Int)).bind fun r391 => (bif (!r391) then some ((⟨t377, t378⟩ : SBook), (1 : Int)) else impl_DoBill_k5 n  b0 op1 t377 t378) else impl_DoBill_k5 n  b0 op1 t377 t378)))))
def impl_DoBill_k11 (n : Nat)  (makes320 : Bool) (b0 : SBook) (op1 : SBillOp) (t321 : List SBill) (t322 : List Int) : Option (SBook × Int) :=
  (bif (decide (op1.Kind = (3 : Int))) then (impl_nameOk n op1.To).bind fun r323 => impl_DoBill_k9 n  makes320 r323 b0 op1 t321 t322 else (bif (decide (op1.Kind = (1 : Int))) then (impl_emptyOrName n op1.To).bind fun r362 => impl_DoBill_k9 n  makes320 r362 b0 op1 t321 t322 else (bif (decide (op1.Kind = (2 : Int))) then (impl_emptyOrName n op1.To).bind fun r401 => impl_DoBill_k9 n  makes320 r401 b0 op1 t321 t322 else impl_DoBill_k10 n  makes320 b0 op1 t321 t322)))
def impl_DoBill (n : Nat) (b0 : SBook) (op1 : SBillOp) : Option (SBook × Int) :=
  (impl_Book_own n b0).bind fun r1 => (bif (decide (op1.Kind = (1 : Int))) then impl_DoBill_k8 n  b0 op1 r1.Bills r1.Freed else impl_DoBill_k11 n  (decide (op1.Kind = (5 : Int))) b0 op1 r1.Bills r1.Freed)
def laws_sameInts_L4 {R : Type} (n : Nat) (kx0 : Option R) (kxr : Bool → Option R) (J : Int → Option R) (a1 : List Int) (b2 : List Int) (i3 : Int) : Option R :=
  (bif (decide (i3 < (a1.length : Int))) then ix i3 a1.length (ix i3 b2.length ((bif (!(decide ((a1.getD i3.toNat (0 : Int)) = (b2.getD i3.toNat (0 : Int))))) then kxr false else J (w64 (i3 + (1 : Int)))))) else kx0)
def laws_sameInts (n : Nat) (a0 : List Int) (b1 : List Int) : Option Bool :=
  (bif (!(decide ((a0.length : Int) = (b1.length : Int)))) then some (false) else loopN (fun (x : Int) J' => laws_sameInts_L4 n (some (true)) (fun t9 => some (t9)) J' a0 b1 x) n ((0 : Int)))
def laws_within_L2 {R : Type} (n : Nat) (kx0 : Option R) (kxr : Bool → Option R) (J : Int → Option R) (list1 : List Int) (x2 : Int) (i3 : Int) : Option R :=
  (bif (decide (i3 < (list1.length : Int))) then ix i3 list1.length ((bif (decide ((list1.getD i3.toNat (0 : Int)) = x2)) then kxr true else J (w64 (i3 + (1 : Int))))) else kx0)
def laws_within (n : Nat) (list0 : List Int) (x1 : Int) : Option Bool :=
  loopN (fun (x : Int) J' => laws_within_L2 n (some (false)) (fun t7 => some (t7)) J' list0 x1 x) n ((0 : Int))
def impl_TitleOf_L10 {R : Type} (n : Nat) (kx0 : Option R) (kxr : ByteArray → Bool → Option R) (J : Int → Option R) (t10 : List ByteArray) (t11 : Int) (t12 : Int) : Option R :=
  (bif (decide (t12 < t11)) then ix t12 t10.length ((bif (!(decide ((t10.getD t12.toNat (str [])) = str []))) then kxr (t10.getD t12.toNat (str [])) true else J (w64 (t12 + (1 : Int))))) else kx0)
def impl_TitleOf_k0 (n : Nat)  (i7 : Int) (b0 : SBook) : Option (ByteArray × Bool) :=
  ix i7 b0.Bills.length ((bd (b0.Bills.getD i7.toNat dSBill) fun (e8 : SBill) => (bif (!(decide (e8.Order = str []))) then some (e8.Order, true) else loopN (fun (x : Int) J' => impl_TitleOf_L10 n (some (str [], true)) (fun t19 t20 => some (t19, t20)) J' e8.Held (e8.Held.length : Int) x) n ((0 : Int)))))
def impl_TitleOf (n : Nat) (b0 : SBook) (id1 : Int) : Option (ByteArray × Bool) :=
  (impl_BookOk n b0).bind fun r1 => (bif (!r1) then some (str [], false) else (impl_Book_at n b0 id1).bind fun r23 => (bif (decide (r23 < (0 : Int))) then some (str [], false) else (slices_Contains_int_int n b0.Freed id1).bind fun r25 => (bif r25 then some (str [], false) else impl_TitleOf_k0 n  r23 b0)))
def impl_RunBills_k0 {R : Type} (n : Nat) (kx0 : List SBill → List Int → List Int → Option R) (J : Int → List SBill → List Int → List Int → Option R) (t4 : List SBillOp) (t5 : Int) (t12 : Int) (c13 : List SBill) (c14 : List Int) (c9 : List SBill) (c10 : List Int) (codes15 : List Int) : Option R :=
  ix t12 t4.length ((bd (t4.getD t12.toNat dSBillOp) fun (e16 : SBillOp) => (impl_DoBill n (⟨c13, c14⟩ : SBook) e16).bind fun r17 => chk (decide ((codes15 ++ [r17.2]).length * 8 ≤ 140737488355328)) (J (w64 (t12 + (1 : Int))) r17.1.Bills r17.1.Freed (codes15 ++ [r17.2]))))
def impl_RunBills_L6 {R : Type} (n : Nat) (kx0 : List SBill → List Int → List Int → Option R) (J : Int → List SBill → List Int → List Int → Option R) (t4 : List SBillOp) (t5 : Int) (t6 : Int) (c7 : List SBill) (c8 : List Int) (c9 : List SBill) (c10 : List Int) (codes11 : List Int) : Option R :=
  (bif (decide (t6 < t5)) then impl_RunBills_k0 n kx0 J t4 t5 t6 c7 c8 c9 c10 codes11 else kx0 c7 c8 codes11)
def impl_RunBills_k1 (n : Nat)  (ops1 : List SBillOp) (t2 : List SBill) (t3 : List Int) : Option (SBook × List Int) :=
  loopN (fun (x : Int × List SBill × List Int × List Int) J' => impl_RunBills_L6 n (fun c18 c19 codes20 => (impl_own_int n codes20).bind fun r21 => some ((⟨c18, c19⟩ : SBook), r21)) (fun t22 c23 c24 codes25 => J' (t22, c23, c24, codes25)) ops1 (ops1.length : Int) x.1 x.2.1 x.2.2.1 [] [] x.2.2.2) n ((0 : Int), t2, t3, [])
def impl_RunBills (n : Nat) (b0 : SBook) (ops1 : List SBillOp) : Option (SBook × List Int) :=
  (impl_Book_own n b0).bind fun r1 => (bif (decide ((ops1.length : Int) > (200 : Int))) then some (r1, []) else impl_RunBills_k1 n  ops1 r1.Bills r1.Freed)
def laws_FnTitle_k0 {R : Type} (n : Nat) (kx4 : Bool → Option R) (J : Bool → Int → Option R) (i96 : Int) (held110 : Bool) (k98 : Int) (j111 : Int) (b100 : SBook) (ops101 : List SBillOp) (now102 : SBook) (c103 : List SBill) (c104 : List Int) : Option R :=
  (bif held110 then J true (w64 (j111 + (1 : Int))) else ix k98 now102.Bills.length ((bd (now102.Bills.getD k98.toNat dSBill) fun (e113 : SBill) => ix j111 e113.Held.length (ix i96 ops101.length (chk (decide (i96.toNat < ops101.length)) (J (decide ((e113.Held.getD j111.toNat (str [])) = (ops101.getD i96.toNat dSBillOp).Who)) (w64 (j111 + (1 : Int)))))))))
def laws_FnTitle_L24 {R : Type} (n : Nat) (kx4 : Bool → Option R) (J : Bool → Int → Option R) (i96 : Int) (held97 : Bool) (k98 : Int) (j99 : Int) (b100 : SBook) (ops101 : List SBillOp) (now102 : SBook) (c103 : List SBill) (c104 : List Int) : Option R :=
  ix k98 now102.Bills.length ((bd (now102.Bills.getD k98.toNat dSBill) fun (e105 : SBill) => (bif (decide (j99 < (e105.Held.length : Int))) then ix k98 now102.Bills.length ((bd (now102.Bills.getD k98.toNat dSBill) fun (e106 : SBill) => ix i96 ops101.length (chk (decide (i96.toNat < ops101.length)) ((bif (decide (e106.Id = (ops101.getD i96.toNat dSBillOp).Id)) then laws_FnTitle_k0 n kx4 J i96 held97 k98 j99 b100 ops101 now102 c103 c104 else kx4 held97))))) else kx4 held97)))
def laws_FnTitle_L21 {R : Type} (n : Nat) (kx2 : Bool → Option R) (J : Bool → Int → Option R) (i86 : Int) (held87 : Bool) (k88 : Int) (b89 : SBook) (ops90 : List SBillOp) (now91 : SBook) (c92 : List SBill) (c93 : List Int) : Option R :=
  (bif (decide (k88 < (now91.Bills.length : Int))) then loopN (fun (x : Bool × Int) J' => laws_FnTitle_L24 n (fun held123 => J held123 (w64 (k88 + (1 : Int)))) (fun held124 j125 => J' (held124, j125)) i86 x.1 k88 x.2 b89 ops90 now91 c92 c93) n (held87, (0 : Int)) else kx2 held87)
def laws_FnTitle_k1 {R : Type} (n : Nat) (kx0 : SBook → Option R) (kxr : Bool → Option R) (J : Int → SBook → Option R) (i145 : Int) (t146 : Bool) (b4 : SBook) (ops5 : List SBillOp) (now147 : SBook) (c148 : List SBill) (c149 : List Int) : Option R :=
  (bif t146 then ix i145 ops5.length (chk (decide (i145.toNat < ops5.length)) ((impl_TitleOf n (⟨c148, c149⟩ : SBook) ((ops5.getD i145.toNat dSBillOp).Id)).bind fun r150 => (bif (!r150.2) then kxr false else ix i145 ops5.length (chk (decide (i145.toNat < ops5.length)) ((bif (!(decide (r150.1 = (ops5.getD i145.toNat dSBillOp).To))) then kxr false else J (w64 (i145 + (1 : Int))) (⟨c148, c149⟩ : SBook))))))) else J (w64 (i145 + (1 : Int))) (⟨c148, c149⟩ : SBook))
def laws_FnTitle_k2 {R : Type} (n : Nat) (kx0 : SBook → Option R) (kxr : Bool → Option R) (J : Int → SBook → Option R) (i141 : Int) (b4 : SBook) (ops5 : List SBillOp) (now142 : SBook) (c143 : List SBill) (c144 : List Int) : Option R :=
  ix i141 ops5.length (chk (decide (i141.toNat < ops5.length)) ((bif (decide ((ops5.getD i141.toNat dSBillOp).Kind = (2 : Int))) then ix i141 ops5.length (chk (decide (i141.toNat < ops5.length)) (laws_FnTitle_k1 n kx0 kxr J i141 (!(decide ((ops5.getD i141.toNat dSBillOp).To = str []))) b4 ops5 now142 c143 c144)) else J (w64 (i141 + (1 : Int))) (⟨c143, c144⟩ : SBook))))
def laws_FnTitle_k3 {R : Type} (n : Nat) (kx0 : SBook → Option R) (kxr : Bool → Option R) (J : Int → SBook → Option R) (i82 : Int) (b4 : SBook) (ops5 : List SBillOp) (now83 : SBook) (t84 : List SBill) (t85 : List Int) : Option R :=
  loopN (fun (x : Bool × Int) J' => laws_FnTitle_L21 n (fun held126 => ix i82 ops5.length (chk (decide (i82.toNat < ops5.length)) ((impl_TitleOf n (⟨t84, t85⟩ : SBook) ((ops5.getD i82.toNat dSBillOp).Id)).bind fun r127 => (bif (!held126) then kxr false else (bif r127.2 then kxr false else (bif (!(decide (r127.1 = str []))) then kxr false else laws_FnTitle_k2 n kx0 kxr J i82 b4 ops5 now83 t84 t85)))))) (fun held206 k207 => J' (held206, k207)) i82 x.1 x.2 b4 ops5 now83 t84 t85) n (false, (0 : Int))
def laws_FnTitle_k4 {R : Type} (n : Nat) (kx0 : SBook → Option R) (kxr : Bool → Option R) (J : Int → SBook → Option R) (i216 : Int) (t217 : Bool) (b4 : SBook) (ops5 : List SBillOp) (now218 : SBook) (t219 : List SBill) (t220 : List Int) : Option R :=
  (bif t217 then ix i216 ops5.length (chk (decide (i216.toNat < ops5.length)) ((impl_TitleOf n (⟨t219, t220⟩ : SBook) ((ops5.getD i216.toNat dSBillOp).Id)).bind fun r221 => (bif (!r221.2) then kxr false else ix i216 ops5.length (chk (decide (i216.toNat < ops5.length)) ((bif (!(decide (r221.1 = (ops5.getD i216.toNat dSBillOp).To))) then kxr false else J (w64 (i216 + (1 : Int))) (⟨t219, t220⟩ : SBook))))))) else J (w64 (i216 + (1 : Int))) (⟨t219, t220⟩ : SBook))
def laws_FnTitle_k5 {R : Type} (n : Nat) (kx0 : SBook → Option R) (kxr : Bool → Option R) (J : Int → SBook → Option R) (i212 : Int) (b4 : SBook) (ops5 : List SBillOp) (now213 : SBook) (t214 : List SBill) (t215 : List Int) : Option R :=
  ix i212 ops5.length (chk (decide (i212.toNat < ops5.length)) ((bif (decide ((ops5.getD i212.toNat dSBillOp).Kind = (2 : Int))) then ix i212 ops5.length (chk (decide (i212.toNat < ops5.length)) (laws_FnTitle_k4 n kx0 kxr J i212 (!(decide ((ops5.getD i212.toNat dSBillOp).To = str []))) b4 ops5 now213 t214 t215)) else J (w64 (i212 + (1 : Int))) (⟨t214, t215⟩ : SBook))))
def laws_FnTitle_k6 {R : Type} (n : Nat) (kx0 : SBook → Option R) (kxr : Bool → Option R) (J : Int → SBook → Option R) (i62 : Int) (b4 : SBook) (ops5 : List SBillOp) (now63 : SBook) (t64 : List SBill) (t65 : List Int) : Option R :=
  ix i62 ops5.length (chk (decide (i62.toNat < ops5.length)) ((bif (decide ((ops5.getD i62.toNat dSBillOp).Kind = (4 : Int))) then ix i62 ops5.length (chk (decide (i62.toNat < ops5.length)) ((laws_within n now63.Freed ((ops5.getD i62.toNat dSBillOp).Id)).bind fun r66 => (bif r66 then kxr false else ix i62 ops5.length (chk (decide (i62.toNat < ops5.length)) ((laws_within n t65 ((ops5.getD i62.toNat dSBillOp).Id)).bind fun r71 => (bif (!r71) then kxr false else (bd (w64 ((now63.Freed.length : Int) + (1 : Int))) fun (v76 : Int) => (bif (!(decide ((t65.length : Int) = v76))) then kxr false else laws_FnTitle_k3 n kx0 kxr J i62 b4 ops5 now63 t64 t65)))))))) else laws_FnTitle_k5 n kx0 kxr J i62 b4 ops5 now63 t64 t65)))
def laws_FnTitle_k7 {R : Type} (n : Nat) (kx0 : SBook → Option R) (kxr : Bool → Option R) (J : Int → SBook → Option R) (i30 : Int) (x31 : Int) (b4 : SBook) (ops5 : List SBillOp) (now32 : SBook) (t33 : List SBill) (t34 : List Int) : Option R :=
  (bif (!(decide (x31 = (0 : Int)))) then (bif (!(decide ((t33.length : Int) = (now32.Bills.length : Int)))) then kxr false else (laws_sameInts n t34 now32.Freed).bind fun r39 => (bif (!r39) then kxr false else J (w64 (i30 + (1 : Int))) (⟨t33, t34⟩ : SBook))) else laws_FnTitle_k6 n kx0 kxr J i30 b4 ops5 now32 t33 t34)
def laws_FnTitle_k8 {R : Type} (n : Nat) (kx0 : SBook → Option R) (kxr : Bool → Option R) (J : Int → SBook → Option R) (i7 : Int) (b4 : SBook) (ops5 : List SBillOp) (now8 : SBook) : Option R :=
  ix i7 ops5.length (chk (decide (i7.toNat < ops5.length)) ((bd (ops5.getD i7.toNat dSBillOp) fun (e9 : SBillOp) => (impl_DoBill n now8 e9).bind fun r10 => ix i7 ops5.length (chk (decide (i7.toNat < ops5.length)) ((bd (ops5.getD i7.toNat dSBillOp) fun (e11 : SBillOp) => (spec_DoBill n now8 e11).bind fun r12 => (bif (!((decide (r10.2 = (0 : Int))) == (decide (r12.2 = (0 : Int))))) then kxr false else (impl_BookOk n r10.1).bind fun r18 => (bif (!r18) then kxr false else (bif (decide ((r10.1.Freed.length : Int) < (now8.Freed.length : Int))) then kxr false else laws_FnTitle_k7 n kx0 kxr J i7 r10.2 b4 ops5 now8 r10.1.Bills r10.1.Freed)))))))))
def laws_FnTitle_L6 {R : Type} (n : Nat) (kx0 : SBook → Option R) (kxr : Bool → Option R) (J : Int → SBook → Option R) (i3 : Int) (b4 : SBook) (ops5 : List SBillOp) (now6 : SBook) : Option R :=
  (bif (decide (i3 < (ops5.length : Int))) then laws_FnTitle_k8 n kx0 kxr J i3 b4 ops5 now6 else kx0 now6)
def laws_FnTitle_k9 (n : Nat)  (code0 : List Int) : Option Bool :=
  (spec_DrawBook n code0).bind fun r2 => loopN (fun (x : Int × SBook) J' => laws_FnTitle_L6 n (fun now278 => (impl_RunBills n r2.1 r2.2).bind fun r279 => (bif (decide ((r279.2.length : Int) = (r2.2.length : Int))) then (bif (decide ((r279.1.Bills.length : Int) = (now278.Bills.length : Int))) then (laws_sameInts n r279.1.Freed now278.Freed).bind fun r280 => some (r280) else some (false)) else some (false))) (fun t282 => some (t282)) (fun i283 now284 => J' (i283, now284)) x.1 r2.1 r2.2 x.2) n ((0 : Int), r2.1)
def laws_FnTitle (n : Nat) (code0 : List Int) : Option Bool :=
  (laws_big n code0).bind fun r1 => (bif r1 then some (true) else laws_FnTitle_k9 n  code0)
def rng (a b x : Int) : Prop := a ≤ x ∧ x ≤ b
def wfSBill (x : SBill) : Prop := rng (-9223372036854775808) 9223372036854775807 x.Id ∧ x.Shipper.size ≤ 9223372036854775807 ∧ x.Order.size ≤ 9223372036854775807 ∧ rng (-9223372036854775808) 9223372036854775807 x.Many ∧ (x.Held.length ≤ 9223372036854775807 ∧ ∀ y ∈ x.Held, y.size ≤ 9223372036854775807)
def wfSBook (x : SBook) : Prop := (x.Bills.length ≤ 9223372036854775807 ∧ ∀ y ∈ x.Bills, wfSBill y) ∧ (x.Freed.length ≤ 9223372036854775807 ∧ ∀ y ∈ x.Freed, rng (-9223372036854775808) 9223372036854775807 y)
def wfSBillOp (x : SBillOp) : Prop := rng (-9223372036854775808) 9223372036854775807 x.Kind ∧ rng (-9223372036854775808) 9223372036854775807 x.Id ∧ x.Who.size ≤ 9223372036854775807 ∧ x.To.size ≤ 9223372036854775807 ∧ rng (-9223372036854775808) 9223372036854775807 x.Number ∧ rng (-9223372036854775808) 9223372036854775807 x.Many
def wfSl1Cur (x : Sl1Cur) : Prop := (x.b.length ≤ 9223372036854775807 ∧ ∀ y ∈ x.b, rng 0 255 y) ∧ rng (-9223372036854775808) 9223372036854775807 x.i ∧ rng (-9223372036854775808) 9223372036854775807 x.h
end Go.Sm

section
set_option linter.unusedSimpArgs false
set_option linter.deprecated false
set_option linter.unusedSectionVars false
set_option linter.unusedVariables false
namespace Go.Sm
/-! ### Of the words that printed functions are made of -/
theorem w64_id {x : Int} (h1 : -9223372036854775808 ≤ x) (h2 : x ≤ 9223372036854775807) : w64 x = x := by
  show (let m := x % (2 ^ 64 : Int); if (true && decide ((2 : Int) ^ 63 ≤ m)) = true then m - 2 ^ 64 else m) = x
  simp only [Bool.true_and, decide_eq_true_eq]
  split <;> omega
theorem w64_rng (x : Int) : -9223372036854775808 ≤ w64 x ∧ w64 x ≤ 9223372036854775807 := by
  show -9223372036854775808 ≤ (let m := x % (2 ^ 64 : Int); if (true && decide ((2 : Int) ^ 63 ≤ m)) = true then m - 2 ^ 64 else m) ∧ (let m := x % (2 ^ 64 : Int); if (true && decide ((2 : Int) ^ 63 ≤ m)) = true then m - 2 ^ 64 else m) ≤ 9223372036854775807
  simp only [Bool.true_and, decide_eq_true_eq]
  split <;> omega
theorem chk_of {R : Type} {b : Bool} {x : Option R} (h : b = true) : chk b x = x := by rw [h]; rfl
theorem chk_true {R : Type} {x : Option R} : chk true x = x := rfl
theorem chk_dec {R : Type} {p : Prop} [Decidable p] {x : Option R} (h : p) : chk (decide p) x = x := chk_of (decide_eq_true h)
theorem ix_of {R : Type} {i : Int} {len : Nat} {x : Option R} (h0 : 0 ≤ i) (h1 : i < (len : Int)) : ix i len x = x := by
  unfold ix
  rw [decide_eq_true h0, decide_eq_true h1]
  rfl
theorem ix_nat {R : Type} {i len : Nat} {x : Option R} (h1 : i < len) : ix (i : Int) len x = x := ix_of (by omega) (by omega)
theorem bif_dec {α : Type} {p : Prop} [Decidable p] {x y : α} : (bif decide p then x else y) = if p then x else y := by
  by_cases h : p <;> simp [h]
theorem bif_not {α : Type} {b : Bool} {x y : α} : (bif !b then x else y) = bif b then y else x := by cases b <;> rfl
theorem bif_and {α : Type} {a b : Bool} {x y : α} : (bif a && b then x else y) = bif a then (bif b then x else y) else y := by cases a <;> rfl
theorem loopN_succ {X R : Type} (b : X → (X → Option R) → Option R) (m : Nat) (x : X) : loopN b (m + 1) x = b x (loopN b m) := rfl
/-- What holds of a loop: by what is left to go. -/
theorem loopN_ind {X R : Type} {b : X → (X → Option R) → Option R} (μ : X → Nat) (I : X → Prop) (Q : X → Option R → Prop)
    (h : ∀ x J, I x → (∀ y, I y → μ y < μ x → Q y (J y)) → Q x (b x J)) : ∀ n x, I x → μ x < n → Q x (loopN b n x)
  | 0, x, hi, hm => absurd hm (Nat.not_lt_zero _)
  | n + 1, x, hi, hm => h x (loopN b n) hi fun y hy hl => loopN_ind μ I Q h n y hy (by omega)
theorem getD_eq {α : Type} {l : List α} {i : Nat} {d : α} (h : i < l.length) : l.getD i d = l[i] := by
  simp [List.getD, h]
theorem w64_succ {k : Nat} (h : k < 9223372036854775807) : w64 ((k : Int) + 1) = ((k + 1 : Nat) : Int) := by
  rw [w64_id (by omega) (by omega)]
  rfl
theorem take_succ_getD {α : Type} {l : List α} {i : Nat} {d : α} (h : i < l.length) : l.take (i + 1) = l.take i ++ [l.getD i d] := by
  rw [List.take_succ, getD_eq h, List.getElem?_eq_getElem h]
  rfl
theorem drop_getD {α : Type} {l : List α} {i : Nat} {d : α} (h : i < l.length) : l.drop i = l.getD i d :: l.drop (i + 1) := by
  rw [getD_eq h]
  exact List.drop_eq_getElem_cons h
theorem bd_eq {α β : Type} (e : α) (f : α → β) : bd e f = f e := rfl
theorem bd_set {α β : Type} {Q : β → Prop} {F : List α → β} {p : List α} {i : Nat} {x : α} (h : ∀ l : List α, l.length = p.length → Q (F l)) : Q (bd (p.set i x) F) := h _ (by simp)
theorem bd_is {α β : Type} {Q : β → Prop} {F : α → β} {e : α} (h : ∀ v : α, v = e → Q (F v)) : Q (bd e F) := h _ rfl
theorem bd_val {α β : Type} {Q : β → Prop} {F : α → β} {e : α} (h : ∀ v : α, Q (F v)) : Q (bd e F) := h _
theorem chk_q {R : Type} {Q : Option R → Prop} {b : Bool} {x : Option R} (h : b = true) (hx : Q x) : Q (chk b x) := by rw [chk_of h]; exact hx
theorem ix_q {R : Type} {Q : Option R → Prop} {i : Int} {len : Nat} {x : Option R} (h0 : 0 ≤ i) (h1 : i < (len : Int)) (hx : Q x) : Q (ix i len x) := by rw [ix_of h0 h1]; exact hx
theorem bd_upd {α β : Type} {Q : β → Prop} {F : List α → β} {p : List α} {i : Nat} {x d : α} (hi : i < p.length) (h : ∀ l : List α, l.length = p.length → l.getD i d = x → (∀ j, j ≠ i → l.getD j d = p.getD j d) → Q (F l)) : Q (bd (p.set i x) F) :=
  h _ (by simp) (by simp [List.getD, hi]) (fun j hj => by simp [List.getD, List.getElem?_set, Ne.symm hj])
/-- A list written from the front. -/
theorem set_take {α : Type} {a : List α} {d : α} {m k : Nat} (h : k < a.length) (hm : m = a.length := by rfl) : (a.take k ++ (List.replicate m d).drop k).set k (a.getD k d) = a.take (k + 1) ++ (List.replicate m d).drop (k + 1) := by
  subst hm
  have h1 : (a.take k).length = k := by simp; omega
  rw [List.set_append_right _ _ (by omega), h1, Nat.sub_self, take_succ_getD h, List.append_assoc]
  congr 1
  rw [List.drop_eq_getElem_cons (by simp; exact h)]
  rfl
/-! ### Loops over 0 .. len, by what is left -/
/-- Steps k, k+1, .. told one after the other; J: what comes behind a step. -/
def forK {S R : Type} (step : Nat → S → (S → Option R) → Option R) (fin : S → Option R) : Nat → Nat → S → Option R
  | 0, _, s => fin s
  | m + 1, k, s => step k s fun s' => forK step fin m (k + 1) s'
theorem loop_forK {X S R : Type} {b : X → (X → Option R) → Option R} {enc : Nat → S → X} {len : Nat} {step : Nat → S → (S → Option R) → Option R} {fin : S → Option R} (I : Nat → S → Prop)
    (hstep : ∀ k s J J', k < len → I k s → (∀ s', I (k + 1) s' → J (enc (k + 1) s') = J' s') → b (enc k s) J = step k s J') (hfin : ∀ s J, I len s → b (enc len s) J = fin s) :
    ∀ m k s n, k + m = len → m < n → I k s → loopN b n (enc k s) = forK step fin m k s
  | 0, k, s, 0, _, h, _ => absurd h (Nat.lt_irrefl _)
  | 0, k, s, n + 1, hk, _, hi => by
    have hk : k = len := by omega
    subst hk
    exact hfin s _ hi
  | m + 1, k, s, 0, _, h, _ => absurd h (Nat.not_lt_zero _)
  | m + 1, k, s, n + 1, hk, hn, hi => by
    show b (enc k s) (loopN b n) = step k s fun s' => forK step fin m (k + 1) s'
    exact hstep k s _ _ (by omega) hi fun s' hi' => loop_forK I hstep hfin m (k + 1) s' n (by omega) (by omega) hi'
/-- The first k at which f answers; at none: z. -/
def scanK {R : Type} (f : Nat → Option (Option R)) (z : Option R) : Nat → Nat → Option R
  | 0, _ => z
  | m + 1, k => match f k with
    | some r => r
    | none => scanK f z m (k + 1)
theorem loop_scan {X R : Type} {b : X → (X → Option R) → Option R} {enc : Nat → X} {len : Nat} {f : Nat → Option (Option R)} {z : Option R}
    (hstep : ∀ k J, k < len → b (enc k) J = match f k with | some r => r | none => J (enc (k + 1))) (hfin : ∀ J, b (enc len) J = z) :
    ∀ m k n, k + m = len → m < n → loopN b n (enc k) = scanK f z m k
  | 0, k, 0, _, h => absurd h (Nat.lt_irrefl _)
  | 0, k, n + 1, hk, _ => by
    have hk : k = len := by omega
    subst hk
    exact hfin _
  | m + 1, k, 0, _, h => absurd h (Nat.not_lt_zero _)
  | m + 1, k, n + 1, hk, hn => by
    show b (enc k) (loopN b n) = _
    rw [hstep k _ (by omega)]
    unfold scanK
    cases f k with
    | some r => rfl
    | none => exact loop_scan hstep hfin m (k + 1) n (by omega) (by omega)
/-- Is p so of all of k, .. k + m - 1? -/
theorem scan_all {R : Type} {p : Nat → Bool} {r z : Option R} : ∀ m k, scanK (fun k => bif p k then none else some r) z m k = bif (List.range' k m).all p then z else r
  | 0, k => rfl
  | m + 1, k => by
    rw [scanK, List.range'_succ, List.all_cons]
    cases h : p k with
    | true => simp only [cond_true, Bool.true_and]; exact scan_all m (k + 1)
    | false => rfl
theorem scan_any {R : Type} {p : Nat → Bool} {r z : Option R} : ∀ m k, scanK (fun k => bif p k then some r else none) z m k = bif (List.range' k m).any p then r else z
  | 0, k => rfl
  | m + 1, k => by
    rw [scanK, List.range'_succ, List.any_cons]
    cases h : p k with
    | false => simp only [cond_false, Bool.false_or]; exact scan_any m (k + 1)
    | true => rfl
theorem mgetI_mputI {β : Type} (l : List (Int × β)) (n m : Int) (v : β) : mgetI (mputI l n v) m = if m = n then some v else mgetI l m := by
  unfold mgetI mputI
  induction l with
  | nil =>
    by_cases h : m = n <;> simp [h]
  | cons a l ih =>
    rw [List.findIdx?_cons]
    by_cases h : n = a.1
    · simp only [h, decide_true, if_true, Option.elim_some, List.set_cons_zero, List.find?_cons]
      by_cases h2 : m = a.1
      · simp [h2]
      · simp [h2]
    · simp only [h, decide_false, Bool.false_eq_true, if_false]
      cases hf : l.findIdx? (fun e => decide (n = e.1)) with
      | none =>
        rw [hf] at ih
        simp only [Option.elim_none] at ih
        simp only [Option.map_none, Option.elim_none, List.cons_append, List.find?_cons]
        by_cases h2 : m = a.1
        · have : m ≠ n := fun e => h (e ▸ h2)
          simp [h2]
          simp [h2] at this
          simp [this]
        · simp only [h2, decide_false]
          exact ih
      | some i =>
        rw [hf] at ih
        simp only [Option.elim_some] at ih
        simp only [Option.map_some, Option.elim_some, List.set_cons_succ, List.find?_cons]
        by_cases h2 : m = a.1
        · have : m ≠ n := fun e => h (e ▸ h2)
          simp [h2]
          simp [h2] at this
          simp [this]
        · simp only [h2, decide_false]
          exact ih
theorem mgetI_nil {β : Type} (m : Int) : mgetI ([] : List (Int × β)) m = none := rfl
/-! ### Chains of tests -/
theorem bif_and' {α : Type} {a b : Bool} {x y : α} : (bif a then (bif b then x else y) else y) = bif a && b then x else y := by cases a <;> rfl
theorem bif_or' {α : Type} {a b : Bool} {x y : α} : (bif a then y else (bif b then x else y)) = bif !a && b then x else y := by cases a <;> rfl
theorem bif_and2 {α : Type} {a b : Bool} {x y : α} : (bif a then (bif b then y else x) else y) = bif a && !b then x else y := by cases a <;> cases b <;> rfl
theorem bif_or2 {α : Type} {a b : Bool} {x y : α} : (bif a then y else (bif b then y else x)) = bif !a && !b then x else y := by cases a <;> cases b <;> rfl
theorem bif_some {α β : Type} {a : Bool} {x y : α} {f : α → Option β} : (bif a then some x else some y).bind f = bif a then f x else f y := by cases a <;> rfl
theorem bif_tf {a : Bool} : (bif a then some true else some false) = some a := by cases a <;> rfl
theorem bif_ft {a : Bool} : (bif a then some false else some true) = some (!a) := by cases a <;> rfl
theorem bif_sf {a b : Bool} : (bif a then some b else some false) = some (a && b) := by cases a <;> rfl
theorem all_range_succ {p : Nat → Bool} {k : Nat} : (List.range (k + 1)).all p = ((List.range k).all p && p k) := by
  rw [List.range_succ, List.all_append]
  simp
theorem any_range_succ {p : Nat → Bool} {k : Nat} : (List.range (k + 1)).any p = ((List.range k).any p || p k) := by
  rw [List.range_succ, List.any_append]
  simp
theorem all_range_not {p : Nat → Bool} {k m : Nat} (hk : k < m) (h : p k = false) : (List.range m).all p = false := by
  rw [Bool.eq_false_iff]
  intro e
  rw [List.all_eq_true] at e
  rw [e k (List.mem_range.2 hk)] at h
  cases h
theorem any_range_of {p : Nat → Bool} {k m : Nat} (hk : k < m) (h : p k = true) : (List.range m).any p = true := by
  rw [List.any_eq_true]
  exact ⟨k, List.mem_range.2 hk, h⟩
/-- A loop that looks at k = 0, 1, .. and leaves at the first that is not so. -/
theorem loop_all {R : Type} {b : Int → (Int → Option R) → Option R} {len : Nat} {p : Nat → Bool} {no yes : Option R} (hlen : len ≤ 9223372036854775807)
    (hstep : ∀ (k : Nat) (J : Int → Option R), k < len → (∀ j, j < k → p j = true) → b (k : Int) J = bif p k then J ((k + 1 : Nat) : Int) else no) (hfin : ∀ J, (∀ j, j < len → p j = true) → b (len : Int) J = yes) {n : Nat} (hn : len < n) :
    loopN b n (0 : Int) = bif (List.range len).all p then yes else no := by
  refine loopN_ind (fun x => len - x.toNat) (fun x => ∃ k : Nat, k ≤ len ∧ x = (k : Int) ∧ (List.range k).all p = true) (fun x r => r = bif (List.range len).all p then yes else no) ?_ n _ ⟨0, by omega, rfl, rfl⟩ (by simp; omega)
  rintro _ J ⟨k, hk, rfl, hb⟩ ih
  have hb' : ∀ j, j < k → p j = true := fun j hj => List.all_eq_true.1 hb j (List.mem_range.2 hj)
  by_cases h : k < len
  · rw [hstep k J h hb']
    cases hp : p k with
    | true => exact ih _ ⟨k + 1, h, rfl, by rw [all_range_succ, hb, hp]; rfl⟩ (by simp; omega)
    | false => rw [all_range_not h hp]; rfl
  · have : k = len := by omega
    subst this
    rw [hfin _ hb', hb]
    rfl
/-- The same, a state turned on the way (its invariant: I). -/
theorem loop_allS {S R : Type} {X : Type} {enc : Int → S → X} {b : X → (X → Option R) → Option R} {len : Nat} {p : Nat → Bool} {I : Nat → S → Prop} {no yes : Option R}
    (hstep : ∀ (k : Nat) (s : S) (J : X → Option R), k < len → I k s → (∀ j, j < k → p j = true) → ∃ s', (p k = true → I (k + 1) s') ∧ b (enc (k : Int) s) J = bif p k then J (enc ((k + 1 : Nat) : Int) s') else no) (hfin : ∀ s J, I len s → (∀ j, j < len → p j = true) → b (enc (len : Int) s) J = yes) {n : Nat} (hn : len < n) {s0 : S} (h0 : I 0 s0) :
    loopN b n (enc (0 : Int) s0) = bif (List.range len).all p then yes else no := by
  have key : ∀ m (k : Nat) (s : S) n, k + m = len → m < n → I k s → (List.range k).all p = true → loopN b n (enc (k : Int) s) = bif (List.range len).all p then yes else no := by
    intro m
    induction m with
    | zero =>
      intro k s n hk hn hi hb
      have hb' : ∀ j, j < k → p j = true := fun j hj => List.all_eq_true.1 hb j (List.mem_range.2 hj)
      have hk : k = len := by omega
      subst hk
      cases n with
      | zero => omega
      | succ n => rw [loopN_succ, hfin s _ hi hb', hb]; rfl
    | succ m ih =>
      intro k s n hk hn hi hb
      have hb' : ∀ j, j < k → p j = true := fun j hj => List.all_eq_true.1 hb j (List.mem_range.2 hj)
      cases n with
      | zero => omega
      | succ n =>
        rw [loopN_succ]
        obtain ⟨s', h1, h2⟩ := hstep k s (loopN b n) (by omega) hi hb'
        rw [h2]
        cases hp : p k with
        | true => exact ih (k + 1) s' n (by omega) (by omega) (h1 hp) (by rw [all_range_succ, hb, hp]; rfl)
        | false => rw [all_range_not (by omega : k < len) hp]; rfl
  exact key len 0 s0 n (by omega) hn h0 rfl
/-- A loop over 0 .. len that never leaves early; its state: I. -/
theorem loop_runS {S R : Type} {X : Type} {enc : Int → S → X} {b : X → (X → Option R) → Option R} {len : Nat} {I : Nat → S → Prop} {Q : Option R → Prop}
    (hstep : ∀ (k : Nat) (s : S) (J : X → Option R), k < len → I k s → ∃ s', I (k + 1) s' ∧ b (enc (k : Int) s) J = J (enc ((k + 1 : Nat) : Int) s')) (hfin : ∀ s J, I len s → Q (b (enc (len : Int) s) J)) {n : Nat} (hn : len < n) {s0 : S} (h0 : I 0 s0) :
    Q (loopN b n (enc (0 : Int) s0)) := by
  have key : ∀ m (k : Nat) (s : S) n, k + m = len → m < n → I k s → Q (loopN b n (enc (k : Int) s)) := by
    intro m
    induction m with
    | zero =>
      intro k s n hk hn hi
      have hk : k = len := by omega
      subst hk
      cases n with
      | zero => omega
      | succ n => rw [loopN_succ]; exact hfin s _ hi
    | succ m ih =>
      intro k s n hk hn hi
      cases n with
      | zero => omega
      | succ n =>
        rw [loopN_succ]
        obtain ⟨s', h1, h2⟩ := hstep k s (loopN b n) (by omega) hi
        rw [h2]
        exact ih (k + 1) s' n (by omega) (by omega) h1
  exact key len 0 s0 n (by omega) hn h0
/-! ### Sums over lists -/
def sumOf {α : Type} (f : α → Nat) : List α → Nat
  | [] => 0
  | a :: l => f a + sumOf f l
theorem sumOf_append {α : Type} (f : α → Nat) : ∀ a b : List α, sumOf f (a ++ b) = sumOf f a + sumOf f b
  | [], b => by simp [sumOf]
  | x :: a, b => by simp only [List.cons_append, sumOf, sumOf_append f a b]; omega
theorem sumOf_take_succ {α : Type} {f : α → Nat} {l : List α} {k : Nat} {d : α} (h : k < l.length) : sumOf f (l.take (k + 1)) = sumOf f (l.take k) + f (l.getD k d) := by
  rw [take_succ_getD (d := d) h, sumOf_append]
  simp [sumOf]
theorem sumOf_take_le {α : Type} (f : α → Nat) (l : List α) (k : Nat) : sumOf f (l.take k) ≤ sumOf f l := by
  have := sumOf_append f (l.take k) (l.drop k)
  rw [List.take_append_drop] at this
  omega
theorem sumOf_mem {α : Type} {f : α → Nat} {l : List α} {k : Nat} {d : α} (h : k < l.length) : f (l.getD k d) ≤ sumOf f l := by
  have h1 := sumOf_take_succ (f := f) (d := d) h
  have h2 := sumOf_take_le f l (k + 1)
  omega
theorem sumOf_lin {α : Type} {f g : α → Nat} {c s : Nat} (h : ∀ y, f y ≤ c * g y + s) : ∀ l : List α, sumOf f l ≤ c * sumOf g l + s * l.length
  | [] => by simp [sumOf]
  | a :: l => by
    have h1 := h a
    have h2 := sumOf_lin h l
    simp only [sumOf, List.length_cons, Nat.mul_add, Nat.mul_succ]
    omega
theorem sumOf_const {α : Type} (c : Nat) : ∀ l : List α, sumOf (fun _ => c) l = c * l.length
  | [] => by simp [sumOf]
  | a :: l => by simp only [sumOf, sumOf_const c l, List.length_cons, Nat.mul_succ]; omega
theorem getD_set {α : Type} {l : List α} {k : Nat} {x d : α} (h : k < l.length) : (l.set k x).getD k d = x := by simp [List.getD, h]
theorem getD_set_ne {α : Type} {l : List α} {k j : Nat} {x d : α} (h : j ≠ k) : (l.set k x).getD j d = l.getD j d := by simp [List.getD, List.getElem?_set, Ne.symm h]
theorem getD_mem {α : Type} {l : List α} {k : Nat} {d : α} (h : k < l.length) : l.getD k d ∈ l := by rw [getD_eq h]; exact List.getElem_mem h
theorem take_drop_set {α : Type} {a : List α} {d : α} {m k : Nat} {x : α} (h : k < a.length) (hm : m = a.length) (hx : x = a.getD k d) : (a.take k ++ (List.replicate m d).drop k).set k x = a.take (k + 1) ++ (List.replicate m d).drop (k + 1) := by
  subst hx
  exact set_take h hm
/-! ### The first that is so -/
def idxOf (p : Nat → Bool) (m : Nat) : Int := match (List.range m).find? p with
  | some k => (k : Int)
  | none => -1
theorem find_range_none {p : Nat → Bool} {m : Nat} (h : ∀ j, j < m → p j = false) : (List.range m).find? p = none := by
  rw [List.find?_eq_none]
  intro x hx
  rw [h x (List.mem_range.1 hx)]
  simp
theorem find_range_some {p : Nat → Bool} {m k : Nat} (hk : k < m) (hp : p k = true) (h : ∀ j, j < k → p j = false) : (List.range m).find? p = some k := by
  have e : m = k + (m - k) := by omega
  rw [e, List.range_add, List.find?_append, find_range_none h, Option.none_or]
  obtain ⟨r, hr⟩ : ∃ r, m - k = r + 1 := ⟨m - k - 1, by omega⟩
  rw [hr, List.range_succ_eq_map]
  simp [hp]
theorem idxOf_ge (p : Nat → Bool) (m : Nat) : decide (idxOf p m ≥ 0) = (List.range m).any p := by
  unfold idxOf
  cases h : (List.range m).find? p with
  | none =>
    rw [List.find?_eq_none] at h
    rw [show (List.range m).any p = false from by rw [List.any_eq_false]; exact h]
    rfl
  | some k =>
    have h1 := List.find?_some h
    rw [show (List.range m).any p = true from List.any_eq_true.2 ⟨k, List.mem_of_find?_eq_some h, h1⟩]
    exact decide_eq_true (by show (0 : Int) ≤ (k : Int); omega)
theorem idxOf_lt (p : Nat → Bool) (m : Nat) : decide (idxOf p m < 0) = !(List.range m).any p := by
  rw [← idxOf_ge]
  by_cases h : idxOf p m < 0
  · rw [decide_eq_true h, decide_eq_false (by omega)]; rfl
  · rw [decide_eq_false h, decide_eq_true (by omega)]; rfl
theorem find_range (p : Nat → Bool) : ∀ m, ((List.range m).find? p = none ∧ ∀ j, j < m → p j = false) ∨ ∃ k, (List.range m).find? p = some k ∧ k < m ∧ p k = true ∧ ∀ j, j < k → p j = false
  | 0 => .inl ⟨rfl, fun j hj => absurd hj (Nat.not_lt_zero _)⟩
  | m + 1 => by
    rcases find_range p m with ⟨h1, h2⟩ | ⟨k, h1, h2, h3, h4⟩
    · cases hp : p m with
      | true => exact .inr ⟨m, find_range_some (by omega) hp h2, by omega, hp, h2⟩
      | false =>
        have : ∀ j, j < m + 1 → p j = false := fun j hj => by
          by_cases e : j = m
          · rw [e]; exact hp
          · exact h2 j (by omega)
        exact .inl ⟨find_range_none this, this⟩
    · exact .inr ⟨k, find_range_some (by omega) h3 h4, by omega, h3, h4⟩
theorem idxOf_spec (p : Nat → Bool) (m : Nat) : (idxOf p m = -1 ∧ ∀ j, j < m → p j = false) ∨ ∃ k : Nat, idxOf p m = (k : Int) ∧ k < m ∧ p k = true ∧ ∀ j, j < k → p j = false := by
  unfold idxOf
  rcases find_range p m with ⟨h1, h2⟩ | ⟨k, h1, h2, h3, h4⟩
  · rw [h1]; exact .inl ⟨rfl, h2⟩
  · rw [h1]; exact .inr ⟨k, rfl, h2, h3, h4⟩
/-- A loop that looks at k = 0, 1, .. and leaves at the first that is so. -/
theorem loop_find {R : Type} {b : Int → (Int → Option R) → Option R} {len : Nat} {p : Nat → Bool} {yes : Nat → Option R} {no : Option R} (hlen : len ≤ 9223372036854775807)
    (hstep : ∀ (k : Nat) (J : Int → Option R), k < len → (∀ j, j < k → p j = false) → b (k : Int) J = bif p k then yes k else J ((k + 1 : Nat) : Int)) (hfin : ∀ J, (∀ j, j < len → p j = false) → b (len : Int) J = no) {n : Nat} (hn : len < n) :
    loopN b n (0 : Int) = match (List.range len).find? p with | some k => yes k | none => no := by
  refine loopN_ind (fun x => len - x.toNat) (fun x => ∃ k : Nat, k ≤ len ∧ x = (k : Int) ∧ ∀ j, j < k → p j = false) (fun x r => r = match (List.range len).find? p with | some k => yes k | none => no) ?_ n _ ⟨0, by omega, rfl, fun j hj => absurd hj (Nat.not_lt_zero _)⟩ (by simp; omega)
  rintro _ J ⟨k, hk, rfl, hb⟩ ih
  by_cases h : k < len
  · rw [hstep k J h hb]
    cases hp : p k with
    | false => exact ih _ ⟨k + 1, h, rfl, fun j hj => by
        by_cases e : j = k
        · rw [e]; exact hp
        · exact hb j (by omega)⟩ (by simp; omega)
    | true => rw [find_range_some h hp hb]; rfl
  · have : k = len := by omega
    subst this
    rw [hfin _ hb, find_range_none hb]
theorem loop_idx {b : Int → (Int → Option Int) → Option Int} {len : Nat} {p : Nat → Bool} (hlen : len ≤ 9223372036854775807)
    (hstep : ∀ (k : Nat) (J : Int → Option Int), k < len → (∀ j, j < k → p j = false) → b (k : Int) J = bif p k then some (k : Int) else J ((k + 1 : Nat) : Int)) (hfin : ∀ J, (∀ j, j < len → p j = false) → b (len : Int) J = some (-1)) {n : Nat} (hn : len < n) :
    loopN b n (0 : Int) = some (idxOf p len) := by
  rw [loop_find (yes := fun k => some (k : Int)) (no := some (-1)) hlen hstep hfin hn]
  unfold idxOf
  cases (List.range len).find? p <;> rfl
theorem byteAt_rng (s : ByteArray) (k : Nat) : 0 ≤ byteAt s k ∧ byteAt s k ≤ 255 := by
  unfold byteAt
  have := (s.data.getD k 0).toNat_lt
  omega
theorem range_any {α : Type} {l : List α} {d : α} {f : α → Bool} : (List.range l.length).any (fun k => f (l.getD k d)) = l.any f := by
  induction l with
  | nil => rfl
  | cons a l ih =>
    rw [List.length_cons, List.range_succ_eq_map, List.any_cons, List.any_map, List.any_cons, ← ih]
    rfl
theorem range_all {α : Type} {l : List α} {d : α} {f : α → Bool} : (List.range l.length).all (fun k => f (l.getD k d)) = l.all f := by
  induction l with
  | nil => rfl
  | cons a l ih =>
    rw [List.length_cons, List.range_succ_eq_map, List.all_cons, List.all_map, List.all_cons, ← ih]
    rfl
theorem all_congr_lt {p q : Nat → Bool} {m : Nat} (h : ∀ k, k < m → p k = q k) : (List.range m).all p = (List.range m).all q := by
  rw [Bool.eq_iff_iff, List.all_eq_true, List.all_eq_true]
  constructor
  · intro g x hx; rw [← h x (List.mem_range.1 hx)]; exact g x hx
  · intro g x hx; rw [h x (List.mem_range.1 hx)]; exact g x hx
theorem any_congr_lt {p q : Nat → Bool} {m : Nat} (h : ∀ k, k < m → p k = q k) : (List.range m).any p = (List.range m).any q := by
  rw [Bool.eq_iff_iff, List.any_eq_true, List.any_eq_true]
  constructor
  · rintro ⟨x, hx, g⟩; exact ⟨x, hx, by rw [← h x (List.mem_range.1 hx)]; exact g⟩
  · rintro ⟨x, hx, g⟩; exact ⟨x, hx, by rw [h x (List.mem_range.1 hx)]; exact g⟩
theorem guard_sz {w : Nat} {x : Option Bool} (h : w ≤ 1048576 → x = some true) : (bif decide ((if (w : Int) ≤ 1048576 then 1048576 - (w : Int) else -1) < 0) then some true else x) = some true := by
  by_cases c : (w : Int) ≤ 1048576
  · rw [if_pos c, decide_eq_false (by omega), cond_false]
    exact h (by omega)
  · rw [if_neg c]
    rfl
end Go.Sm
end

section
set_option linter.unusedSimpArgs false
set_option linter.deprecated false
set_option linter.unusedSectionVars false
set_option linter.unusedVariables false
set_option linter.unusedSimpArgs false
namespace Go.Sm
attribute [local irreducible] bd chk ix loopN
end Go.Sm
end

section
set_option linter.unusedSimpArgs false
set_option linter.deprecated false
set_option linter.unusedSectionVars false
set_option linter.unusedVariables false
set_option linter.unusedSimpArgs false
namespace Go.Sm
attribute [local irreducible] bd chk ix loopN
/-! ### Draws -/
structure CurOk (c : Sl1Cur) : Prop where
  i : 0 ≤ c.i ∧ c.i ≤ (c.b.length : Int)
  len : c.b.length ≤ 1048576
theorem and255 (v : Int) : 0 ≤ w64 (((BitVec.ofInt 64 v &&& BitVec.ofInt 64 (255 : Int)).toNat : Nat) : Int) ∧ w64 (((BitVec.ofInt 64 v &&& BitVec.ofInt 64 (255 : Int)).toNat : Nat) : Int) ≤ 255 := by
  have h : (BitVec.ofInt 64 v &&& BitVec.ofInt 64 (255 : Int)).toNat ≤ 255 := by
    rw [BitVec.toNat_and]
    exact Nat.and_le_right
  rw [w64_id (by omega) (by omega)]
  omega
theorem byte_ok {n : Nat} {c : Sl1Cur} (h : CurOk c) : ∃ v c', spec_l1Byte n c = some (v, c') ∧ (0 ≤ v ∧ v ≤ 255) ∧ CurOk c' := by
  have h1 := h.i
  have h2 := h.len
  unfold spec_l1Byte
  simp only [bd_eq]
  by_cases hc : c.i < (c.b.length : Int)
  · rw [decide_eq_true hc, cond_true, ix_of h1.1 hc]
    refine ⟨_, _, rfl, and255 _, ⟨?_, h2⟩⟩
    show 0 ≤ w64 (c.i + 1) ∧ w64 (c.i + 1) ≤ (c.b.length : Int)
    rw [w64_id (by omega) (by omega)]
    omega
  · rw [decide_eq_false hc, cond_false]
    exact ⟨_, _, rfl, and255 _, ⟨h1, h2⟩⟩
theorem below_ok {n : Nat} {c : Sl1Cur} (h : CurOk c) {m : Int} (hm : 1 ≤ m ∧ m ≤ 256) : ∃ v c', spec_l1Below n c m = some (v, c') ∧ (0 ≤ v ∧ v < m) ∧ CurOk c' := by
  obtain ⟨v, c', h1, h2, h3⟩ := byte_ok (n := n) h
  unfold spec_l1Below
  rw [decide_eq_false (show ¬ m ≤ 0 by omega), cond_false, decide_eq_true (show m ≤ 256 by omega), cond_true, h1, Option.bind_some, decide_eq_false (show ¬ m = 0 by omega), cond_false]
  exact ⟨_, _, rfl, ⟨Int.tmod_nonneg _ h2.1, Int.tmod_lt_of_pos _ (by omega)⟩, h3⟩
theorem new_ok {n : Nat} (code : List Int) (hc : code.length ≤ 1048576) (hn : 1000000000 < n) : ∃ c, spec_l1New n code = some c ∧ CurOk c := by
  have hw : w64 ((59059 : Int) + (code.length : Int)) = 59059 + (code.length : Int) := w64_id (by omega) (by omega)
  unfold spec_l1New
  rw [bd_eq]
  have key : ∀ m k h fu, k + m = code.length → m < fu → ∃ c, loopN (fun (x : Int × Int) J' => spec_l1New_L3 n (fun h16 => some ((⟨code, (0 : Int), h16⟩ : Sl1Cur))) (fun h17 i18 => J' (h17, i18)) code x.1 x.2) fu (h, (k : Int)) = some c ∧ CurOk c := by
    intro m
    induction m with
    | zero =>
      intro k h fu hk hfu
      obtain ⟨f, rfl⟩ : ∃ f, fu = f + 1 := ⟨fu - 1, by omega⟩
      rw [loopN_succ]
      refine ⟨⟨code, 0, h⟩, ?_, ⟨by show (0 : Int) ≤ 0 ∧ (0 : Int) ≤ (code.length : Int); omega, hc⟩⟩
      show spec_l1New_L3 n _ _ code h (k : Int) = _
      unfold spec_l1New_L3
      rw [decide_eq_false (by omega), cond_false]
    | succ m ih =>
      intro k h fu hk hfu
      obtain ⟨f, rfl⟩ : ∃ f, fu = f + 1 := ⟨fu - 1, by omega⟩
      rw [loopN_succ]
      have hstep : ∀ J : Int → Int → Option Sl1Cur, ∃ h', spec_l1New_L3 n (fun h16 => some ((⟨code, (0 : Int), h16⟩ : Sl1Cur))) J code h (k : Int) = J h' ((k + 1 : Nat) : Int) ∨ spec_l1New_L3 n (fun h16 => some ((⟨code, (0 : Int), h16⟩ : Sl1Cur))) J code h (k : Int) = some ⟨code, 0, h⟩ := by
        intro J
        unfold spec_l1New_L3 spec_l1New_k0
        rw [decide_eq_true (show (k : Int) < (code.length : Int) by omega), cond_true]
        cases decide ((k : Int) < 4000) with
        | true =>
          rw [cond_true, ix_nat (by omega), bd_eq, bd_eq, w64_succ (show k < 9223372036854775807 by omega)]
          exact ⟨_, .inl rfl⟩
        | false => exact ⟨0, .inr rfl⟩
      obtain ⟨h', e | e⟩ := hstep (fun h17 i18 => loopN (fun (x : Int × Int) J' => spec_l1New_L3 n (fun h16 => some ((⟨code, (0 : Int), h16⟩ : Sl1Cur))) (fun h17 i18 => J' (h17, i18)) code x.1 x.2) f (h17, i18))
      · obtain ⟨c, g1, g2⟩ := ih (k + 1) h' f (by omega) (by omega)
        exact ⟨c, e.trans g1, g2⟩
      · exact ⟨⟨code, 0, h⟩, e, ⟨by show (0 : Int) ≤ 0 ∧ (0 : Int) ≤ (code.length : Int); omega, hc⟩⟩
  exact key code.length 0 _ n (by omega) (by omega)
/-! ### Weights -/
def w_LBA (a : List ByteArray) : Nat := a.length + sumOf (fun y => y.size) a
def w_SBill (a : SBill) : Nat := a.Shipper.size + a.Order.size + w_LBA a.Held
def w_LSBill (a : List SBill) : Nat := a.length + sumOf (fun y => w_SBill y) a
def w_LInt (a : List Int) : Nat := a.length
def w_SBook (a : SBook) : Nat := w_LSBill a.Bills + w_LInt a.Freed
def w_SBillOp (a : SBillOp) : Nat := a.Who.size + a.To.size
def w_LSBillOp (a : List SBillOp) : Nat := a.length + sumOf (fun y => w_SBillOp y) a
theorem in_spec (n : Nat) (x a b : Int) : spec_l1In n x a b = some (decide (a ≤ x ∧ x ≤ b)) := by
  unfold spec_l1In
  by_cases h0 : a ≤ x <;> by_cases h1 : x ≤ b <;> simp [h0, h1]
theorem in_impl (n : Nat) (x a b : Int) : impl_in n x a b = some (decide (a ≤ x ∧ x ≤ b)) := by
  unfold impl_in
  by_cases h0 : a ≤ x <;> by_cases h1 : x ≤ b <;> simp [h0, h1]
/-! ### Names -/
def charOk (c : Int) : Bool := decide (97 ≤ c ∧ c ≤ 122) || (decide (65 ≤ c ∧ c ≤ 90) || (decide (48 ≤ c ∧ c ≤ 57) || decide (c = 45)))
def nameB (s : ByteArray) : Bool := decide (1 ≤ (s.size : Int) ∧ (s.size : Int) ≤ 20) && (List.range s.size).all fun k => charOk (byteAt s k)
theorem char_spec {α : Type} (c : Int) (x y : α) : (bif !decide (97 ≤ c ∧ c ≤ 122) then (bif !decide (65 ≤ c ∧ c ≤ 90) then (bif !decide (48 ≤ c ∧ c ≤ 57) then (bif !decide (c = 45) then x else y) else y) else y) else y) = bif charOk c then y else x := by
  unfold charOk
  cases decide (97 ≤ c ∧ c ≤ 122) <;> cases decide (65 ≤ c ∧ c ≤ 90) <;> cases decide (48 ≤ c ∧ c ≤ 57) <;> cases decide (c = 45) <;> rfl
theorem char_impl {α : Type} (c : Int) (x y : α) : (bif (decide (c < (97 : Int))) then (bif (decide (c < (65 : Int))) then (bif (decide (c < (48 : Int))) then (bif (!(decide (c = (45 : Int)))) then x else y) else (bif (decide (c > (57 : Int))) then (bif (!(decide (c = (45 : Int)))) then x else y) else y)) else (bif (decide (c > (90 : Int))) then (bif (decide (c < (48 : Int))) then (bif (!(decide (c = (45 : Int)))) then x else y) else (bif (decide (c > (57 : Int))) then (bif (!(decide (c = (45 : Int)))) then x else y) else y)) else y)) else (bif (decide (c > (122 : Int))) then (bif (decide (c < (65 : Int))) then (bif (decide (c < (48 : Int))) then (bif (!(decide (c = (45 : Int)))) then x else y) else (bif (decide (c > (57 : Int))) then (bif (!(decide (c = (45 : Int)))) then x else y) else y)) else (bif (decide (c > (90 : Int))) then (bif (decide (c < (48 : Int))) then (bif (!(decide (c = (45 : Int)))) then x else y) else (bif (decide (c > (57 : Int))) then (bif (!(decide (c = (45 : Int)))) then x else y) else y)) else y)) else y)) = bif charOk c then y else x := by
  unfold charOk
  have hc : c < 45 ∨ c = 45 ∨ (45 < c ∧ c < 48) ∨ (48 ≤ c ∧ c ≤ 57) ∨ (57 < c ∧ c < 65) ∨ (65 ≤ c ∧ c ≤ 90) ∨ (90 < c ∧ c < 97) ∨ (97 ≤ c ∧ c ≤ 122) ∨ 122 < c := by omega
  rcases hc with h | h | h | h | h | h | h | h | h
  · simp only [decide_eq_true (show (c : Int) < 97 by omega), decide_eq_true (show (c : Int) < 65 by omega), decide_eq_true (show (c : Int) < 48 by omega), decide_eq_false (show ¬ (c : Int) > 57 by omega), decide_eq_false (show ¬ (c : Int) > 90 by omega), decide_eq_false (show ¬ (c : Int) > 122 by omega), decide_eq_false (show ¬ (c : Int) = 45 by omega), decide_eq_false (show ¬ (97 ≤ c ∧ c ≤ 122) by omega), decide_eq_false (show ¬ (65 ≤ c ∧ c ≤ 90) by omega), decide_eq_false (show ¬ (48 ≤ c ∧ c ≤ 57) by omega), cond_true, cond_false, Bool.not_true, Bool.not_false, Bool.true_or, Bool.false_or]
  · simp only [decide_eq_true (show (c : Int) < 97 by omega), decide_eq_true (show (c : Int) < 65 by omega), decide_eq_true (show (c : Int) < 48 by omega), decide_eq_false (show ¬ (c : Int) > 57 by omega), decide_eq_false (show ¬ (c : Int) > 90 by omega), decide_eq_false (show ¬ (c : Int) > 122 by omega), decide_eq_true (show (c : Int) = 45 by omega), decide_eq_false (show ¬ (97 ≤ c ∧ c ≤ 122) by omega), decide_eq_false (show ¬ (65 ≤ c ∧ c ≤ 90) by omega), decide_eq_false (show ¬ (48 ≤ c ∧ c ≤ 57) by omega), cond_true, cond_false, Bool.not_true, Bool.not_false, Bool.true_or, Bool.false_or]
  · simp only [decide_eq_true (show (c : Int) < 97 by omega), decide_eq_true (show (c : Int) < 65 by omega), decide_eq_true (show (c : Int) < 48 by omega), decide_eq_false (show ¬ (c : Int) > 57 by omega), decide_eq_false (show ¬ (c : Int) > 90 by omega), decide_eq_false (show ¬ (c : Int) > 122 by omega), decide_eq_false (show ¬ (c : Int) = 45 by omega), decide_eq_false (show ¬ (97 ≤ c ∧ c ≤ 122) by omega), decide_eq_false (show ¬ (65 ≤ c ∧ c ≤ 90) by omega), decide_eq_false (show ¬ (48 ≤ c ∧ c ≤ 57) by omega), cond_true, cond_false, Bool.not_true, Bool.not_false, Bool.true_or, Bool.false_or]
  · simp only [decide_eq_true (show (c : Int) < 97 by omega), decide_eq_true (show (c : Int) < 65 by omega), decide_eq_false (show ¬ (c : Int) < 48 by omega), decide_eq_false (show ¬ (c : Int) > 57 by omega), decide_eq_false (show ¬ (c : Int) > 90 by omega), decide_eq_false (show ¬ (c : Int) > 122 by omega), decide_eq_false (show ¬ (c : Int) = 45 by omega), decide_eq_false (show ¬ (97 ≤ c ∧ c ≤ 122) by omega), decide_eq_false (show ¬ (65 ≤ c ∧ c ≤ 90) by omega), decide_eq_true (show 48 ≤ c ∧ c ≤ 57 by omega), cond_true, cond_false, Bool.not_true, Bool.not_false, Bool.true_or, Bool.false_or]
  · simp only [decide_eq_true (show (c : Int) < 97 by omega), decide_eq_true (show (c : Int) < 65 by omega), decide_eq_false (show ¬ (c : Int) < 48 by omega), decide_eq_true (show (c : Int) > 57 by omega), decide_eq_false (show ¬ (c : Int) > 90 by omega), decide_eq_false (show ¬ (c : Int) > 122 by omega), decide_eq_false (show ¬ (c : Int) = 45 by omega), decide_eq_false (show ¬ (97 ≤ c ∧ c ≤ 122) by omega), decide_eq_false (show ¬ (65 ≤ c ∧ c ≤ 90) by omega), decide_eq_false (show ¬ (48 ≤ c ∧ c ≤ 57) by omega), cond_true, cond_false, Bool.not_true, Bool.not_false, Bool.true_or, Bool.false_or]
  · simp only [decide_eq_true (show (c : Int) < 97 by omega), decide_eq_false (show ¬ (c : Int) < 65 by omega), decide_eq_false (show ¬ (c : Int) < 48 by omega), decide_eq_true (show (c : Int) > 57 by omega), decide_eq_false (show ¬ (c : Int) > 90 by omega), decide_eq_false (show ¬ (c : Int) > 122 by omega), decide_eq_false (show ¬ (c : Int) = 45 by omega), decide_eq_false (show ¬ (97 ≤ c ∧ c ≤ 122) by omega), decide_eq_true (show 65 ≤ c ∧ c ≤ 90 by omega), decide_eq_false (show ¬ (48 ≤ c ∧ c ≤ 57) by omega), cond_true, cond_false, Bool.not_true, Bool.not_false, Bool.true_or, Bool.false_or]
  · simp only [decide_eq_true (show (c : Int) < 97 by omega), decide_eq_false (show ¬ (c : Int) < 65 by omega), decide_eq_false (show ¬ (c : Int) < 48 by omega), decide_eq_true (show (c : Int) > 57 by omega), decide_eq_true (show (c : Int) > 90 by omega), decide_eq_false (show ¬ (c : Int) > 122 by omega), decide_eq_false (show ¬ (c : Int) = 45 by omega), decide_eq_false (show ¬ (97 ≤ c ∧ c ≤ 122) by omega), decide_eq_false (show ¬ (65 ≤ c ∧ c ≤ 90) by omega), decide_eq_false (show ¬ (48 ≤ c ∧ c ≤ 57) by omega), cond_true, cond_false, Bool.not_true, Bool.not_false, Bool.true_or, Bool.false_or]
  · simp only [decide_eq_false (show ¬ (c : Int) < 97 by omega), decide_eq_false (show ¬ (c : Int) < 65 by omega), decide_eq_false (show ¬ (c : Int) < 48 by omega), decide_eq_true (show (c : Int) > 57 by omega), decide_eq_true (show (c : Int) > 90 by omega), decide_eq_false (show ¬ (c : Int) > 122 by omega), decide_eq_false (show ¬ (c : Int) = 45 by omega), decide_eq_true (show 97 ≤ c ∧ c ≤ 122 by omega), decide_eq_false (show ¬ (65 ≤ c ∧ c ≤ 90) by omega), decide_eq_false (show ¬ (48 ≤ c ∧ c ≤ 57) by omega), cond_true, cond_false, Bool.not_true, Bool.not_false, Bool.true_or, Bool.false_or]
  · simp only [decide_eq_false (show ¬ (c : Int) < 97 by omega), decide_eq_false (show ¬ (c : Int) < 65 by omega), decide_eq_false (show ¬ (c : Int) < 48 by omega), decide_eq_true (show (c : Int) > 57 by omega), decide_eq_true (show (c : Int) > 90 by omega), decide_eq_true (show (c : Int) > 122 by omega), decide_eq_false (show ¬ (c : Int) = 45 by omega), decide_eq_false (show ¬ (97 ≤ c ∧ c ≤ 122) by omega), decide_eq_false (show ¬ (65 ≤ c ∧ c ≤ 90) by omega), decide_eq_false (show ¬ (48 ≤ c ∧ c ≤ 57) by omega), cond_true, cond_false, Bool.not_true, Bool.not_false, Bool.true_or, Bool.false_or]
theorem name_spec {n : Nat} (s : ByteArray) (hs : s.size ≤ 100000000) (hn : 1000000000 < n) : spec_l1Name n s = some (nameB s) := by
  unfold spec_l1Name
  rw [loop_all (p := fun k => charOk (byteAt s k)) (len := s.size) (no := some false) (yes := some (decide (1 ≤ (s.size : Int) ∧ (s.size : Int) ≤ 20))) (by omega) (fun k J h _ => ?_) (fun J _ => ?_) (by omega)]
  · rw [bif_sf, nameB, Bool.and_comm]
  · unfold spec_l1Name_L2 spec_l1Name_k0
    have hb := byteAt_rng s k
    have e : w64 (byteAt s k) = byteAt s k := w64_id (by omega) (by omega)
    simp only [Int.ofNat_lt, h, decide_true, cond_true, ix_nat h, Int.toNat_natCast, e, in_spec, Option.bind_some, w64_succ (show k < 9223372036854775807 by omega)]
    exact char_spec _ _ _
  · unfold spec_l1Name_L2
    simp only [Int.lt_irrefl, decide_false, cond_false, in_spec, Option.bind_some]
theorem name_impl {n : Nat} (s : ByteArray) (hs : s.size ≤ 100000000) (hn : 1000000000 < n) : impl_nameOk n s = some (nameB s) := by
  unfold impl_nameOk nameB
  by_cases h1 : s.size < 1
  · rw [decide_eq_true (show (s.size : Int) < 1 by omega), cond_true, decide_eq_false (by omega)]; rfl
  · by_cases h2 : s.size > 20
    · rw [decide_eq_false (show ¬ (s.size : Int) < 1 by omega), cond_false, decide_eq_true (show (s.size : Int) > 20 by omega), cond_true, decide_eq_false (by omega)]; rfl
    · rw [decide_eq_false (show ¬ (s.size : Int) < 1 by omega), cond_false, decide_eq_false (show ¬ (s.size : Int) > 20 by omega), cond_false, decide_eq_true (show 1 ≤ (s.size : Int) ∧ (s.size : Int) ≤ 20 by omega)]
      rw [loop_all (p := fun k => charOk (byteAt s k)) (len := s.size) (no := some false) (yes := some true) (by omega) (fun k J h _ => ?_) (fun J _ => ?_) (by omega)]
      · rw [bif_tf, Bool.true_and]
      · unfold impl_nameOk_L4 impl_nameOk_k0
        simp only [Int.ofNat_lt, h, decide_true, cond_true, ix_nat h, Int.toNat_natCast, w64_succ (show k < 9223372036854775807 by omega)]
        exact char_impl _ _ _
      · unfold impl_nameOk_L4
        simp only [Int.lt_irrefl, decide_false, cond_false]
def emptyB (s : ByteArray) : Bool := decide (s = str []) || nameB s
theorem empty_impl {n : Nat} (s : ByteArray) (hs : s.size ≤ 100000000) (hn : 1000000000 < n) : impl_emptyOrName n s = some (emptyB s) := by
  unfold impl_emptyOrName emptyB
  rw [name_impl s hs hn]
  cases decide (s = str []) <;> rfl
/-! ### Books -/
def heldAll (l : List ByteArray) : Bool := (List.range l.length).all fun k => emptyB (l.getD k (str []))
def billBase (x : SBill) : Bool := nameB x.Shipper && (emptyB x.Order && (decide (1 ≤ x.Many ∧ x.Many ≤ 5) && (decide ((x.Held.length : Int) = x.Many) && heldAll x.Held)))
def billOk (l : List SBill) (k : Nat) : Bool := decide (1 ≤ (l.getD k dSBill).Id ∧ (l.getD k dSBill).Id ≤ 1000000) && ((decide (k = 0) || !decide ((l.getD (k - 1) dSBill).Id ≥ (l.getD k dSBill).Id)) && billBase (l.getD k dSBill))
def hasBill (l : List SBill) (m : Nat) (q : Int) : Bool := (List.range m).any fun j => decide ((l.getD j dSBill).Id = q)
def freedOk (b : SBook) (k : Nat) : Bool := hasBill b.Bills b.Bills.length (b.Freed.getD k 0) && (decide (k = 0) || !decide (b.Freed.getD (k - 1) 0 ≥ b.Freed.getD k 0))
def bookB (b : SBook) : Bool := decide (b.Bills.length ≤ 30) && ((List.range b.Bills.length).all (billOk b.Bills) && (List.range b.Freed.length).all (freedOk b))
theorem hasBill_succ (l : List SBill) (m : Nat) (q : Int) : hasBill l (m + 1) q = (hasBill l m q || decide ((l.getD m dSBill).Id = q)) := by
  unfold hasBill
  rw [any_range_succ]
/-- What is known of a book's sizes. -/
structure BookSz (b : SBook) : Prop where
  bills : b.Bills.length ≤ 100000000
  freed : b.Freed.length ≤ 100000000
  each : ∀ k, k < b.Bills.length → (b.Bills.getD k dSBill).Shipper.size ≤ 100000000 ∧ (b.Bills.getD k dSBill).Order.size ≤ 100000000 ∧ (b.Bills.getD k dSBill).Held.length ≤ 100000000 ∧ ∀ j, j < (b.Bills.getD k dSBill).Held.length → ((b.Bills.getD k dSBill).Held.getD j (str [])).size ≤ 100000000
theorem bookSz (b : SBook) (h : w_SBook b ≤ 100000000) : BookSz b := by
  have h1 : w_SBook b = w_LSBill b.Bills + w_LInt b.Freed := rfl
  have h2 : w_LSBill b.Bills = b.Bills.length + sumOf (fun y => w_SBill y) b.Bills := rfl
  have h3 : w_LInt b.Freed = b.Freed.length := rfl
  refine ⟨by omega, by omega, fun k hk => ?_⟩
  have s := sumOf_mem (f := fun y => w_SBill y) (d := dSBill) hk
  have h4 : w_SBill (b.Bills.getD k dSBill) = (b.Bills.getD k dSBill).Shipper.size + (b.Bills.getD k dSBill).Order.size + w_LBA (b.Bills.getD k dSBill).Held := rfl
  have h5 : w_LBA (b.Bills.getD k dSBill).Held = (b.Bills.getD k dSBill).Held.length + sumOf (fun y => y.size) (b.Bills.getD k dSBill).Held := rfl
  refine ⟨by omega, by omega, by omega, fun j hj => ?_⟩
  have s2 := sumOf_mem (f := fun y : ByteArray => y.size) (d := str []) hj
  try simp only at s2
  omega
theorem held_spec {R : Type} {n : Nat} (kx : Option R) (kxr : Bool → Option R) (i : Int) (b : SBook) (x : SBill) (hl : x.Held.length ≤ 100000000) (hh : ∀ j, j < x.Held.length → (x.Held.getD j (str [])).size ≤ 100000000) (hn : 1000000000 < n) :
    loopN (fun (y : Int) J' => spec_BookOk_L8 n kx (fun t => kxr t) J' i y b x) n (0 : Int) = bif heldAll x.Held then kx else kxr false := by
  rw [loop_all (p := fun k => emptyB (x.Held.getD k (str []))) (len := x.Held.length) (no := kxr false) (yes := kx) (by omega) (fun k J h _ => ?_) (fun J _ => ?_) (by omega)]
  · rfl
  · unfold spec_BookOk_L8 spec_BookOk_k0
    simp only [Int.ofNat_lt, h, decide_true, cond_true, ix_nat h, Int.toNat_natCast, name_spec _ (hh k h) hn, Option.bind_some, w64_succ (show k < 9223372036854775807 by omega), emptyB]
    cases decide (x.Held.getD k (str []) = str []) <;> cases nameB (x.Held.getD k (str [])) <;> rfl
  · unfold spec_BookOk_L8
    simp only [Int.lt_irrefl, decide_false, cond_false]
theorem order_spec {α : Type} {c d : Bool} {x y : α} : (bif !c then (bif !d then x else y) else y) = bif c || d then y else x := by cases c <;> cases d <;> rfl
theorem find_spec {n : Nat} (b : SBook) (id : Int) (h : b.Bills.length ≤ 100000000) (hn : 1000000000 < n) : spec_l14Find n b id = some (idxOf (fun j => decide ((b.Bills.getD j dSBill).Id = id)) b.Bills.length) := by
  unfold spec_l14Find
  refine loop_idx (by omega) (fun k J h2 _ => ?_) (fun J _ => ?_) (by omega)
  · unfold spec_l14Find_L2
    simp only [Int.ofNat_lt, h2, decide_true, cond_true, ix_nat h2, bd_eq, Int.toNat_natCast, w64_succ (show k < 9223372036854775807 by omega)]
  · unfold spec_l14Find_L2
    simp only [Int.lt_irrefl, decide_false, cond_false]
theorem book_spec {n : Nat} (b : SBook) (hz : BookSz b) (hn : 1000000000 < n) : spec_BookOk n b = some (bookB b) := by
  have hl := hz.bills
  have hf := hz.freed
  unfold spec_BookOk
  rw [loop_all (p := billOk b.Bills) (len := b.Bills.length) (no := some false) (yes := some ((List.range b.Freed.length).all (freedOk b) && decide (b.Bills.length ≤ 30))) (by omega) (fun k J h _ => ?_) (fun J _ => ?_) (by omega)]
  · rw [bif_sf, bookB]
    cases (List.range b.Bills.length).all (billOk b.Bills) <;> cases (List.range b.Freed.length).all (freedOk b) <;> cases decide (b.Bills.length ≤ 30) <;> rfl
  · obtain ⟨z1, z2, z3, z4⟩ := hz.each k h
    have hh := fun kx => held_spec (n := n) kx (fun t => some t) (k : Int) b (b.Bills.getD k dSBill) z3 z4 hn
    unfold spec_BookOk_L2 spec_BookOk_k1
    cases k with
    | zero =>
      simp only [Int.ofNat_lt, h, decide_true, cond_true, ix_nat h, bd_eq, Int.toNat_natCast, in_spec, Option.bind_some, w64_succ (show 0 < 9223372036854775807 by omega), show ¬ ((0 : Nat) : Int) > 0 by omega, decide_false, cond_false, name_spec _ z1 hn, name_spec _ z2 hn, hh]
      unfold billOk billBase emptyB
      cases decide ((b.Bills.getD 0 dSBill).Order = str []) <;> simp only [decide_true, Bool.true_or, Bool.false_or, bif_not, bif_and', bif_or', bif_and2, bif_or2, Bool.not_not, Bool.and_assoc, Bool.and_true, Bool.true_and, Bool.false_and, Bool.not_false, Bool.not_true, cond_true, cond_false]
    | succ k =>
      have e3 : w64 (((k + 1 : Nat) : Int) - 1) = (k : Int) := by rw [w64_id (by omega) (by omega)]; omega
      simp only [Int.ofNat_lt, h, decide_true, cond_true, ix_nat h, bd_eq, Int.toNat_natCast, in_spec, Option.bind_some, w64_succ (show k + 1 < 9223372036854775807 by omega), show ((k + 1 : Nat) : Int) > 0 by omega, e3, ix_nat (show k < b.Bills.length by omega), name_spec _ z1 hn, name_spec _ z2 hn, hh]
      unfold billOk billBase emptyB
      cases decide ((b.Bills.getD (k + 1) dSBill).Order = str []) <;> simp only [decide_true, decide_false, Nat.succ_ne_zero, Nat.add_sub_cancel, Bool.true_or, Bool.false_or, bif_not, bif_and', bif_or', bif_and2, bif_or2, Bool.not_not, Bool.and_assoc, Bool.and_true, Bool.true_and, Bool.false_and, Bool.not_false, Bool.not_true, cond_true, cond_false]
  · unfold spec_BookOk_L2
    simp only [Int.lt_irrefl, decide_false, cond_false]
    rw [loop_all (p := freedOk b) (len := b.Freed.length) (no := some false) (yes := some (decide (b.Bills.length ≤ 30))) (by omega) (fun k J h _ => ?_) (fun J _ => ?_) (by omega)]
    · rw [bif_sf]
    · unfold spec_BookOk_L13 spec_BookOk_k2
      have hlt := idxOf_lt (fun j => decide ((b.Bills.getD j dSBill).Id = b.Freed.getD k 0)) b.Bills.length
      cases k with
      | zero =>
        simp only [Int.ofNat_lt, h, decide_true, cond_true, ix_nat h, Int.toNat_natCast, find_spec b _ hl hn, Option.bind_some, hlt, show ¬ ((0 : Nat) : Int) > 0 by omega, decide_false, cond_false, w64_succ (show 0 < 9223372036854775807 by omega)]
        unfold freedOk hasBill
        simp only [decide_true, Bool.true_or, bif_not, bif_and', bif_or', bif_and2, bif_or2, Bool.not_not, Bool.and_assoc, Bool.and_true, Bool.true_and, Bool.false_and, Bool.not_false, Bool.not_true, cond_true, cond_false]
      | succ k =>
        have e3 : w64 (((k + 1 : Nat) : Int) - 1) = (k : Int) := by rw [w64_id (by omega) (by omega)]; omega
        simp only [Int.ofNat_lt, h, decide_true, cond_true, ix_nat h, Int.toNat_natCast, find_spec b _ hl hn, Option.bind_some, hlt, show ((k + 1 : Nat) : Int) > 0 by omega, e3, ix_nat (show k < b.Freed.length by omega), w64_succ (show k + 1 < 9223372036854775807 by omega)]
        unfold freedOk hasBill
        simp only [decide_false, Nat.succ_ne_zero, Nat.add_sub_cancel, Bool.false_or, bif_not, bif_and', bif_or', bif_and2, bif_or2, Bool.not_not, Bool.and_assoc, Bool.and_true, Bool.true_and, Bool.false_and, Bool.not_false, Bool.not_true, cond_true, cond_false]
    · unfold spec_BookOk_L13
      simp only [Int.lt_irrefl, decide_false, cond_false]
      congr 1
      simp only [decide_eq_decide]
      omega
theorem held_impl {n : Nat} (l : List ByteArray) (hl : l.length ≤ 100000000) (hh : ∀ j, j < l.length → (l.getD j (str [])).size ≤ 100000000) (hn : 1000000000 < n) : slices_ContainsFunc_string_string__impl_BookOk_1 n l = some (!heldAll l) := by
  unfold slices_ContainsFunc_string_string__impl_BookOk_1 slices_IndexFunc_string_string__impl_BookOk_1
  rw [loop_idx (p := fun k => !emptyB (l.getD k (str []))) (len := l.length) (by omega) (fun k J h _ => ?_) (fun J _ => ?_) (by omega)]
  · rw [Option.bind_some, idxOf_ge]
    congr 1
    unfold heldAll
    rw [List.not_all_eq_any_not]
  · unfold slices_IndexFunc_string_string__impl_BookOk_1_L2 impl_BookOk_1
    simp only [Int.ofNat_lt, h, decide_true, cond_true, ix_nat h, Int.toNat_natCast, empty_impl _ (hh k h) hn, Option.bind_some, w64_succ (show k < 9223372036854775807 by omega)]
  · unfold slices_IndexFunc_string_string__impl_BookOk_1_L2
    simp only [Int.lt_irrefl, decide_false, cond_false]
theorem book_impl {n : Nat} (b : SBook) (hz : BookSz b) (hn : 1000000000 < n) : impl_BookOk n b = some (bookB b) := by
  have hl := hz.bills
  have hf := hz.freed
  unfold impl_BookOk bookB
  by_cases h30 : b.Bills.length ≤ 30
  · rw [decide_eq_false (show ¬ (b.Bills.length : Int) > 30 by omega), cond_false, decide_eq_true h30, Bool.true_and]
    unfold impl_BookOk_k2
    have := loop_allS (S := List (Int × Bool)) (X := Int × List (Int × Bool)) (enc := fun k s => (k, s)) (b := fun x J' => impl_BookOk_L5 n (fun t74 => loopN (fun (x : Int) J' => impl_BookOk_L12 n (some (true)) (fun t90 => some (t90)) J' b.Freed (b.Freed.length : Int) x b t74) n ((0 : Int))) (fun t92 => some (t92)) (fun t93 t94 => J' (t93, t94)) b.Bills (b.Bills.length : Int) x.1 b x.2) (len := b.Bills.length) (p := billOk b.Bills)
      (I := fun k s => ∀ q, (mgetI s q).getD false = hasBill b.Bills k q) (no := some false) (yes := some ((List.range b.Freed.length).all (freedOk b))) (fun k s J h hi _ => ?_) (fun s J hi _ => ?_) (n := n) (by omega) (s0 := []) (fun q => by simp [mgetI, hasBill])
    · refine this.trans ?_
      rw [bif_sf]
    · obtain ⟨z1, z2, z3, z4⟩ := hz.each k h
      refine ⟨mputI s (b.Bills.getD k dSBill).Id true, fun _ q => ?_, ?_⟩
      · rw [mgetI_mputI, hasBill_succ, ← hi q]
        by_cases hq : q = (b.Bills.getD k dSBill).Id
        · rw [if_pos hq, decide_eq_true hq.symm, Bool.or_true]; rfl
        · rw [if_neg hq, decide_eq_false (Ne.symm hq), Bool.or_false]
      · unfold impl_BookOk_L5 impl_BookOk_k0 impl_idRight
        cases k with
        | zero =>
          simp only [Int.ofNat_lt, h, decide_true, cond_true, ix_nat h, bd_eq, Int.toNat_natCast, in_impl, Option.bind_some, w64_succ (show 0 < 9223372036854775807 by omega), show ¬ ((0 : Nat) : Int) > 0 by omega, decide_false, cond_false, name_impl _ z1 hn, empty_impl _ z2 hn, held_impl _ z3 z4 hn]
          unfold billOk billBase
          simp only [decide_true, Bool.true_or, bif_not, bif_and', bif_or', bif_and2, bif_or2, Bool.not_not, Bool.and_assoc, Bool.and_true, Bool.true_and, Bool.false_and, Bool.not_false, Bool.not_true, cond_true, cond_false]
        | succ k =>
          have e3 : w64 (((k + 1 : Nat) : Int) - 1) = (k : Int) := by rw [w64_id (by omega) (by omega)]; omega
          simp only [Int.ofNat_lt, h, decide_true, cond_true, ix_nat h, bd_eq, Int.toNat_natCast, in_impl, Option.bind_some, w64_succ (show k + 1 < 9223372036854775807 by omega), show ((k + 1 : Nat) : Int) > 0 by omega, e3, ix_nat (show k < b.Bills.length by omega), name_impl _ z1 hn, empty_impl _ z2 hn, held_impl _ z3 z4 hn]
          unfold billOk billBase
          simp only [decide_false, Nat.succ_ne_zero, Nat.add_sub_cancel, Bool.false_or, bif_not, bif_and', bif_or', bif_and2, bif_or2, Bool.not_not, Bool.and_assoc, Bool.and_true, Bool.true_and, Bool.false_and, Bool.not_false, Bool.not_true, cond_true, cond_false]
    · unfold impl_BookOk_L5
      simp only [Int.lt_irrefl, decide_false, cond_false]
      rw [loop_all (p := freedOk b) (len := b.Freed.length) (no := some false) (yes := some true) (by omega) (fun k J h _ => ?_) (fun J _ => ?_) (by omega)]
      · rw [bif_tf]
      · unfold impl_BookOk_L12 impl_BookOk_k1
        cases k with
        | zero =>
          simp only [Int.ofNat_lt, h, decide_true, cond_true, ix_nat h, bd_eq, Int.toNat_natCast, hi, show ¬ ((0 : Nat) : Int) > 0 by omega, decide_false, cond_false, w64_succ (show 0 < 9223372036854775807 by omega)]
          unfold freedOk
          simp only [decide_true, Bool.true_or, bif_not, bif_and', bif_or', bif_and2, bif_or2, Bool.not_not, Bool.and_assoc, Bool.and_true, Bool.true_and, Bool.false_and, Bool.not_false, Bool.not_true, cond_true, cond_false]
        | succ k =>
          have e3 : w64 (((k + 1 : Nat) : Int) - 1) = (k : Int) := by rw [w64_id (by omega) (by omega)]; omega
          simp only [Int.ofNat_lt, h, decide_true, cond_true, ix_nat h, bd_eq, Int.toNat_natCast, hi, show ((k + 1 : Nat) : Int) > 0 by omega, e3, ix_nat (show k < b.Freed.length by omega), w64_succ (show k + 1 < 9223372036854775807 by omega)]
          unfold freedOk
          simp only [decide_false, Nat.succ_ne_zero, Nat.add_sub_cancel, Bool.false_or, bif_not, bif_and', bif_or', bif_and2, bif_or2, Bool.not_not, Bool.and_assoc, Bool.and_true, Bool.true_and, Bool.false_and, Bool.not_false, Bool.not_true, cond_true, cond_false]
      · unfold impl_BookOk_L12
        simp only [Int.lt_irrefl, decide_false, cond_false]
  · rw [decide_eq_true (show (b.Bills.length : Int) > 30 by omega), cond_true, decide_eq_false h30]
    rfl
def firstHeld (l : List ByteArray) : ByteArray := match (List.range l.length).find? (fun k => !decide (l.getD k (str []) = str [])) with
  | some k => l.getD k (str [])
  | none => str []
def titleAt (x : SBill) : ByteArray × Bool := bif !decide (x.Order = str []) then (x.Order, true) else (firstHeld x.Held, true)
def isFreed (b : SBook) (id : Int) : Bool := (List.range b.Freed.length).any fun k => decide (b.Freed.getD k 0 = id)
def titleR (b : SBook) (id : Int) : ByteArray × Bool :=
  bif bookB b && (hasBill b.Bills b.Bills.length id && !isFreed b id) then titleAt (b.Bills.getD (idxOf (fun j => decide ((b.Bills.getD j dSBill).Id = id)) b.Bills.length).toNat dSBill) else (str [], false)
theorem has_spec {n : Nat} (l : List Int) (x : Int) (hl : l.length ≤ 100000000) (hn : 1000000000 < n) : spec_l9Has n l x = some ((List.range l.length).any fun k => decide (l.getD k 0 = x)) := by
  unfold spec_l9Has
  rw [loop_find (p := fun k => decide (l.getD k 0 = x)) (len := l.length) (yes := fun _ => some true) (no := some false) (by omega) (fun k J h _ => ?_) (fun J _ => ?_) (by omega)]
  · rcases find_range (fun k => decide (l.getD k 0 = x)) l.length with ⟨h1, h2⟩ | ⟨k, h1, h2, h3, h4⟩
    · rw [h1, show (List.range l.length).any (fun k => decide (l.getD k 0 = x)) = false from by rw [List.any_eq_false]; intro y hy; rw [h2 y (List.mem_range.1 hy)]; simp]
    · rw [h1, any_range_of h2 h3]
  · unfold spec_l9Has_L2
    simp only [Int.ofNat_lt, h, decide_true, cond_true, ix_nat h, Int.toNat_natCast, w64_succ (show k < 9223372036854775807 by omega)]
  · unfold spec_l9Has_L2
    simp only [Int.lt_irrefl, decide_false, cond_false]
theorem contains_impl {n : Nat} (l : List Int) (x : Int) (hl : l.length ≤ 100000000) (hn : 1000000000 < n) : slices_Contains_int_int n l x = some ((List.range l.length).any fun k => decide (l.getD k 0 = x)) := by
  unfold slices_Contains_int_int slices_Index_int_int
  rw [loop_idx (p := fun k => decide (l.getD k 0 = x)) (len := l.length) (by omega) (fun k J h _ => ?_) (fun J _ => ?_) (by omega)]
  · rw [Option.bind_some, idxOf_ge]
  · unfold slices_Index_int_int_L2
    simp only [Int.ofNat_lt, h, decide_true, cond_true, ix_nat h, Int.toNat_natCast, w64_succ (show k < 9223372036854775807 by omega)]
    rw [show decide (x = l.getD k 0) = decide (l.getD k 0 = x) from by simp only [decide_eq_decide]; exact ⟨Eq.symm, Eq.symm⟩]
  · unfold slices_Index_int_int_L2
    simp only [Int.lt_irrefl, decide_false, cond_false]
theorem at_impl {n : Nat} (b : SBook) (id : Int) (h : b.Bills.length ≤ 100000000) (hn : 1000000000 < n) : impl_Book_at n b id = some (idxOf (fun j => decide ((b.Bills.getD j dSBill).Id = id)) b.Bills.length) := by
  unfold impl_Book_at slices_IndexFunc_impl_Bill_impl_Bill__impl_Book_at_1
  rw [loop_idx (p := fun j => decide ((b.Bills.getD j dSBill).Id = id)) (len := b.Bills.length) (by omega) (fun k J h _ => ?_) (fun J _ => ?_) (by omega)]
  · rfl
  · unfold slices_IndexFunc_impl_Bill_impl_Bill__impl_Book_at_1_L2 impl_Book_at_1
    simp only [Int.ofNat_lt, h, decide_true, cond_true, ix_nat h, bd_eq, Option.bind_some, Int.toNat_natCast, w64_succ (show k < 9223372036854775807 by omega)]
  · unfold slices_IndexFunc_impl_Bill_impl_Bill__impl_Book_at_1_L2
    simp only [Int.lt_irrefl, decide_false, cond_false]
theorem first_of {l : List ByteArray} : (match (List.range l.length).find? (fun k => !decide (l.getD k (str []) = str [])) with | some k => some (l.getD k (str []), true) | none => some (str [], true)) = some (firstHeld l, true) := by
  unfold firstHeld
  cases (List.range l.length).find? (fun k => !decide (l.getD k (str []) = str [])) <;> rfl
theorem title_impl {n : Nat} (b : SBook) (id : Int) (hz : BookSz b) (hn : 1000000000 < n) : impl_TitleOf n b id = some (titleR b id) := by
  have hlt := idxOf_lt (fun j => decide ((b.Bills.getD j dSBill).Id = id)) b.Bills.length
  unfold impl_TitleOf titleR
  rw [at_impl b id hz.bills hn, Option.bind_some, book_impl b hz hn, Option.bind_some, contains_impl _ _ hz.freed hn, Option.bind_some, hlt]
  rw [show (List.range b.Bills.length).any (fun j => decide ((b.Bills.getD j dSBill).Id = id)) = hasBill b.Bills b.Bills.length id from rfl]
  rw [show (List.range b.Freed.length).any (fun k => decide (b.Freed.getD k 0 = id)) = isFreed b id from rfl]
  cases h1 : bookB b with
  | false => rfl
  | true =>
    cases h2 : hasBill b.Bills b.Bills.length id with
    | false => rfl
    | true =>
      cases h3 : isFreed b id with
      | true => rfl
      | false =>
        simp only [Bool.not_true, Bool.not_false, cond_false, cond_true, Bool.and_true]
        rcases idxOf_spec (fun j => decide ((b.Bills.getD j dSBill).Id = id)) b.Bills.length with ⟨g1, g2⟩ | ⟨k, g1, g2, g3, g4⟩
        · exfalso
          rw [g1, show (List.range b.Bills.length).any (fun j => decide ((b.Bills.getD j dSBill).Id = id)) = true from h2] at hlt
          cases hlt
        · rw [g1]
          unfold impl_TitleOf_k0
          rw [ix_nat g2, bd_eq, Int.toNat_natCast]
          unfold titleAt
          cases decide ((b.Bills.getD k dSBill).Order = str []) with
          | false => rfl
          | true =>
            simp only [Bool.not_true, cond_false]
            obtain ⟨_, _, z3, _⟩ := hz.each k g2
            rw [loop_find (p := fun j => !decide ((b.Bills.getD k dSBill).Held.getD j (str []) = str [])) (len := (b.Bills.getD k dSBill).Held.length) (yes := fun j => some ((b.Bills.getD k dSBill).Held.getD j (str []), true)) (no := some (str [], true)) (by omega) (fun j J h _ => ?_) (fun J _ => ?_) (by omega)]
            · exact first_of
            · unfold impl_TitleOf_L10
              simp only [Int.ofNat_lt, h, decide_true, cond_true, ix_nat h, Int.toNat_natCast, w64_succ (show j < 9223372036854775807 by omega)]
            · unfold impl_TitleOf_L10
              simp only [Int.lt_irrefl, decide_false, cond_false]
end Go.Sm
end

section
set_option linter.unusedSimpArgs false
set_option linter.deprecated false
set_option linter.unusedSectionVars false
set_option linter.unusedVariables false
set_option linter.unusedSimpArgs false
namespace Go.Sm
attribute [local irreducible] bd chk ix loopN
theorem loop_findS {S R X : Type} {enc : Nat → S → X} {b : X → (X → Option R) → Option R} {len : Nat} {p : Nat → Bool} {I : Nat → S → Prop} {yes : Nat → Option R} {no : Option R}
    (hstep : ∀ (k : Nat) (s : S) (J : X → Option R), k < len → I k s → ∃ s', I (k + 1) s' ∧ b (enc k s) J = bif p k then yes k else J (enc (k + 1) s')) (hfin : ∀ s J, I len s → b (enc len s) J = no) {n : Nat} (hn : len < n) {s0 : S} (h0 : I 0 s0) :
    loopN b n (enc 0 s0) = ((List.range len).find? p).elim no yes := by
  have key : ∀ m (k : Nat) (s : S) n, k + m = len → m < n → I k s → (∀ j, j < k → p j = false) → loopN b n (enc k s) = ((List.range len).find? p).elim no yes := by
    intro m
    induction m with
    | zero =>
      intro k s n hk hn hi hp
      have hk : k = len := by omega
      subst hk
      cases n with
      | zero => omega
      | succ n => rw [loopN_succ, hfin s _ hi, find_range_none hp]; rfl
    | succ m ih =>
      intro k s n hk hn hi hp
      cases n with
      | zero => omega
      | succ n =>
        rw [loopN_succ]
        obtain ⟨s', h1, h2⟩ := hstep k s (loopN b n) (by omega) hi
        rw [h2]
        cases hpk : p k with
        | true => rw [find_range_some (by omega) hpk hp]; rfl
        | false =>
          refine ih (k + 1) s' n (by omega) (by omega) h1 fun j hj => ?_
          by_cases e : j = k
          · rw [e]; exact hpk
          · exact hp j (by omega)
  exact key len 0 s0 n (by omega) hn h0 fun j hj => absurd hj (Nat.not_lt_zero _)
/-- The same, no state: what came before did not hold. -/
theorem loop_findE {R X : Type} {enc : Nat → X} {b : X → (X → Option R) → Option R} {len : Nat} {p : Nat → Bool} {yes : Nat → Option R} {no : Option R}
    (hstep : ∀ (k : Nat) (J : X → Option R), k < len → (∀ j, j < k → p j = false) → b (enc k) J = bif p k then yes k else J (enc (k + 1))) (hfin : ∀ J, b (enc len) J = no) {n : Nat} (hn : len < n) :
    loopN b n (enc 0) = ((List.range len).find? p).elim no yes := by
  have key : ∀ m (k : Nat) n, k + m = len → m < n → (∀ j, j < k → p j = false) → loopN b n (enc k) = ((List.range len).find? p).elim no yes := by
    intro m
    induction m with
    | zero =>
      intro k n hk hn hp
      have hk : k = len := by omega
      subst hk
      cases n with
      | zero => omega
      | succ n => rw [loopN_succ, hfin, find_range_none hp]; rfl
    | succ m ih =>
      intro k n hk hn hp
      cases n with
      | zero => omega
      | succ n =>
        rw [loopN_succ, hstep k (loopN b n) (by omega) hp]
        cases hpk : p k with
        | true => rw [find_range_some (by omega) hpk hp]; rfl
        | false =>
          refine ih (k + 1) n (by omega) (by omega) fun j hj => ?_
          by_cases e : j = k
          · rw [e]; exact hpk
          · exact hp j (by omega)
  exact key len 0 n (by omega) hn fun j hj => absurd hj (Nat.not_lt_zero _)
/-! ### Copies -/
theorem copy_spec {n : Nat} (b : SBook) (hz : BookSz b) (hl : b.Bills.length ≤ 100000000) (hf : b.Freed.length ≤ 100000000) (hh : ∀ k, k < b.Bills.length → (b.Bills.getD k dSBill).Held.length ≤ 100000000) (hn : 1000000000 < n) : spec_l14Copy n b = some b := by
  unfold spec_l14Copy
  rw [chk_dec (by omega)]
  refine loop_runS (enc := fun k (s : List SBill) => (k, s)) (I := fun k s => s = b.Bills.take k) (Q := fun r => r = some b) (len := b.Bills.length) (fun k s J hk hI => ?_) (fun s J hI => ?_) (by omega) rfl
  · have e : w64 ((k : Int) + 1) = ((k + 1 : Nat) : Int) := w64_succ (by omega)
    have hs : s.length ≤ 100000000 := by rw [hI, List.length_take]; omega
    refine ⟨s ++ [b.Bills.getD k dSBill], by rw [take_succ_getD (d := dSBill) hk, hI], ?_⟩
    show spec_l14Copy_L3 n _ (fun i12 c13 => J (i12, c13)) (k : Int) b [] [] s b.Freed = _
    unfold spec_l14Copy_L3
    have hk' := hh k hk
    rw [decide_eq_true (by omega), cond_true, ix_nat hk, bd_eq, Int.toNat_natCast, chk_dec (by omega), chk_dec (by rw [List.length_append]; simp; omega), e]
  · rw [List.take_length] at hI
    show spec_l14Copy_L3 n _ (fun i12 c13 => J (i12, c13)) (b.Bills.length : Int) b [] [] s b.Freed = _
    unfold spec_l14Copy_L3
    rw [decide_eq_false (by omega), cond_false, hI]
theorem set_same {α : Type} {l : List α} {i : Nat} {d : α} (h : i < l.length) : l.set i (l.getD i d) = l := by
  rw [getD_eq h]; exact List.set_getElem_self h
theorem copy_impl {n : Nat} (b : SBook) (hl : b.Bills.length ≤ 100000000) (hf : b.Freed.length ≤ 100000000) (hh : ∀ k, k < b.Bills.length → (b.Bills.getD k dSBill).Held.length ≤ 100000000) (hn : 1000000000 < n) : impl_Book_own n b = some b := by
  unfold impl_Book_own impl_own_impl_Bill
  rw [chk_dec (by omega), chk_dec (by omega), chk_dec (by omega), Option.bind_some]
  refine loop_runS (enc := fun k (s : List SBill × Nat) => (k, s)) (I := fun k s => s = (b.Bills, k)) (Q := fun r => r = some b) (len := b.Bills.length) (fun k s J hk hI => ⟨_, rfl, ?_⟩) (fun s J hI => ?_) (by omega) rfl
  · have e : w64 ((k : Int) + 1) = ((k + 1 : Nat) : Int) := w64_succ (by omega)
    have hk' := hh k hk
    subst hI
    show impl_Book_own_L3 n _ (fun t21 l22 => J (t21, l22)) (b.Bills.length : Int) (k : Int) b [] [] (b.Bills, k) = _
    unfold impl_Book_own_L3 impl_Book_own_k0 impl_own_string
    dsimp only
    rw [decide_eq_true (show (k : Int) < (b.Bills.length : Int) by omega), cond_true, ix_nat hk, Int.toNat_natCast, chk_dec hk, decide_eq_false (Nat.lt_irrefl k), cond_false, chk_dec (by omega), chk_dec (by omega), chk_dec (by omega), Option.bind_some, ix_nat hk, chk_dec hk, bd_eq, decide_eq_true rfl, cond_true, bd_eq, e]
    show J (_, (b.Bills.set k (b.Bills.getD k dSBill), k + 1)) = _
    rw [set_same hk]
  · subst hI
    show impl_Book_own_L3 n _ (fun t21 l22 => J (t21, l22)) (b.Bills.length : Int) (b.Bills.length : Int) b [] [] (b.Bills, b.Bills.length) = _
    unfold impl_Book_own_L3 impl_own_int
    rw [decide_eq_false (by omega), cond_false]
    dsimp only
    rw [chk_dec (by omega), chk_dec (by omega), chk_dec (by omega), Option.bind_some, chk_dec (Nat.le_refl _)]
/-! ### As many of one -/
theorem made_spec {n : Nat} (who : ByteArray) {many : Int} (hm : 0 ≤ many ∧ many ≤ 1000) (hn : 1000000000 < n) : spec_l14Made n who many = some (List.replicate many.toNat who) := by
  unfold spec_l14Made
  refine loop_runS (enc := fun k (s : List ByteArray) => (k, s)) (I := fun k s => s = List.replicate k who) (Q := fun r => r = some (List.replicate many.toNat who)) (len := many.toNat) (fun k s J hk hI => ?_) (fun s J hI => ?_) (by omega) rfl
  · have e : w64 ((k : Int) + 1) = ((k + 1 : Nat) : Int) := w64_succ (by omega)
    have hs : s.length ≤ 1000 := by rw [hI, List.length_replicate]; omega
    refine ⟨s ++ [who], by rw [hI, List.replicate_succ'], ?_⟩
    show spec_l14Made_L3 n _ (fun k8 out9 => J (k8, out9)) who many (k : Int) s = _
    unfold spec_l14Made_L3
    rw [decide_eq_true (by omega), cond_true, chk_dec (by rw [List.length_append]; simp; omega), e]
  · show spec_l14Made_L3 n _ (fun k8 out9 => J (k8, out9)) who many ((many.toNat : Nat) : Int) s = _
    unfold spec_l14Made_L3
    rw [decide_eq_false (by omega), cond_false, hI]
theorem made_impl {n : Nat} (who : ByteArray) {many : Int} (hm : 0 ≤ many ∧ many ≤ 1000) (hn : 1000000000 < n) : impl_heldBy n who many = some (List.replicate many.toNat who) := by
  unfold impl_heldBy
  rw [chk_dec hm.1, chk_dec (Int.le_refl _), chk_dec (by omega), List.length_replicate]
  refine loop_runS (enc := fun k (s : List ByteArray) => (k, s)) (I := fun k s => s.length = many.toNat ∧ ∀ j, j < k → s.getD j (str []) = who) (Q := fun r => r = some (List.replicate many.toNat who)) (len := many.toNat) (fun k s J hk hI => ?_) (fun s J hI => ?_) (by omega) ⟨List.length_replicate, fun j hj => absurd hj (Nat.not_lt_zero _)⟩
  · have e : w64 ((k : Int) + 1) = ((k + 1 : Nat) : Int) := w64_succ (by omega)
    have hks : k < s.length := by rw [hI.1]; exact hk
    refine ⟨s.set k who, ⟨by rw [List.length_set]; exact hI.1, fun j hj => ?_⟩, ?_⟩
    · by_cases ej : j = k
      · rw [ej, getD_set hks]
      · rw [getD_set_ne ej]; exact hI.2 j (by omega)
    · show impl_heldBy_L3 n _ (fun t8 l9 => J (t8, l9)) who ((many.toNat : Nat) : Int) (k : Int) s = _
      unfold impl_heldBy_L3
      rw [decide_eq_true (by omega), cond_true, ix_nat hks, Int.toNat_natCast, chk_dec hks, e]
  · show impl_heldBy_L3 n _ (fun t8 l9 => J (t8, l9)) who ((many.toNat : Nat) : Int) ((many.toNat : Nat) : Int) s = _
    unfold impl_heldBy_L3
    rw [decide_eq_false (by omega), cond_false]
    congr 1
    apply List.ext_getElem (by rw [hI.1, List.length_replicate])
    intro i h1 h2
    rw [List.getElem_replicate, ← getD_eq (d := str []) h1]
    exact hI.2 i (by omega)
/-! ### The op -/
def toB (op : SBillOp) : Bool := bif decide (op.Kind = 3) then nameB op.To else (bif decide (op.Kind = 1) || decide (op.Kind = 2) then emptyB op.To else true)
def manyB (op : SBillOp) : Bool := bif decide (op.Kind = 1) || decide (op.Kind = 5) then decide (1 ≤ op.Many ∧ op.Many ≤ 5) else true
def opB (op : SBillOp) : Bool := decide (1 ≤ op.Kind ∧ op.Kind ≤ 5) && (decide (1 ≤ op.Id ∧ op.Id ≤ 1000000) && (nameB op.Who && (toB op && manyB op)))
theorem op_spec {n : Nat} (op : SBillOp) (hw : op.Who.size ≤ 100000000) (ht : op.To.size ≤ 100000000) (hn : 1000000000 < n) : spec_l14Op n op = some (opB op) := by
  unfold spec_l14Op opB toB manyB spec_l14Op_k0 spec_l14Op_k1 emptyB
  simp only [in_spec, name_spec op.Who hw hn, name_spec op.To ht hn, Option.bind_some]
  generalize decide (1 ≤ op.Id ∧ op.Id ≤ 1000000) = a1
  generalize nameB op.Who = a2
  generalize nameB op.To = a3
  generalize decide (op.To = str []) = a4
  generalize decide (1 ≤ op.Many ∧ op.Many ≤ 5) = a5
  by_cases h1 : op.Kind = 1
  · rw [h1]; cases a1 <;> cases a2 <;> cases a3 <;> cases a4 <;> cases a5 <;> rfl
  by_cases h2 : op.Kind = 2
  · rw [h2]; cases a1 <;> cases a2 <;> cases a3 <;> cases a4 <;> cases a5 <;> rfl
  by_cases h3 : op.Kind = 3
  · rw [h3]; cases a1 <;> cases a2 <;> cases a3 <;> cases a4 <;> cases a5 <;> rfl
  by_cases h4 : op.Kind = 4
  · rw [h4]; cases a1 <;> cases a2 <;> cases a3 <;> cases a4 <;> cases a5 <;> rfl
  by_cases h5 : op.Kind = 5
  · rw [h5]; cases a1 <;> cases a2 <;> cases a3 <;> cases a4 <;> cases a5 <;> rfl
  rw [decide_eq_false (show ¬ (1 ≤ op.Kind ∧ op.Kind ≤ 5) by omega)]; rfl
end Go.Sm
end

section
set_option linter.unusedSimpArgs false
set_option linter.deprecated false
set_option linter.unusedSectionVars false
set_option linter.unusedVariables false
set_option linter.unusedSimpArgs false
namespace Go.Sm
attribute [local irreducible] bd chk ix loopN
/-! ### One more in its place -/
theorem sorted_uniK {α : Type} (key : α → Int) : ∀ (a b : List α), a.Pairwise (fun x y => key x < key y) → b.Pairwise (fun x y => key x < key y) → (∀ x, x ∈ a ↔ x ∈ b) → a = b
  | [], [], _, _, _ => rfl
  | [], y :: b, _, _, h => absurd ((h y).2 List.mem_cons_self) List.not_mem_nil
  | x :: a, [], _, _, h => absurd ((h x).1 List.mem_cons_self) List.not_mem_nil
  | x :: a, y :: b, ha, hb, h => by
    rw [List.pairwise_cons] at ha hb
    have hxy : x = y := by
      rcases List.mem_cons.1 ((h x).1 List.mem_cons_self) with e | e
      · exact e
      · rcases List.mem_cons.1 ((h y).2 List.mem_cons_self) with e2 | e2
        · exact e2.symm
        · have h1 := hb.1 x e
          have h2 := ha.1 y e2
          omega
    subst hxy
    rw [sorted_uniK key a b ha.2 hb.2 fun z => ?_]
    constructor
    · intro hz
      rcases List.mem_cons.1 ((h z).1 (List.mem_cons_of_mem _ hz)) with e | e
      · have := ha.1 z hz
        rw [e] at this; omega
      · exact e
    · intro hz
      rcases List.mem_cons.1 ((h z).2 (List.mem_cons_of_mem _ hz)) with e | e
      · have := hb.1 z hz
        rw [e] at this; omega
      · exact e
def insAt {α : Type} (l : List α) (K : Nat) (x : α) : List α := l.take K ++ ([x] ++ l.drop K)
theorem insAt_mem {α : Type} {l : List α} {K : Nat} {x y : α} : y ∈ insAt l K x ↔ y ∈ l ++ [x] := by
  unfold insAt
  have hl : y ∈ l ↔ y ∈ l.take K ∨ y ∈ l.drop K := by
    rw [← List.mem_append, List.take_append_drop]
  simp only [List.mem_append, List.mem_singleton, hl]
  constructor
  · rintro (h | h | h)
    · exact .inl (.inl h)
    · exact .inr h
    · exact .inl (.inr h)
  · rintro ((h | h) | h)
    · exact .inl h
    · exact .inr (.inr h)
    · exact .inr (.inl h)
theorem insAt_sorted {α : Type} (key : α → Int) {d : α} {l : List α} {K : Nat} {x : α} (hl : l.Pairwise fun a b => key a < key b) (hK : K ≤ l.length) (h1 : ∀ j, j < K → key (l.getD j d) < key x) (h2 : ∀ j, K ≤ j → j < l.length → key x < key (l.getD j d)) : (insAt l K x).Pairwise fun a b => key a < key b := by
  unfold insAt
  have ht : ∀ a ∈ l.take K, key a < key x := fun a ha => by
    obtain ⟨u, hu, he⟩ := List.getElem_of_mem ha
    have hu' : u < K ∧ u < l.length := by rw [List.length_take] at hu; omega
    rw [List.getElem_take] at he
    have := h1 u hu'.1
    rw [getD_eq hu'.2, he] at this; exact this
  have hd : ∀ a ∈ l.drop K, key x < key a := fun a ha => by
    obtain ⟨u, hu, he⟩ := List.getElem_of_mem ha
    have hu' : K + u < l.length := by rw [List.length_drop] at hu; omega
    rw [List.getElem_drop] at he
    have := h2 (K + u) (by omega) hu'
    rw [getD_eq hu', he] at this; exact this
  rw [List.pairwise_append]
  refine ⟨hl.sublist (List.take_sublist _ _), ?_, fun a ha b hb => ?_⟩
  · rw [List.pairwise_append]
    exact ⟨List.pairwise_singleton _ _, hl.sublist (List.drop_sublist _ _), fun a ha b hb => by rw [List.mem_singleton.1 ha]; exact hd b hb⟩
  · rcases List.mem_append.1 hb with h | h
    · rw [List.mem_singleton.1 h]; exact ht a ha
    · have := ht a ha
      have := hd b h
      omega
theorem pw_strict {α : Type} (key : α → Int) {d : α} {l : List α} (h : ∀ k, 0 < k → k < l.length → key (l.getD (k - 1) d) < key (l.getD k d)) : l.Pairwise fun a b => key a < key b := by
  have lt : ∀ m i, i + m + 1 < l.length → key (l.getD i d) < key (l.getD (i + m + 1) d) := by
    intro m
    induction m with
    | zero => intro i hi; have := h (i + 1) (by omega) (by omega); simpa using this
    | succ m ih =>
      intro i hi
      have h1 := ih i (by omega)
      have h2 := h (i + m + 2) (by omega) (by omega)
      rw [show i + m + 2 - 1 = i + m + 1 by omega] at h2
      rw [show i + (m + 1) + 1 = i + m + 2 by omega]
      omega
  rw [List.pairwise_iff_getElem]
  intro i j hi hj hij
  have := lt (j - i - 1) i (by omega)
  rw [show i + (j - i - 1) + 1 = j by omega, getD_eq hi, getD_eq hj] at this
  exact this
theorem pw_at {α : Type} (key : α → Int) {d : α} {l : List α} (h : l.Pairwise fun a b => key a < key b) {i j : Nat} (hij : i < j) (hj : j < l.length) : key (l.getD i d) < key (l.getD j d) := by
  rw [getD_eq (by omega), getD_eq hj]
  exact List.pairwise_iff_getElem.1 h i j (by omega) hj hij
/-- A list in order whose keys differ is strictly in order. -/
theorem pw_ne {α : Type} (key : α → Int) {l o : List α} (hp : o.Perm l) (ho : o.Pairwise fun a b => key a ≤ key b) (hl : l.Pairwise fun a b => key a ≠ key b) : o.Pairwise fun a b => key a < key b := by
  have hne : o.Pairwise fun a b => key a ≠ key b := (hp.pairwise_iff (fun {a b} hab => Ne.symm hab)).2 hl
  exact (ho.and hne).imp fun {a b} h => by have h1 := h.1; have h2 := h.2; omega
theorem push_ne {α : Type} (key : α → Int) {l : List α} {x : α} (hl : l.Pairwise fun a b => key a < key b) (hx : ∀ y ∈ l, key y ≠ key x) : (l ++ [x]).Pairwise fun a b => key a ≠ key b := by
  rw [List.pairwise_append]
  refine ⟨hl.imp fun {a b} h => by omega, List.pairwise_singleton _ _, fun a ha b hb => ?_⟩
  rw [List.mem_singleton.1 hb]; exact hx a ha
/-- The place where one belongs. -/
theorem place {α : Type} (key : α → Int) {d : α} {l : List α} {z : Int} (hl : l.Pairwise fun a b => key a < key b) (hz : ∀ y ∈ l, key y ≠ z) : ∃ K, K ≤ l.length ∧ (∀ j, j < K → key (l.getD j d) < z) ∧ (∀ j, K ≤ j → j < l.length → z < key (l.getD j d)) ∧ ∀ {R : Type} (kx : Int → R), ((List.range l.length).find? fun j => !decide (key (l.getD j d) < z)).elim (kx (l.length : Int)) (fun k => kx (k : Int)) = kx (K : Int) := by
  rcases find_range (fun j => !decide (key (l.getD j d) < z)) l.length with ⟨h1, h2⟩ | ⟨K, h1, h2, h3, h4⟩
  · refine ⟨l.length, Nat.le_refl _, fun j hj => ?_, fun j hj1 hj2 => by omega, fun kx => by rw [h1]; rfl⟩
    have := h2 j hj
    simpa using this
  · refine ⟨K, by omega, fun j hj => ?_, fun j hj1 hj2 => ?_, fun kx => by rw [h1]; rfl⟩
    · have := h4 j hj
      simpa using this
    · have hK : ¬ key (l.getD K d) < z := by
        intro hh
        have h3 : (!decide (key (l.getD K d) < z)) = true := h3
        rw [decide_eq_true hh] at h3
        cases h3
      have hne := hz _ (getD_mem (d := d) hj2)
      by_cases e : j = K
      · subst e; omega
      · have := pw_at key (d := d) hl (show K < j by omega) hj2
        omega
theorem sortI_ins {l : List Int} {z : Int} {K : Nat} (hl : l.Pairwise fun a b => a < b) (hz : ∀ y ∈ l, y ≠ z) (hK : K ≤ l.length) (h1 : ∀ j, j < K → l.getD j 0 < z) (h2 : ∀ j, K ≤ j → j < l.length → z < l.getD j 0) : sortI (l ++ [z]) = insAt l K z :=
  sorted_uniK (fun x => x) _ _ (pw_ne (fun x => x) (sortI_perm _) (sortI_sorted _) (push_ne (fun x => x) hl hz)) (insAt_sorted (fun x => x) (d := 0) hl hK h1 h2) fun x => by rw [(sortI_perm _).mem_iff]; exact insAt_mem.symm
theorem sortB_ins {n : Nat} {l : List SBill} {z : SBill} {K : Nat} (hl : l.Pairwise fun a b => a.Id < b.Id) (hr : ∀ y ∈ l ++ [z], 1 ≤ y.Id ∧ y.Id ≤ 1000000) (hz : ∀ y ∈ l, y.Id ≠ z.Id) (hK : K ≤ l.length) (h1 : ∀ j, j < K → (l.getD j dSBill).Id < z.Id) (h2 : ∀ j, K ≤ j → j < l.length → z.Id < (l.getD j dSBill).Id) (hll : l.length ≤ 1000) : slices_SortFunc_impl_Bill_impl_Bill__impl_DoBill_1 n (l ++ [z]) = some (insAt l K z) := by
  obtain ⟨o, o1, o2, o3⟩ := sortL_ok (d := dSBill) (cmp := fun a b => impl_DoBill_1 n a b) (cf := fun a b => a.Id - b.Id) (l := l ++ [z]) (fun x hx y hy => by
    have := hr x hx
    have := hr y hy
    unfold impl_DoBill_1
    rw [w64_id (by omega) (by omega)]) (fun x _ => by omega) (fun x _ y _ w _ g1 g2 => by omega) (fun x _ y _ w _ g1 g2 => by omega) (by rw [List.length_append]; simp; omega)
  unfold slices_SortFunc_impl_Bill_impl_Bill__impl_DoBill_1
  rw [o1]
  congr 1
  exact sorted_uniK (fun x : SBill => x.Id) _ _ (pw_ne (fun x : SBill => x.Id) o2 (o3.imp fun {a b} h => by omega) (push_ne (fun x : SBill => x.Id) hl hz)) (insAt_sorted (fun x : SBill => x.Id) (d := dSBill) hl hK h1 h2) fun x => by rw [o2.mem_iff]; exact insAt_mem.symm
/-! ### Who holds how many -/
def cntW (l : List ByteArray) (w : ByteArray) : Nat → Nat
  | 0 => 0
  | k + 1 => if l.getD k (str []) = w then cntW l w k + 1 else cntW l w k
theorem cntW_le (l : List ByteArray) (w : ByteArray) : ∀ k, cntW l w k ≤ k
  | 0 => Nat.le_refl _
  | k + 1 => by
    have := cntW_le l w k
    unfold cntW
    split <;> omega
theorem cntW_zero (l : List ByteArray) (w : ByteArray) : ∀ k, cntW l w k = 0 ↔ ∀ j, j < k → ¬ l.getD j (str []) = w
  | 0 => ⟨fun _ j hj => absurd hj (Nat.not_lt_zero _), fun _ => rfl⟩
  | k + 1 => by
    have ih := cntW_zero l w k
    unfold cntW
    by_cases h : l.getD k (str []) = w
    · rw [if_pos h]
      exact ⟨fun hh => by omega, fun hh => absurd h (hh k (Nat.lt_succ_self _))⟩
    · rw [if_neg h, ih]
      exact ⟨fun hh j hj => by
        by_cases e : j = k
        · rw [e]; exact h
        · exact hh j (by omega), fun hh j hj => hh j (by omega)⟩
theorem cntW_all (l : List ByteArray) (w : ByteArray) : ∀ k, cntW l w k = k ↔ ∀ j, j < k → l.getD j (str []) = w
  | 0 => ⟨fun _ j hj => absurd hj (Nat.not_lt_zero _), fun _ => rfl⟩
  | k + 1 => by
    have ih := cntW_all l w k
    have hle := cntW_le l w k
    unfold cntW
    by_cases h : l.getD k (str []) = w
    · rw [if_pos h]
      constructor
      · intro hh j hj
        by_cases e : j = k
        · rw [e]; exact h
        · exact ih.1 (by omega) j (by omega)
      · intro hh
        have := ih.2 fun j hj => hh j (by omega)
        omega
    · rw [if_neg h]
      exact ⟨fun hh => by omega, fun hh => absurd (hh k (Nat.lt_succ_self _)) h⟩
theorem holds_spec {n : Nat} (x : SBill) (w : ByteArray) (hl : x.Held.length ≤ 1000) (hn : 1000000000 < n) : spec_l14Holds n x w = some ((cntW x.Held w x.Held.length : Nat) : Int) := by
  unfold spec_l14Holds
  refine loop_runS (enc := fun k (s : Int) => (s, k)) (I := fun k s => s = ((cntW x.Held w k : Nat) : Int)) (Q := fun r => r = some ((cntW x.Held w x.Held.length : Nat) : Int)) (len := x.Held.length) (fun k s J hk hI => ⟨_, rfl, ?_⟩) (fun s J hI => ?_) (by omega) rfl
  · have e : w64 ((k : Int) + 1) = ((k + 1 : Nat) : Int) := w64_succ (by omega)
    have hle := cntW_le x.Held w k
    have e2 : w64 (((cntW x.Held w k : Nat) : Int) + 1) = ((cntW x.Held w k + 1 : Nat) : Int) := w64_succ (by omega)
    show spec_l14Holds_L3 n _ (fun n16 k17 => J (n16, k17)) w s (k : Int) x = J (((if x.Held.getD k (str []) = w then cntW x.Held w k + 1 else cntW x.Held w k : Nat) : Int), ((k + 1 : Nat) : Int))
    unfold spec_l14Holds_L3
    rw [decide_eq_true (by omega), cond_true, ix_nat hk, Int.toNat_natCast, e, hI, e2, bif_dec]
    split <;> rfl
  · show spec_l14Holds_L3 n _ (fun n16 k17 => J (n16, k17)) w s (x.Held.length : Int) x = _
    unfold spec_l14Holds_L3
    rw [decide_eq_false (by omega), cond_false, hI]
end Go.Sm
end

section
set_option linter.unusedSimpArgs false
set_option linter.deprecated false
set_option linter.unusedSectionVars false
set_option linter.unusedVariables false
set_option linter.unusedSimpArgs false
namespace Go.Sm
attribute [local irreducible] bd chk ix loopN
/-! ### An op on a bill -/
def heldIs (x : SBill) (op : SBillOp) : Bool := decide (0 ≤ op.Number ∧ op.Number ≤ w64 (x.Many - 1)) && decide (x.Held.getD op.Number.toNat (str []) = op.Who)
def doB (x : SBill) (op : SBillOp) : Option SBill :=
  bif decide (op.Kind = 2) then (bif decide (op.Who = x.Order) || (decide (x.Order = str []) && !decide (((cntW x.Held op.Who x.Held.length : Nat) : Int) = 0)) then some ⟨x.Id, x.Shipper, op.To, x.Many, x.Held⟩ else none)
  else (bif decide (op.Kind = 3) then (bif heldIs x op then some ⟨x.Id, x.Shipper, x.Order, x.Many, x.Held.set op.Number.toNat op.To⟩ else none)
  else (bif decide (op.Kind = 4) then (bif heldIs x op && (decide (x.Order = str []) || decide (x.Order = op.Who)) then some ⟨x.Id, x.Shipper, x.Order, x.Many, List.replicate x.Many.toNat (str [])⟩ else none)
  else (bif decide (((cntW x.Held op.Who x.Held.length : Nat) : Int) = x.Many) then some ⟨x.Id, x.Shipper, x.Order, op.Many, List.replicate op.Many.toNat op.Who⟩ else none)))
theorem do_spec {n : Nat} (x : SBill) (op : SBillOp) (hx : 1 ≤ x.Many ∧ x.Many ≤ 5) (hh : (x.Held.length : Int) = x.Many) (hk : 2 ≤ op.Kind ∧ op.Kind ≤ 5) (hm : op.Kind = 5 → 1 ≤ op.Many ∧ op.Many ≤ 5) (hn : 1000000000 < n) : spec_l14Do n x op = some ((doB x op).elim (x, false) fun y => (y, true)) := by
  have ew : w64 (x.Many - 1) = x.Many - 1 := w64_id (by omega) (by omega)
  unfold spec_l14Do doB heldIs
  rw [holds_spec x op.Who (by omega) hn]
  simp only [Option.bind_some, in_spec, bd_eq]
  by_cases h2 : op.Kind = 2
  · rw [decide_eq_true h2, cond_true, cond_true]
    generalize decide (op.Who = x.Order) = a1
    generalize decide (x.Order = str []) = a2
    generalize decide (((cntW x.Held op.Who x.Held.length : Nat) : Int) = 0) = a3
    cases a1 <;> cases a2 <;> cases a3 <;> rfl
  rw [decide_eq_false h2, cond_false, cond_false]
  by_cases hr : 0 ≤ op.Number ∧ op.Number ≤ w64 (x.Many - 1)
  · have hnl : op.Number < (x.Held.length : Int) := by rw [ew] at hr; omega
    have hnt : op.Number.toNat < x.Held.length := by omega
    have hix : ∀ {R : Type} {y : Option R}, ix op.Number x.Held.length y = y := ix_of hr.1 hnl
    rw [decide_eq_true hr]
    simp only [hix, chk_dec hnt, Bool.true_and, Bool.not_true, cond_false, made_spec (str []) (show 0 ≤ x.Many ∧ x.Many ≤ 1000 by omega) hn, Option.bind_some]
    by_cases h3 : op.Kind = 3
    · rw [decide_eq_true h3, cond_true, cond_true]
      cases decide (x.Held.getD op.Number.toNat (str []) = op.Who) <;> rfl
    rw [decide_eq_false h3, cond_false, cond_false]
    by_cases h4 : op.Kind = 4
    · rw [decide_eq_true h4, cond_true, cond_true]
      generalize decide (x.Held.getD op.Number.toNat (str []) = op.Who) = a1
      generalize decide (x.Order = str []) = a2
      generalize decide (x.Order = op.Who) = a3
      cases a1 <;> cases a2 <;> cases a3 <;> rfl
    rw [decide_eq_false h4, cond_false, cond_false, decide_eq_true (show op.Kind = 5 by omega), cond_true, made_spec op.Who (by have := hm (by omega); omega) hn]
    cases decide (((cntW x.Held op.Who x.Held.length : Nat) : Int) = x.Many) <;> rfl
  · rw [decide_eq_false hr]
    simp only [Bool.false_and, Bool.not_false, cond_true, cond_false]
    by_cases h3 : op.Kind = 3
    · rw [decide_eq_true h3]; rfl
    rw [decide_eq_false h3, cond_false, cond_false]
    by_cases h4 : op.Kind = 4
    · rw [decide_eq_true h4]; rfl
    rw [decide_eq_false h4, cond_false, cond_false, decide_eq_true (show op.Kind = 5 by omega), cond_true, made_spec op.Who (by have := hm (by omega); omega) hn]
    cases decide (((cntW x.Held op.Who x.Held.length : Nat) : Int) = x.Many) <;> rfl
theorem strs_impl {n : Nat} (l : List ByteArray) (w : ByteArray) (hl : l.length ≤ 1000) (hn : 1000000000 < n) : slices_Contains_string_string n l w = some (!decide (((cntW l w l.length : Nat) : Int) = 0)) := by
  unfold slices_Contains_string_string slices_Index_string_string
  rw [loop_idx (len := l.length) (p := fun k => decide (w = l.getD k (str []))) (by omega) (fun k J hk _ => ?_) (fun J _ => ?_) (by omega), Option.bind_some, idxOf_ge]
  · congr 1
    rw [Bool.eq_iff_iff, List.any_eq_true]
    constructor
    · rintro ⟨j, hj, hh⟩
      have hj := List.mem_range.1 hj
      have hh := of_decide_eq_true hh
      have : ¬ cntW l w l.length = 0 := fun h0 => (cntW_zero l w l.length).1 h0 j hj hh.symm
      rw [decide_eq_false (by omega)]; rfl
    · intro hh
      cases hany : (List.range l.length).any fun j => decide (w = l.getD j (str [])) with
      | true =>
        obtain ⟨j, hj, hh⟩ := List.any_eq_true.1 hany
        exact ⟨j, hj, hh⟩
      | false =>
        exfalso
        have h0 := List.any_eq_false.1 hany
        have : cntW l w l.length = 0 := (cntW_zero l w l.length).2 fun j hj hh => h0 j (List.mem_range.2 hj) (decide_eq_true hh.symm)
        rw [decide_eq_true (by omega)] at hh; cases hh
  · have e2 : w64 ((k : Int) + 1) = ((k + 1 : Nat) : Int) := w64_succ (by omega)
    unfold slices_Index_string_string_L2
    rw [decide_eq_true (by omega), cond_true, ix_nat hk, Int.toNat_natCast, e2]
  · unfold slices_Index_string_string_L2
    rw [decide_eq_false (by omega), cond_false]
theorem others_impl {n : Nat} (l : List ByteArray) (op : SBillOp) (hl : l.length ≤ 1000) (hn : 1000000000 < n) : slices_ContainsFunc_string_string__impl_DoBill_2 n l op = some (!decide (cntW l op.Who l.length = l.length)) := by
  unfold slices_ContainsFunc_string_string__impl_DoBill_2 slices_IndexFunc_string_string__impl_DoBill_2
  rw [loop_idx (len := l.length) (p := fun k => !decide (l.getD k (str []) = op.Who)) (by omega) (fun k J hk _ => ?_) (fun J _ => ?_) (by omega), Option.bind_some, idxOf_ge]
  · congr 1
    rw [← List.not_all_eq_any_not]
    congr 1
    rw [Bool.eq_iff_iff, List.all_eq_true, decide_eq_true_eq, cntW_all]
    exact ⟨fun h j hj => of_decide_eq_true (h j (List.mem_range.2 hj)), fun h j hj => decide_eq_true (h j (List.mem_range.1 hj))⟩
  · have e2 : w64 ((k : Int) + 1) = ((k + 1 : Nat) : Int) := w64_succ (by omega)
    unfold slices_IndexFunc_string_string__impl_DoBill_2_L2 impl_DoBill_2
    rw [decide_eq_true (by omega), cond_true, ix_nat hk, Int.toNat_natCast, Option.bind_some, e2]
  · unfold slices_IndexFunc_string_string__impl_DoBill_2_L2
    rw [decide_eq_false (by omega), cond_false]
end Go.Sm
end

section
set_option linter.unusedSimpArgs false
set_option linter.deprecated false
set_option linter.unusedSectionVars false
set_option linter.unusedVariables false
set_option linter.unusedSimpArgs false
namespace Go.Sm
attribute [local irreducible] bd chk ix loopN
structure Hyp (n : Nat) (b : SBook) (i : Nat) (x : SBill) (op : SBillOp) (F : List Int) : Prop where
  hn : 1000000000 < n
  hi : i < b.Bills.length
  hx : b.Bills.getD i dSBill = x
  many : 1 ≤ x.Many ∧ x.Many ≤ 5
  held : (x.Held.length : Int) = x.Many
  kind : 2 ≤ op.Kind ∧ op.Kind ≤ 5
  om : op.Kind = 5 → 1 ≤ op.Many ∧ op.Many ≤ 5
  bl : b.Bills.length ≤ 1000
  hl : ∀ k, k < b.Bills.length → (b.Bills.getD k dSBill).Held.length ≤ 1000
  fl : b.Freed.length ≤ 10000000
  sort : op.Kind = 4 → slices_Sort_int_int n (b.Freed ++ [op.Id]) = some F
  sl : F.length ≤ 10000001
theorem Hyp.own {n : Nat} {b : SBook} {i : Nat} {x : SBill} {op : SBillOp} {F : List Int} (h : Hyp n b i x op F) (y : SBill) (hy : y.Held.length ≤ 1000) (G : List Int) (hG : G.length ≤ 10000001) : impl_Book_own n ⟨b.Bills.set i y, G⟩ = some ⟨b.Bills.set i y, G⟩ := by
  have h1 := h.bl
  refine copy_impl _ (by show (b.Bills.set i y).length ≤ _; rw [List.length_set]; omega) (by show G.length ≤ _; omega) (fun k hk => ?_) h.hn
  show ((b.Bills.set i y).getD k dSBill).Held.length ≤ _
  have hk : k < b.Bills.length := by have hk : k < (b.Bills.set i y).length := hk; rw [List.length_set] at hk; exact hk
  by_cases e : k = i
  · rw [e, getD_set h.hi]; omega
  · rw [getD_set_ne e]; have := h.hl k hk; omega
theorem k1_2 {n : Nat} {b : SBook} {i : Nat} {x : SBill} {op : SBillOp} {F : List Int} (h : Hyp n b i x op F) (hk : op.Kind = 2) : impl_DoBill_k1 n i op b.Bills b.Freed = some (⟨b.Bills.set i ⟨x.Id, x.Shipper, op.To, x.Many, x.Held⟩, b.Freed⟩, 0) := by
  have hh := h.held
  have hm := h.many
  have hf := h.fl
  unfold impl_DoBill_k1
  rw [decide_eq_true hk, cond_true, chk_dec h.hi, bd_eq, bd_eq, h.hx, h.own _ (by show x.Held.length ≤ 1000; omega) _ (by omega), Option.bind_some]
theorem k1_3 {n : Nat} {b : SBook} {i : Nat} {x : SBill} {op : SBillOp} {F : List Int} (h : Hyp n b i x op F) (hk : op.Kind = 3) (hr : 0 ≤ op.Number ∧ op.Number < (x.Held.length : Int)) : impl_DoBill_k1 n i op b.Bills b.Freed = some (⟨b.Bills.set i ⟨x.Id, x.Shipper, x.Order, x.Many, x.Held.set op.Number.toNat op.To⟩, b.Freed⟩, 0) := by
  have hh := h.held
  have hm := h.many
  have hf := h.fl
  unfold impl_DoBill_k1
  rw [decide_eq_false (show ¬ op.Kind = 2 by omega), cond_false, decide_eq_true hk, cond_true, chk_dec h.hi, chk_dec h.hi, h.hx, ix_of hr.1 hr.2, chk_dec h.hi, chk_dec (by omega), bd_eq, h.own _ (by show (x.Held.set _ _).length ≤ 1000; rw [List.length_set]; omega) _ (by omega), Option.bind_some]
theorem k1_4 {n : Nat} {b : SBook} {i : Nat} {x : SBill} {op : SBillOp} {F : List Int} (h : Hyp n b i x op F) (hk : op.Kind = 4) : impl_DoBill_k1 n i op b.Bills b.Freed = some (⟨b.Bills.set i ⟨x.Id, x.Shipper, x.Order, x.Many, List.replicate x.Many.toNat (str [])⟩, F⟩, 0) := by
  have hm := h.many
  have hf := h.fl
  unfold impl_DoBill_k1
  rw [decide_eq_false (show ¬ op.Kind = 2 by omega), cond_false, decide_eq_false (show ¬ op.Kind = 3 by omega), cond_false, decide_eq_true hk, cond_true, chk_dec h.hi, h.hx, made_impl (str []) (by omega) h.hn, Option.bind_some, chk_dec h.hi, bd_eq, bd_eq, chk_dec (by rw [List.length_append]; simp; omega), h.sort hk, Option.bind_some, h.own _ (by show (List.replicate _ _).length ≤ 1000; rw [List.length_replicate]; omega) _ h.sl, Option.bind_some]
theorem k1_5 {n : Nat} {b : SBook} {i : Nat} {x : SBill} {op : SBillOp} {F : List Int} (h : Hyp n b i x op F) (hk : op.Kind = 5) : impl_DoBill_k1 n i op b.Bills b.Freed = some (⟨b.Bills.set i ⟨x.Id, x.Shipper, x.Order, op.Many, List.replicate op.Many.toNat op.Who⟩, b.Freed⟩, 0) := by
  have hm := h.om hk
  have hf := h.fl
  have hi2 : ∀ y, i < (b.Bills.set i y).length := fun y => by rw [List.length_set]; exact h.hi
  unfold impl_DoBill_k1
  rw [decide_eq_false (show ¬ op.Kind = 2 by omega), cond_false, decide_eq_false (show ¬ op.Kind = 3 by omega), cond_false, decide_eq_false (show ¬ op.Kind = 4 by omega), cond_false, decide_eq_true hk, cond_true, made_impl op.Who (by omega) h.hn, Option.bind_some, chk_dec h.hi, h.hx, bd_eq, bd_eq, chk_dec (hi2 _), bd_eq, bd_eq, getD_set h.hi, List.set_set, h.own _ (by show (List.replicate _ _).length ≤ 1000; rw [List.length_replicate]; omega) _ (by omega), Option.bind_some]
theorem do_impl {n : Nat} {b : SBook} {i : Nat} {x : SBill} {op : SBillOp} {F : List Int} (h : Hyp n b i x op F) : impl_DoBill_k4 n (i : Int) op b.Bills b.Freed b.Bills b.Freed = some ((doB x op).elim (b, 5) fun y => (⟨b.Bills.set i y, bif decide (op.Kind = 4) then F else b.Freed⟩, 0)) := by
  have hm := h.many
  have hh := h.held
  have hkk := h.kind
  have ew : w64 (x.Many - 1) = x.Many - 1 := w64_id (by omega) (by omega)
  unfold impl_DoBill_k4 doB
  rw [ix_nat h.hi, Int.toNat_natCast]
  by_cases h2 : op.Kind = 2
  · rw [decide_eq_false (show ¬ op.Kind = 3 by omega), decide_eq_false (show ¬ op.Kind = 4 by omega), Bool.not_false, cond_true, cond_true, decide_eq_true h2, cond_true, cond_false]
    unfold impl_DoBill_k2
    rw [decide_eq_true h2, cond_true, chk_dec h.hi, chk_dec h.hi, chk_dec h.hi, chk_dec h.hi, h.hx, strs_impl _ _ (by omega) h.hn, Option.bind_some, k1_2 h h2]
    have ec : decide (x.Order = op.Who) = decide (op.Who = x.Order) := by rw [decide_eq_decide]; exact eq_comm
    rw [ec]
    generalize decide (op.Who = x.Order) = a1
    generalize decide (x.Order = str []) = a2
    generalize decide (((cntW x.Held op.Who x.Held.length : Nat) : Int) = 0) = a3
    cases a1 <;> cases a2 <;> cases a3 <;> rfl
  rw [decide_eq_false h2, cond_false]
  by_cases h3 : op.Kind = 3
  · rw [decide_eq_true h3, decide_eq_false (show ¬ op.Kind = 4 by omega), Bool.not_true, cond_false, cond_true, cond_false, chk_dec h.hi, h.hx, bd_eq, in_impl, Option.bind_some]
    unfold impl_DoBill_k3 heldIs
    by_cases hr : 0 ≤ op.Number ∧ op.Number ≤ w64 (x.Many - 1)
    · have hr2 : 0 ≤ op.Number ∧ op.Number < (x.Held.length : Int) := by rw [ew] at hr; omega
      rw [decide_eq_true hr, cond_true, decide_eq_false h2, cond_false, decide_eq_true h3, cond_true, chk_dec h.hi, chk_dec h.hi, h.hx, ix_of hr2.1 hr2.2, chk_dec h.hi, chk_dec (by omega), k1_3 h h3 hr2, Bool.true_and]
      cases decide (x.Held.getD op.Number.toNat (str []) = op.Who) <;> rfl
    · rw [decide_eq_false hr]; rfl
  rw [decide_eq_false h3, cond_false, Bool.not_false, cond_true]
  by_cases h4 : op.Kind = 4
  · rw [decide_eq_true h4, Bool.not_true, cond_false, cond_true, cond_true, chk_dec h.hi, h.hx, bd_eq, in_impl, Option.bind_some]
    unfold impl_DoBill_k3 heldIs
    by_cases hr : 0 ≤ op.Number ∧ op.Number ≤ w64 (x.Many - 1)
    · have hr2 : 0 ≤ op.Number ∧ op.Number < (x.Held.length : Int) := by rw [ew] at hr; omega
      rw [decide_eq_true hr, cond_true, decide_eq_false h2, cond_false, decide_eq_false h3, cond_false, decide_eq_true h4, cond_true, chk_dec h.hi, chk_dec h.hi, h.hx, ix_of hr2.1 hr2.2, chk_dec h.hi, chk_dec (by omega), chk_dec h.hi, chk_dec h.hi, k1_4 h h4, Bool.true_and]
      generalize decide (x.Held.getD op.Number.toNat (str []) = op.Who) = a1
      generalize decide (x.Order = str []) = a2
      generalize decide (x.Order = op.Who) = a3
      cases a1 <;> cases a2 <;> cases a3 <;> rfl
    · rw [decide_eq_false hr]; rfl
  have h5 : op.Kind = 5 := by omega
  rw [decide_eq_false h4, Bool.not_false, cond_true, cond_false, cond_false]
  unfold impl_DoBill_k2
  rw [decide_eq_false h2, cond_false, decide_eq_false h3, cond_false, decide_eq_false h4, cond_false, decide_eq_true h5, cond_true, chk_dec h.hi, chk_dec h.hi, h.hx, others_impl _ _ (by omega) h.hn, Option.bind_some, k1_5 h h5]
  have ec : decide (cntW x.Held op.Who x.Held.length = x.Held.length) = decide (((cntW x.Held op.Who x.Held.length : Nat) : Int) = x.Many) := by rw [decide_eq_decide]; omega
  rw [ec]
  cases decide (((cntW x.Held op.Who x.Held.length : Nat) : Int) = x.Many) <;> rfl
end Go.Sm
end

section
set_option linter.unusedSimpArgs false
set_option linter.deprecated false
set_option linter.unusedSectionVars false
set_option linter.unusedVariables false
set_option linter.unusedSimpArgs false
namespace Go.Sm
attribute [local irreducible] bd chk ix loopN
theorem nameB_sz {s : ByteArray} (h : nameB s = true) : s.size ≤ 20 := by
  unfold nameB at h
  rw [Bool.and_eq_true, decide_eq_true_eq] at h
  omega
theorem emptyB_sz {s : ByteArray} (h : emptyB s = true) : s.size ≤ 20 := by
  unfold emptyB at h
  rw [Bool.or_eq_true, decide_eq_true_eq] at h
  rcases h with h | h
  · rw [h]; decide
  · exact nameB_sz h
theorem idR_impl (n : Nat) (x : Int) : impl_idRight n x = some (decide (1 ≤ x ∧ x ≤ 1000000)) := by
  unfold impl_idRight; rw [in_impl]; rfl
theorem entry_impl {n : Nat} (b : SBook) (op : SBillOp) (hz : BookSz b) (hw : op.Who.size ≤ 100000000) (ht : op.To.size ≤ 100000000) (hn : 1000000000 < n) : impl_DoBill n b op = bif bookB b && opB op then impl_DoBill_k5 n b op b.Bills b.Freed else some (b, 1) := by
  unfold impl_DoBill impl_DoBill_k8 impl_DoBill_k11 impl_DoBill_k6 impl_DoBill_k7 impl_DoBill_k9 impl_DoBill_k10 opB toB manyB
  rw [copy_impl b hz.bills hz.freed (fun k hk => (hz.each k hk).2.2.1) hn, Option.bind_some, book_impl b hz hn]
  simp only [in_impl, idR_impl, name_impl op.Who hw hn, name_impl op.To ht hn, empty_impl op.To ht hn, Option.bind_some]
  generalize bookB b = a0
  generalize decide (1 ≤ op.Id ∧ op.Id ≤ 1000000) = a1
  generalize nameB op.Who = a2
  generalize nameB op.To = a3
  generalize emptyB op.To = a4
  generalize decide (1 ≤ op.Many ∧ op.Many ≤ 5) = a5
  generalize hk5 : impl_DoBill_k5 n b op b.Bills b.Freed = z
  by_cases h1 : op.Kind = 1
  · rw [h1]; cases a0 <;> cases a1 <;> cases a2 <;> cases a4 <;> cases a5 <;> rfl
  by_cases h2 : op.Kind = 2
  · rw [h2]; cases a0 <;> cases a1 <;> cases a2 <;> cases a4 <;> rfl
  by_cases h3 : op.Kind = 3
  · rw [h3]; cases a0 <;> cases a1 <;> cases a2 <;> cases a3 <;> rfl
  by_cases h4 : op.Kind = 4
  · rw [h4]; cases a0 <;> cases a1 <;> cases a2 <;> rfl
  by_cases h5 : op.Kind = 5
  · rw [h5]; cases a0 <;> cases a1 <;> cases a2 <;> cases a5 <;> rfl
  rw [decide_eq_false h1, decide_eq_false h2, decide_eq_false h3, decide_eq_false h5, decide_eq_false (show ¬ (1 ≤ op.Kind ∧ op.Kind ≤ 5) by omega)]
  cases a0 <;> rfl
theorem entry_spec {n : Nat} (b : SBook) (op : SBillOp) (hz : BookSz b) (hw : op.Who.size ≤ 100000000) (ht : op.To.size ≤ 100000000) (hn : 1000000000 < n) : spec_DoBill n b op = bif bookB b && opB op then spec_DoBill_k3 n b op b.Bills b.Freed else some (b, 1) := by
  unfold spec_DoBill
  rw [copy_spec b hz hz.bills hz.freed (fun k hk => (hz.each k hk).2.2.1) hn, Option.bind_some, book_spec b hz hn, Option.bind_some, op_spec op hw ht hn, Option.bind_some]
  cases bookB b <;> cases opB op <;> rfl
structure BFacts (b : SBook) : Prop where
  len : b.Bills.length ≤ 30
  each : ∀ k, k < b.Bills.length → (1 ≤ (b.Bills.getD k dSBill).Id ∧ (b.Bills.getD k dSBill).Id ≤ 1000000) ∧ (1 ≤ (b.Bills.getD k dSBill).Many ∧ (b.Bills.getD k dSBill).Many ≤ 5) ∧ ((b.Bills.getD k dSBill).Held.length : Int) = (b.Bills.getD k dSBill).Many
  bills : b.Bills.Pairwise fun x y => x.Id < y.Id
  freed : b.Freed.Pairwise fun x y => x < y
theorem book_facts {b : SBook} (h : bookB b = true) : BFacts b := by
  unfold bookB at h
  rw [Bool.and_eq_true, Bool.and_eq_true, decide_eq_true_eq] at h
  obtain ⟨h1, h2, h3⟩ := h
  have hb : ∀ k, k < b.Bills.length → billOk b.Bills k = true := fun k hk => List.all_eq_true.1 h2 k (List.mem_range.2 hk)
  have hf : ∀ k, k < b.Freed.length → freedOk b k = true := fun k hk => List.all_eq_true.1 h3 k (List.mem_range.2 hk)
  refine ⟨h1, fun k hk => ?_, pw_strict (fun x : SBill => x.Id) (d := dSBill) fun k hk0 hk => ?_, pw_strict (fun x => x) (d := 0) fun k hk0 hk => ?_⟩
  · have := hb k hk
    unfold billOk billBase at this
    simp only [Bool.and_eq_true, decide_eq_true_eq] at this
    exact ⟨this.1, this.2.2.2.2.1, this.2.2.2.2.2.1⟩
  · have := hb k hk
    unfold billOk at this
    simp only [Bool.and_eq_true, Bool.or_eq_true, decide_eq_true_eq, Bool.not_eq_true', decide_eq_false_iff_not] at this
    have h0 := this.2.1
    show (b.Bills.getD (k - 1) dSBill).Id < (b.Bills.getD k dSBill).Id
    omega
  · have := hf k hk
    unfold freedOk at this
    simp only [Bool.and_eq_true, Bool.or_eq_true, decide_eq_true_eq, Bool.not_eq_true', decide_eq_false_iff_not] at this
    have h0 := this.2
    show b.Freed.getD (k - 1) 0 < b.Freed.getD k 0
    omega
theorem loop_bills {R : Type} {n : Nat} (kx : Int → Option R) (op : SBillOp) (c1 : List SBill) (c2 : List Int) (l : List SBill) (c4 : List Int) (hl : l.length ≤ 1000) (hn : 1000000000 < n) : loopN (fun (x : Int) J' => spec_DoBill_L9 n kx J' x op c1 c2 l c4) n ((0 : Nat) : Int) = ((List.range l.length).find? fun j => !decide ((l.getD j dSBill).Id < op.Id)).elim (kx (l.length : Int)) (fun k => kx (k : Int)) := by
  refine loop_findE (enc := fun k => ((k : Nat) : Int)) (fun k J hk _ => ?_) (fun J => ?_) (by omega)
  · have e : w64 ((k : Int) + 1) = ((k + 1 : Nat) : Int) := w64_succ (by omega)
    unfold spec_DoBill_L9
    rw [decide_eq_true (by omega), cond_true, ix_nat hk, Int.toNat_natCast, chk_dec hk, e]
    cases decide ((l.getD k dSBill).Id < op.Id) <;> rfl
  · unfold spec_DoBill_L9
    rw [decide_eq_false (by omega), cond_false]
theorem loop_freed {R : Type} {n : Nat} (kx : Int → Option R) (op : SBillOp) (c1 : List SBill) (c2 : List Int) (c3 : List SBill) (l : List Int) (hl : l.length ≤ 100000000) (hn : 1000000000 < n) : loopN (fun (x : Int) J' => spec_DoBill_L25 n kx J' x op c1 c2 c3 l) n ((0 : Nat) : Int) = ((List.range l.length).find? fun j => !decide (l.getD j 0 < op.Id)).elim (kx (l.length : Int)) (fun k => kx (k : Int)) := by
  refine loop_findE (enc := fun k => ((k : Nat) : Int)) (fun k J hk _ => ?_) (fun J => ?_) (by omega)
  · have e : w64 ((k : Int) + 1) = ((k + 1 : Nat) : Int) := w64_succ (by omega)
    unfold spec_DoBill_L25
    rw [decide_eq_true (by omega), cond_true, ix_nat hk, Int.toNat_natCast, chk_dec hk, e]
    cases decide (l.getD k 0 < op.Id) <;> rfl
  · unfold spec_DoBill_L25
    rw [decide_eq_false (by omega), cond_false]
theorem ins_eq {α : Type} (l : List α) (K : Nat) (x : α) : (l.drop 0).take (K - 0) ++ ([x] ++ (l.drop K).take (l.length - K)) = insAt l K x := by
  unfold insAt
  rw [List.drop_zero, Nat.sub_zero, List.take_of_length_le (l := l.drop K) (by rw [List.length_drop]; exact Nat.le_refl _)]
theorem insAt_len {α : Type} (l : List α) (K : Nat) (x : α) (hK : K ≤ l.length) : (insAt l K x).length = l.length + 1 := by
  unfold insAt
  rw [List.length_append, List.length_append, List.length_take, List.length_drop]
  simp only [List.length_singleton]; omega
end Go.Sm
end

section
set_option linter.unusedSimpArgs false
set_option linter.deprecated false
set_option linter.unusedSectionVars false
set_option linter.unusedVariables false
set_option linter.unusedSimpArgs false
namespace Go.Sm
attribute [local irreducible] bd chk ix loopN
theorem issue_both {n : Nat} {b : SBook} {op : SBillOp} (hf : BFacts b) (hid : 1 ≤ op.Id ∧ op.Id ≤ 1000000) (hmany : 1 ≤ op.Many ∧ op.Many ≤ 5) (hno : ∀ y ∈ b.Bills, y.Id ≠ op.Id) (hz : BookSz b) (hn : 1000000000 < n) :
    ∃ K, (K ≤ b.Bills.length ∧ (∀ j, j < K → (b.Bills.getD j dSBill).Id < op.Id) ∧ ∀ j, K ≤ j → j < b.Bills.length → op.Id < (b.Bills.getD j dSBill).Id) ∧ spec_DoBill_k0 n op b.Bills b.Freed = some (⟨insAt b.Bills K ⟨op.Id, op.Who, op.To, op.Many, List.replicate op.Many.toNat op.Who⟩, b.Freed⟩, 0) ∧ impl_DoBill_k0 n op b.Bills b.Freed = some (⟨insAt b.Bills K ⟨op.Id, op.Who, op.To, op.Many, List.replicate op.Many.toNat op.Who⟩, b.Freed⟩, 0) := by
  have hlen := hf.len
  obtain ⟨K, k1, k2, k3, k4⟩ := place (fun x : SBill => x.Id) (d := dSBill) hf.bills hno
  refine ⟨K, ⟨k1, k2, k3⟩, ?_, ?_⟩
  · unfold spec_DoBill_k0
    refine ((loop_bills _ op [] [] b.Bills b.Freed (by omega) hn).trans (k4 _)).trans ?_
    have hI := insAt_len b.Bills K (⟨op.Id, op.Who, op.To, op.Many, List.replicate op.Many.toNat op.Who⟩ : SBill) k1
    have h0 : ((b.Bills.drop 0).take (K - 0)).length ≤ 30 := by rw [List.length_take, List.length_drop]; omega
    have h1 : ((b.Bills.drop K).take (b.Bills.length - K)).length ≤ 30 := by rw [List.length_take, List.length_drop]; omega
    rw [made_spec op.Who (by omega) hn, Option.bind_some, chk_dec (by omega), chk_dec (by omega)]
    rw [Int.toNat_natCast, chk_dec (by omega), chk_dec (by rw [List.length_append]; simp only [List.length_singleton]; omega), chk_dec (by omega), chk_dec (by omega), chk_dec (by omega), chk_dec (by omega), chk_dec (by rw [ins_eq, hI]; omega), ins_eq]
  · unfold impl_DoBill_k0
    rw [made_impl op.Who (by omega) hn, Option.bind_some, bd_eq, chk_dec (by rw [List.length_append]; simp only [List.length_singleton]; omega)]
    rw [sortB_ins (n := n) (l := b.Bills) (z := ⟨op.Id, op.Who, op.To, op.Many, List.replicate op.Many.toNat op.Who⟩) (K := K) hf.bills (fun y hy => by
      rcases List.mem_append.1 hy with h | h
      · obtain ⟨u, hu, he⟩ := List.getElem_of_mem h
        have := (hf.each u hu).1
        rw [getD_eq hu, he] at this; exact this
      · rw [List.mem_singleton.1 h]; exact hid) hno k1 k2 k3 (by omega), Option.bind_some]
    have hI := insAt_len b.Bills K (⟨op.Id, op.Who, op.To, op.Many, List.replicate op.Many.toNat op.Who⟩ : SBill) k1
    have hcp : impl_Book_own n ⟨insAt b.Bills K ⟨op.Id, op.Who, op.To, op.Many, List.replicate op.Many.toNat op.Who⟩, b.Freed⟩ = some ⟨insAt b.Bills K ⟨op.Id, op.Who, op.To, op.Many, List.replicate op.Many.toNat op.Who⟩, b.Freed⟩ := by
      refine copy_impl _ (by show (insAt b.Bills K _).length ≤ _; omega) hz.freed (fun k hk => ?_) hn
      have hm := getD_mem (d := dSBill) hk
      have hm2 := insAt_mem.1 (show _ ∈ insAt b.Bills K _ from hm)
      rcases List.mem_append.1 hm2 with h | h
      · obtain ⟨u, hu, he⟩ := List.getElem_of_mem h
        have := (hz.each u hu).2.2.1
        rw [getD_eq hu, he] at this; exact this
      · rw [List.mem_singleton.1 h]
        show (List.replicate _ _).length ≤ _
        rw [List.length_replicate]; omega
    rw [hcp, Option.bind_some]
def PlaceL (l : List SBill) (K : Nat) (z : Int) : Prop := K ≤ l.length ∧ (∀ j, j < K → (l.getD j dSBill).Id < z) ∧ ∀ j, K ≤ j → j < l.length → z < (l.getD j dSBill).Id
def PlaceI (l : List Int) (K : Nat) (z : Int) : Prop := K ≤ l.length ∧ (∀ j, j < K → l.getD j 0 < z) ∧ ∀ j, K ≤ j → j < l.length → z < l.getD j 0
/-- What an op that is right comes to. -/
inductive Does (b : SBook) (op : SBillOp) : SBook × Int → Prop
  | same (c : Int) : c ≠ 0 → Does b op (b, c)
  | made (K : Nat) : op.Kind = 1 → (∀ y ∈ b.Bills, y.Id ≠ op.Id) → ¬ (b.Bills.length : Int) = 30 → PlaceL b.Bills K op.Id → Does b op (⟨insAt b.Bills K ⟨op.Id, op.Who, op.To, op.Many, List.replicate op.Many.toNat op.Who⟩, b.Freed⟩, 0)
  | done (i K : Nat) (y : SBill) : ¬ op.Kind = 1 → i < b.Bills.length → (b.Bills.getD i dSBill).Id = op.Id → (∀ z ∈ b.Freed, z ≠ op.Id) → PlaceI b.Freed K op.Id → doB (b.Bills.getD i dSBill) op = some y → Does b op (⟨b.Bills.set i y, bif decide (op.Kind = 4) then insAt b.Freed K op.Id else b.Freed⟩, 0)
theorem main_both {n : Nat} {b : SBook} {op : SBillOp} (hb : bookB b = true) (ho : opB op = true) (hz : BookSz b) (hfl : b.Freed.length ≤ 10000000) (hn : 1000000000 < n) : ∃ r, spec_DoBill_k3 n b op b.Bills b.Freed = some r ∧ impl_DoBill_k5 n b op b.Bills b.Freed = some r ∧ Does b op r := by
  have hf := book_facts hb
  have hlen := hf.len
  have hop := ho
  unfold opB manyB at hop
  simp only [Bool.and_eq_true, decide_eq_true_eq] at hop
  obtain ⟨o1, o2, o3, o4, o5⟩ := hop
  unfold spec_DoBill_k3 impl_DoBill_k5
  rw [copy_impl b hz.bills hz.freed (fun k hk => (hz.each k hk).2.2.1) hn, Option.bind_some, find_spec b op.Id hz.bills hn, at_impl b op.Id hz.bills hn, Option.bind_some, Option.bind_some, has_spec _ _ hz.freed hn, contains_impl _ _ hz.freed hn]
  by_cases h1 : op.Kind = 1
  · rw [decide_eq_true h1, cond_true, cond_true]
    rw [decide_eq_true h1, Bool.true_or, cond_true, decide_eq_true_eq] at o5
    rcases idxOf_spec (fun j => decide ((b.Bills.getD j dSBill).Id = op.Id)) b.Bills.length with ⟨i1, i2⟩ | ⟨i, i1, i2, i3, i4⟩
    · rw [i1, decide_eq_false (by omega), cond_false, cond_false]
      by_cases h30 : (b.Bills.length : Int) = 30
      · rw [decide_eq_true h30]; exact ⟨_, rfl, rfl, .same _ (by decide)⟩
      · rw [decide_eq_false h30, cond_false, cond_false]
        have hnn : ∀ y ∈ b.Bills, y.Id ≠ op.Id := fun y hy he => by
          obtain ⟨u, hu, hue⟩ := List.getElem_of_mem hy
          have := i2 u hu
          rw [getD_eq hu, hue, decide_eq_true he] at this; cases this
        obtain ⟨K, kp, k2, k3⟩ := issue_both (n := n) hf o2 o5 hnn hz hn
        exact ⟨_, k2, k3, .made K h1 hnn h30 kp⟩
    · rw [i1, decide_eq_true (by omega)]; exact ⟨_, rfl, rfl, .same _ (by decide)⟩
  rw [decide_eq_false h1, cond_false, cond_false]
  rcases idxOf_spec (fun j => decide ((b.Bills.getD j dSBill).Id = op.Id)) b.Bills.length with ⟨i1, i2⟩ | ⟨i, i1, i2, i3, i4⟩
  · rw [i1, decide_eq_true (by omega)]; exact ⟨_, rfl, rfl, .same _ (by decide)⟩
  rw [i1, decide_eq_false (by omega), cond_false, cond_false, Option.bind_some, Option.bind_some]
  cases hfr : (List.range b.Freed.length).any fun k => decide (b.Freed.getD k 0 = op.Id) with
  | true => exact ⟨_, rfl, rfl, .same _ (by decide)⟩
  | false =>
    rw [cond_false, cond_false]
    have hno : ∀ y ∈ b.Freed, y ≠ op.Id := fun y hy he => by
      obtain ⟨u, hu, hue⟩ := List.getElem_of_mem hy
      have := List.any_eq_false.1 hfr u (List.mem_range.2 hu)
      rw [getD_eq hu, hue] at this
      exact this (decide_eq_true he)
    obtain ⟨K, k1, k2, k3, k4⟩ := place (fun x : Int => x) (d := 0) hf.freed hno
    have hIl := insAt_len b.Freed K op.Id k1
    obtain ⟨e1, e2, e3⟩ := hf.each i i2
    have hx : Hyp n b i (b.Bills.getD i dSBill) op (insAt b.Freed K op.Id) := ⟨hn, i2, rfl, e2, e3, by omega, fun h5 => by
        rw [decide_eq_false h1, decide_eq_true h5, Bool.false_or, cond_true, decide_eq_true_eq] at o5; exact o5, by omega, fun k hk => by have := (hf.each k hk).2; omega, hfl, fun _ => by
        unfold slices_Sort_int_int sortIO
        rw [if_pos ⟨by rw [List.length_append]; simp, by rw [List.length_append]; simp; omega⟩, sortI_ins hf.freed hno k1 k2 k3], by omega⟩
    rw [do_impl hx]
    unfold spec_DoBill_k2
    rw [ix_nat i2, Int.toNat_natCast, chk_dec i2, bd_eq, chk_dec i2]
    rw [show (⟨(b.Bills.getD i dSBill).Id, (b.Bills.getD i dSBill).Shipper, (b.Bills.getD i dSBill).Order, (b.Bills.getD i dSBill).Many, (b.Bills.getD i dSBill).Held⟩ : SBill) = b.Bills.getD i dSBill from rfl, do_spec _ op e2 e3 hx.kind hx.om hn, Option.bind_some]
    cases hd : doB (b.Bills.getD i dSBill) op with
    | none =>
      refine ⟨(b, 5), ?_, rfl, .same _ (by decide)⟩
      show (spec_l14Copy n b).bind _ = _
      rw [copy_spec b hz hz.bills hz.freed (fun k hk => (hz.each k hk).2.2.1) hn]; rfl
    | some y =>
      refine ⟨(⟨b.Bills.set i y, bif decide (op.Kind = 4) then insAt b.Freed K op.Id else b.Freed⟩, 0), ?_, rfl, .done i K y h1 i2 (by have h3 : decide ((b.Bills.getD i dSBill).Id = op.Id) = true := i3; exact of_decide_eq_true h3) hno ⟨k1, k2, k3⟩ hd⟩
      show spec_DoBill_k1 n (i : Int) op i b.Bills b.Freed y.Id y.Shipper y.Order y.Many y.Held = _
      unfold spec_DoBill_k1
      rw [ix_nat i2, Int.toNat_natCast, chk_dec i2, chk_dec rfl, bd_eq]
      by_cases h4 : op.Kind = 4
      · rw [decide_eq_true h4, cond_true, cond_true]
        refine ((loop_freed _ op [] [] _ b.Freed hz.freed hn).trans (k4 _)).trans ?_
        have h0 : ((b.Freed.drop 0).take (K - 0)).length ≤ 10000000 := by rw [List.length_take, List.length_drop]; omega
        have hd1 : ((b.Freed.drop K).take (b.Freed.length - K)).length ≤ 10000000 := by rw [List.length_take, List.length_drop]; omega
        rw [chk_dec (by omega), chk_dec (by omega), Int.toNat_natCast, chk_dec (by omega), bd_eq, chk_dec (by rw [List.length_append]; simp only [List.length_singleton]; omega), chk_dec (by omega), chk_dec (by omega), chk_dec (by omega), bd_eq, chk_dec (by omega), chk_dec (by rw [ins_eq, hIl]; omega), ins_eq]
      · rw [decide_eq_false h4]; rfl
end Go.Sm
end

section
set_option linter.unusedSimpArgs false
set_option linter.deprecated false
set_option linter.unusedSectionVars false
set_option linter.unusedVariables false
set_option linter.unusedSimpArgs false
namespace Go.Sm
attribute [local irreducible] bd chk ix loopN
/-! ### A book that is right stays right -/
structure BookP (b : SBook) : Prop where
  len : b.Bills.length ≤ 30
  each : ∀ x ∈ b.Bills, (1 ≤ x.Id ∧ x.Id ≤ 1000000) ∧ billBase x = true
  bills : b.Bills.Pairwise fun x y => x.Id < y.Id
  has : ∀ q ∈ b.Freed, q ∈ b.Bills.map SBill.Id
  freed : b.Freed.Pairwise fun x y => x < y
theorem hasBill_iff (l : List SBill) (q : Int) : hasBill l l.length q = true ↔ q ∈ l.map SBill.Id := by
  unfold hasBill
  rw [List.any_eq_true]
  constructor
  · rintro ⟨j, hj, he⟩
    have hj := List.mem_range.1 hj
    exact List.mem_map.2 ⟨_, getD_mem (d := dSBill) hj, of_decide_eq_true he⟩
  · intro h
    obtain ⟨x, hx, he⟩ := List.mem_map.1 h
    obtain ⟨j, hj, hje⟩ := List.getElem_of_mem hx
    exact ⟨j, List.mem_range.2 hj, decide_eq_true (by rw [getD_eq hj, hje, he])⟩
theorem bookP_of {b : SBook} (h : bookB b = true) : BookP b := by
  have hf := book_facts h
  unfold bookB at h
  rw [Bool.and_eq_true, Bool.and_eq_true, decide_eq_true_eq] at h
  obtain ⟨h1, h2, h3⟩ := h
  refine ⟨h1, fun x hx => ?_, hf.bills, fun q hq => ?_, hf.freed⟩
  · obtain ⟨k, hk, he⟩ := List.getElem_of_mem hx
    have := List.all_eq_true.1 h2 k (List.mem_range.2 hk)
    unfold billOk at this
    rw [getD_eq hk, he] at this
    simp only [Bool.and_eq_true, decide_eq_true_eq] at this
    exact ⟨this.1, this.2.2⟩
  · obtain ⟨k, hk, he⟩ := List.getElem_of_mem hq
    have := List.all_eq_true.1 h3 k (List.mem_range.2 hk)
    unfold freedOk at this
    rw [getD_eq hk, he] at this
    rw [Bool.and_eq_true] at this
    exact (hasBill_iff _ _).1 this.1
theorem bookB_of {b : SBook} (h : BookP b) : bookB b = true := by
  unfold bookB
  rw [Bool.and_eq_true, Bool.and_eq_true, decide_eq_true_eq]
  refine ⟨h.len, List.all_eq_true.2 fun k hk => ?_, List.all_eq_true.2 fun k hk => ?_⟩
  · have hk := List.mem_range.1 hk
    obtain ⟨e1, e2⟩ := h.each _ (getD_mem (d := dSBill) hk)
    unfold billOk
    rw [e2, decide_eq_true e1, Bool.true_and, Bool.and_true]
    by_cases h0 : k = 0
    · rw [decide_eq_true h0, Bool.true_or]
    · have := pw_at (fun x : SBill => x.Id) (d := dSBill) h.bills (show k - 1 < k by omega) hk
      have this : (b.Bills.getD (k - 1) dSBill).Id < (b.Bills.getD k dSBill).Id := this
      rw [decide_eq_false (show ¬ (b.Bills.getD (k - 1) dSBill).Id ≥ (b.Bills.getD k dSBill).Id by omega), Bool.not_false, Bool.or_true]
  · have hk := List.mem_range.1 hk
    have hm := h.has _ (getD_mem (d := 0) hk)
    unfold freedOk
    rw [(hasBill_iff _ _).2 hm, Bool.true_and]
    by_cases h0 : k = 0
    · rw [decide_eq_true h0, Bool.true_or]
    · have := pw_at (fun x : Int => x) (d := 0) h.freed (show k - 1 < k by omega) hk
      have this : b.Freed.getD (k - 1) 0 < b.Freed.getD k 0 := this
      rw [decide_eq_false (show ¬ b.Freed.getD (k - 1) 0 ≥ b.Freed.getD k 0 by omega), Bool.not_false, Bool.or_true]
theorem heldAll_of {l : List ByteArray} (h : ∀ s ∈ l, emptyB s = true) : heldAll l = true := by
  unfold heldAll
  exact List.all_eq_true.2 fun k hk => h _ (getD_mem (d := str []) (List.mem_range.1 hk))
theorem heldAll_mem {l : List ByteArray} (h : heldAll l = true) : ∀ s ∈ l, emptyB s = true := fun s hs => by
  obtain ⟨k, hk, he⟩ := List.getElem_of_mem hs
  have := List.all_eq_true.1 h k (List.mem_range.2 hk)
  rw [getD_eq hk, he] at this
  exact this
theorem emptyB_name {s : ByteArray} (h : nameB s = true) : emptyB s = true := by unfold emptyB; rw [h, Bool.or_true]
theorem emptyB_nil : emptyB (str []) = true := by unfold emptyB; rw [decide_eq_true rfl, Bool.true_or]
/-- What an op that is right says. -/
structure OpP (op : SBillOp) : Prop where
  kind : 1 ≤ op.Kind ∧ op.Kind ≤ 5
  id : 1 ≤ op.Id ∧ op.Id ≤ 1000000
  who : nameB op.Who = true
  hand : op.Kind = 3 → nameB op.To = true
  to : op.Kind = 1 ∨ op.Kind = 2 → emptyB op.To = true
  many : op.Kind = 1 ∨ op.Kind = 5 → 1 ≤ op.Many ∧ op.Many ≤ 5
theorem opP_of {op : SBillOp} (h : opB op = true) : OpP op := by
  unfold opB toB manyB at h
  simp only [Bool.and_eq_true, decide_eq_true_eq] at h
  obtain ⟨o1, o2, o3, o4, o5⟩ := h
  refine ⟨o1, o2, o3, fun h3 => ?_, fun h12 => ?_, fun h15 => ?_⟩
  · rw [decide_eq_true h3, cond_true] at o4; exact o4
  · rw [decide_eq_false (show ¬ op.Kind = 3 by omega), cond_false] at o4
    rcases h12 with h | h
    · rw [decide_eq_true h, Bool.true_or, cond_true] at o4; exact o4
    · rw [decide_eq_true h, Bool.or_true, cond_true] at o4; exact o4
  · rcases h15 with h | h
    · rw [decide_eq_true h, Bool.true_or, cond_true, decide_eq_true_eq] at o5; exact o5
    · rw [decide_eq_true h, Bool.or_true, cond_true, decide_eq_true_eq] at o5; exact o5
theorem base_mk {x : SBill} (h1 : nameB x.Shipper = true) (h2 : emptyB x.Order = true) (h3 : 1 ≤ x.Many ∧ x.Many ≤ 5) (h4 : (x.Held.length : Int) = x.Many) (h5 : ∀ s ∈ x.Held, emptyB s = true) : billBase x = true := by
  unfold billBase
  rw [h1, h2, decide_eq_true h3, decide_eq_true h4, heldAll_of h5]; rfl
theorem base_un {x : SBill} (h : billBase x = true) : nameB x.Shipper = true ∧ emptyB x.Order = true ∧ (1 ≤ x.Many ∧ x.Many ≤ 5) ∧ (x.Held.length : Int) = x.Many ∧ ∀ s ∈ x.Held, emptyB s = true := by
  unfold billBase at h
  simp only [Bool.and_eq_true, decide_eq_true_eq] at h
  exact ⟨h.1, h.2.1, h.2.2.1, h.2.2.2.1, heldAll_mem h.2.2.2.2⟩
theorem rep_len {m : Int} {w : ByteArray} (h : 1 ≤ m ∧ m ≤ 5) : ((List.replicate m.toNat w).length : Int) = m := by
  rw [List.length_replicate]; omega
/-- What is done to a bill leaves one that is right; and what each op that is done says. -/
theorem do_base {x y : SBill} {op : SBillOp} (hd : doB x op = some y) (hx : billBase x = true) (ho : OpP op) (h1 : ¬ op.Kind = 1) : y.Id = x.Id ∧ billBase y = true ∧ (op.Kind = 2 → y.Order = op.To) ∧ (op.Kind = 4 → (0 ≤ op.Number ∧ op.Number < (x.Held.length : Int)) ∧ x.Held.getD op.Number.toNat (str []) = op.Who) := by
  obtain ⟨b1, b2, b3, b4, b5⟩ := base_un hx
  have ew : w64 (x.Many - 1) = x.Many - 1 := w64_id (by omega) (by omega)
  have hk := ho.kind
  unfold doB at hd
  by_cases h2 : op.Kind = 2
  · rw [decide_eq_true h2, cond_true] at hd
    generalize (decide (op.Who = x.Order) || _) = a at hd
    cases a with
    | false => cases hd
    | true => cases hd; exact ⟨rfl, base_mk b1 (ho.to (.inr h2)) b3 b4 b5, fun _ => rfl, fun h => absurd h (by omega)⟩
  rw [decide_eq_false h2, cond_false] at hd
  by_cases h3 : op.Kind = 3
  · rw [decide_eq_true h3, cond_true] at hd
    cases hh : heldIs x op with
    | false => rw [hh] at hd; cases hd
    | true =>
      rw [hh] at hd
      cases hd
      refine ⟨rfl, base_mk b1 b2 b3 (by show ((x.Held.set _ _).length : Int) = _; rw [List.length_set]; exact b4) (fun s hs => ?_), fun h => absurd h h2, fun h => absurd h (by omega)⟩
      have hs : s ∈ x.Held.set op.Number.toNat op.To := hs
      rcases List.mem_or_eq_of_mem_set hs with h | h
      · exact b5 s h
      · rw [h]; exact emptyB_name (ho.hand h3)
  rw [decide_eq_false h3, cond_false] at hd
  by_cases h4 : op.Kind = 4
  · rw [decide_eq_true h4, cond_true] at hd
    cases hh : heldIs x op with
    | false => rw [hh, Bool.false_and] at hd; cases hd
    | true =>
      rw [hh, Bool.true_and] at hd
      generalize (decide (x.Order = str []) || _) = a at hd
      cases a with
      | false => cases hd
      | true =>
        cases hd
        refine ⟨rfl, base_mk b1 b2 b3 (rep_len b3) (fun s hs => by rw [(List.mem_replicate.1 hs).2]; exact emptyB_nil), fun h => absurd h h2, fun _ => ?_⟩
        unfold heldIs at hh
        rw [Bool.and_eq_true, decide_eq_true_eq, decide_eq_true_eq, ew] at hh
        exact ⟨by omega, hh.2⟩
  rw [decide_eq_false h4, cond_false] at hd
  generalize decide (((cntW x.Held op.Who x.Held.length : Nat) : Int) = x.Many) = a at hd
  cases a with
  | false => cases hd
  | true =>
    cases hd
    have hm := ho.many (.inr (by omega))
    exact ⟨rfl, base_mk b1 b2 hm (rep_len hm) (fun s hs => by rw [(List.mem_replicate.1 hs).2]; exact emptyB_name ho.who), fun h => absurd h h2, fun h => absurd h h4⟩
theorem map_set_id {l : List SBill} {i : Nat} {y : SBill} (hi : i < l.length) (he : y.Id = (l.getD i dSBill).Id) : (l.set i y).map SBill.Id = l.map SBill.Id := by
  rw [List.map_set, he, getD_eq hi]
  apply List.ext_getElem
  · simp
  · intro j h1 h2
    rw [List.getElem_set]
    split
    · rename_i h; subst h; simp
    · rfl
theorem does_bookP {b : SBook} {op : SBillOp} {r : SBook × Int} (hb : BookP b) (ho : OpP op) (h : Does b op r) : BookP r.1 := by
  cases h with
  | same c hc => exact hb
  | made K h1 hno h30 hp =>
    have hll := hb.len
    have hl := insAt_len b.Bills K (⟨op.Id, op.Who, op.To, op.Many, List.replicate op.Many.toNat op.Who⟩ : SBill) hp.1
    have hm := ho.many (.inl h1)
    refine ⟨by show (insAt b.Bills K _).length ≤ 30; omega, fun x hx => ?_, insAt_sorted (fun x : SBill => x.Id) (d := dSBill) hb.bills hp.1 hp.2.1 hp.2.2, fun q hq => ?_, hb.freed⟩
    · rcases List.mem_append.1 (insAt_mem.1 hx) with h | h
      · exact hb.each x h
      · rw [List.mem_singleton.1 h]
        exact ⟨ho.id, base_mk ho.who (ho.to (.inl h1)) hm (rep_len hm) fun s hs => by rw [(List.mem_replicate.1 hs).2]; exact emptyB_name ho.who⟩
    · obtain ⟨x, hx, he⟩ := List.mem_map.1 (hb.has q hq)
      exact List.mem_map.2 ⟨x, insAt_mem.2 (List.mem_append_left _ hx), he⟩
  | done i K y h1 hi hid hno hp hd =>
    have hx := hb.each _ (getD_mem (d := dSBill) hi)
    obtain ⟨y1, y2, y3, y4⟩ := do_base hd hx.2 ho h1
    have hmap := map_set_id (y := y) hi y1
    refine ⟨by show (b.Bills.set i y).length ≤ 30; rw [List.length_set]; exact hb.len, fun x h => ?_, ?_, fun q hq => ?_, ?_⟩
    · rcases List.mem_or_eq_of_mem_set (show x ∈ b.Bills.set i y from h) with h | h
      · exact hb.each x h
      · rw [h, y1]; exact ⟨hx.1, y2⟩
    · have h2 : (b.Bills.map SBill.Id).Pairwise (· < ·) := List.pairwise_map.2 hb.bills
      show (b.Bills.set i y).Pairwise _
      exact List.pairwise_map.1 (by rw [hmap]; exact h2)
    · show q ∈ (b.Bills.set i y).map SBill.Id
      rw [hmap]
      have hq : q ∈ (bif decide (op.Kind = 4) then insAt b.Freed K op.Id else b.Freed) := hq
      cases hk : decide (op.Kind = 4) with
      | false => rw [hk] at hq; exact hb.has q hq
      | true =>
        rw [hk] at hq
        rcases List.mem_append.1 (insAt_mem.1 hq) with h | h
        · exact hb.has q h
        · rw [List.mem_singleton.1 h, ← hid]
          exact List.mem_map.2 ⟨_, getD_mem (d := dSBill) hi, rfl⟩
    · show (bif decide (op.Kind = 4) then insAt b.Freed K op.Id else b.Freed).Pairwise _
      cases decide (op.Kind = 4) with
      | false => exact hb.freed
      | true => exact insAt_sorted (fun x : Int => x) (d := 0) hb.freed hp.1 hp.2.1 hp.2.2
end Go.Sm
end

section
set_option linter.unusedSimpArgs false
set_option linter.deprecated false
set_option linter.unusedSectionVars false
set_option linter.unusedVariables false
set_option linter.unusedSimpArgs false
namespace Go.Sm
attribute [local irreducible] bd chk ix loopN
theorem nodup_len : ∀ (l m : List Int), l.Nodup → (∀ q ∈ l, q ∈ m) → l.length ≤ m.length
  | [], m, _, _ => Nat.zero_le _
  | a :: l, m, hn, hs => by
    have ha := hs a List.mem_cons_self
    have hn := List.nodup_cons.1 hn
    have h := nodup_len l (m.erase a) hn.2 fun q hq => (List.mem_erase_of_ne (fun e => hn.1 (by rw [← e]; exact hq))).2 (hs q (List.mem_cons_of_mem _ hq))
    rw [List.length_erase_of_mem ha] at h
    have := List.length_pos_of_mem ha
    rw [List.length_cons]
    omega
theorem lt_nodup {l : List Int} (h : l.Pairwise fun x y => x < y) : l.Nodup := h.imp fun {a b} h e => by omega
theorem sumOf_bdT {α : Type} {f : α → Nat} {B : Nat} : ∀ l : List α, (∀ x ∈ l, f x ≤ B) → sumOf f l ≤ B * l.length
  | [], _ => Nat.zero_le _
  | a :: l, h => by
    have e : sumOf f (a :: l) = f a + sumOf f l := rfl
    have h1 := h a List.mem_cons_self
    have h2 := sumOf_bdT l fun x hx => h x (List.mem_cons_of_mem _ hx)
    rw [e, List.length_cons, Nat.mul_succ]
    omega
theorem empty_sz {s : ByteArray} (h : emptyB s = true) : s.size ≤ 20 := emptyB_sz h
theorem base_w {x : SBill} (h : billBase x = true) : w_SBill x ≤ 145 := by
  obtain ⟨b1, b2, b3, b4, b5⟩ := base_un h
  have h1 := nameB_sz b1
  have h2 := emptyB_sz b2
  have h3 := sumOf_bdT (f := fun y : ByteArray => y.size) (B := 20) x.Held fun s hs => emptyB_sz (b5 s hs)
  show x.Shipper.size + x.Order.size + (x.Held.length + sumOf (fun y : ByteArray => y.size) x.Held) ≤ 145
  omega
theorem bookP_w {b : SBook} (h : BookP b) : w_SBook b ≤ 10000 := by
  have h1 := sumOf_bdT (f := fun y : SBill => w_SBill y) (B := 145) b.Bills fun x hx => base_w (h.each x hx).2
  have h2 := nodup_len _ _ (lt_nodup h.freed) h.has
  rw [List.length_map] at h2
  have hl := h.len
  show (b.Bills.length + sumOf (fun y => w_SBill y) b.Bills) + b.Freed.length ≤ 10000
  have h1 : sumOf (fun y => w_SBill y) b.Bills ≤ 145 * b.Bills.length := h1
  omega
/-- An op at a book that is right. -/
theorem title_do {n : Nat} {b : SBook} (op : SBillOp) (hb : BookP b) (ho : w_SBillOp op ≤ 1000) (hn : 1000000000 < n) : ∃ r, spec_DoBill n b op = some r ∧ impl_DoBill n b op = some r ∧ BookP r.1 ∧ Does b op r := by
  have hw := bookP_w hb
  have hz := bookSz b (by omega)
  have hwo : w_SBillOp op = op.Who.size + op.To.size := rfl
  have hwb : w_SBook b = (b.Bills.length + sumOf (fun y => w_SBill y) b.Bills) + b.Freed.length := rfl
  have hbb := bookB_of hb
  rw [entry_spec b op hz (by omega) (by omega) hn, entry_impl b op hz (by omega) (by omega) hn, hbb]
  cases hoo : opB op with
  | false => exact ⟨(b, 1), rfl, rfl, hb, .same 1 (by decide)⟩
  | true =>
    obtain ⟨r, r1, r2, r3⟩ := main_both (n := n) hbb hoo hz (by omega) hn
    exact ⟨r, r1, r2, does_bookP hb (opP_of hoo) r3, r3⟩
theorem does_op {n : Nat} {b : SBook} {op : SBillOp} (hb : BookP b) (ho : w_SBillOp op ≤ 1000) (hn : 1000000000 < n) {r : SBook × Int} (h : impl_DoBill n b op = some r) (h0 : r.2 = 0) : OpP op := by
  have hw := bookP_w hb
  have hz := bookSz b (by omega)
  have hwo : w_SBillOp op = op.Who.size + op.To.size := rfl
  rw [entry_impl b op hz (by omega) (by omega) hn, bookB_of hb] at h
  cases hoo : opB op with
  | false => rw [hoo] at h; cases h; exact absurd (show (1 : Int) = 0 from h0) (by decide)
  | true => exact opP_of hoo
theorem within_ok {n : Nat} (l : List Int) (x : Int) (hl : l.length ≤ 1000000) (hn : 1000000000 < n) : laws_within n l x = some (decide (x ∈ l)) := by
  unfold laws_within
  rw [loop_find (p := fun k => decide (l.getD k 0 = x)) (len := l.length) (yes := fun _ => some true) (no := some false) (by omega) (fun k J h _ => ?_) (fun J _ => ?_) (by omega)]
  · rcases find_range (fun k => decide (l.getD k 0 = x)) l.length with ⟨h1, h2⟩ | ⟨k, h1, h2, h3, h4⟩
    · rw [h1, decide_eq_false (fun hm => by
        obtain ⟨k, hk, he⟩ := List.getElem_of_mem hm
        have := h2 k hk
        rw [getD_eq hk, he, decide_eq_true rfl] at this; cases this)]
    · rw [h1, decide_eq_true (by
        have h3 : decide (l.getD k 0 = x) = true := h3
        rw [← of_decide_eq_true h3]; exact getD_mem h2)]
  · unfold laws_within_L2
    simp only [Int.ofNat_lt, h, decide_true, cond_true, ix_nat h, Int.toNat_natCast, w64_succ (show k < 9223372036854775807 by omega)]
  · unfold laws_within_L2
    simp only [Int.lt_irrefl, decide_false, cond_false]
theorem same_ok {n : Nat} (l : List Int) (hl : l.length ≤ 1000000) (hn : 1000000000 < n) : laws_sameInts n l l = some true := by
  unfold laws_sameInts
  rw [decide_eq_true rfl, Bool.not_true, cond_false]
  rw [loop_all (p := fun _ => true) (len := l.length) (yes := some true) (no := some false) (by omega) (fun k J h _ => ?_) (fun J _ => ?_) (by omega)]
  · rw [List.all_eq_true.2 fun _ _ => rfl]; rfl
  · unfold laws_sameInts_L4
    simp only [Int.ofNat_lt, h, decide_true, cond_true, ix_nat h, Bool.not_true, cond_false, w64_succ (show k < 9223372036854775807 by omega)]
  · unfold laws_sameInts_L4
    simp only [Int.lt_irrefl, decide_false, cond_false]
/-! ### Who holds an original -/
def heldIn (x : SBill) (op : SBillOp) (m : Nat) : Bool := decide (x.Id = op.Id) && (List.range m).any fun j => decide (x.Held.getD j (str []) = op.Who)
def heldBy (l : List SBill) (op : SBillOp) (m : Nat) : Bool := (List.range m).any fun k => heldIn (l.getD k dSBill) op (l.getD k dSBill).Held.length
theorem held_inner {R : Type} {n : Nat} (kx : Bool → Option R) (i : Nat) (k : Nat) (b : SBook) (ops : List SBillOp) (now : SBook) (c : List SBill) (d : List Int) (hi : i < ops.length) (hk : k < now.Bills.length) (hl : (now.Bills.getD k dSBill).Held.length ≤ 1000) (h0 : Bool) (hn : 1000000000 < n) :
    loopN (fun (x : Bool × Int) J' => laws_FnTitle_L24 n kx (fun held124 j125 => J' (held124, j125)) (i : Int) x.1 (k : Int) x.2 b ops now c d) n (h0, (0 : Int)) = kx (h0 || heldIn (now.Bills.getD k dSBill) (ops.getD i dSBillOp) (now.Bills.getD k dSBill).Held.length) := by
  by_cases hid : (now.Bills.getD k dSBill).Id = (ops.getD i dSBillOp).Id
  · refine loop_runS (S := Bool) (X := Bool × Int) (enc := fun j s => (s, j)) (len := (now.Bills.getD k dSBill).Held.length) (I := fun j s => s = (h0 || heldIn (now.Bills.getD k dSBill) (ops.getD i dSBillOp) j)) (Q := fun r => r = kx (h0 || heldIn (now.Bills.getD k dSBill) (ops.getD i dSBillOp) (now.Bills.getD k dSBill).Held.length)) (fun j s J hj hs => ?_) (fun s J hs => ?_) (n := n) (by omega) (s0 := h0) (by unfold heldIn; simp)
    · refine ⟨_, rfl, ?_⟩
      have e : (h0 || heldIn (now.Bills.getD k dSBill) (ops.getD i dSBillOp) (j + 1)) = (s || decide ((now.Bills.getD k dSBill).Held.getD j (str []) = (ops.getD i dSBillOp).Who)) := by
        rw [hs]
        unfold heldIn
        rw [any_range_succ, decide_eq_true hid, Bool.true_and, Bool.true_and, Bool.or_assoc]
      rw [e]
      show laws_FnTitle_L24 n kx _ (i : Int) s (k : Int) (j : Int) b ops now c d = _
      unfold laws_FnTitle_L24 laws_FnTitle_k0
      rw [ix_nat hk, ix_nat hk, Int.toNat_natCast, bd_eq, bd_eq, bd_eq, decide_eq_true (Int.ofNat_lt.2 hj), cond_true, ix_nat hi, Int.toNat_natCast, chk_dec hi, decide_eq_true hid, cond_true, w64_succ (show j < 9223372036854775807 by omega)]
      cases s with
      | true => rfl
      | false => rw [cond_false, ix_nat hk, ix_nat hj, ix_nat hi, chk_dec hi, Int.toNat_natCast]; rfl
    · show laws_FnTitle_L24 n kx _ (i : Int) s (k : Int) _ b ops now c d = _
      unfold laws_FnTitle_L24
      rw [ix_nat hk, Int.toNat_natCast, bd_eq, decide_eq_false (Int.lt_irrefl _), cond_false, hs]
  · obtain ⟨m, rfl⟩ : ∃ m, n = m + 1 := ⟨n - 1, by omega⟩
    rw [loopN_succ]
    have e : (h0 || heldIn (now.Bills.getD k dSBill) (ops.getD i dSBillOp) (now.Bills.getD k dSBill).Held.length) = h0 := by
      unfold heldIn; rw [decide_eq_false hid, Bool.false_and, Bool.or_false]
    rw [e]
    unfold laws_FnTitle_L24
    rw [ix_nat hk, ix_nat hk, Int.toNat_natCast, bd_eq, bd_eq]
    cases decide ((0 : Int) < ((now.Bills.getD k dSBill).Held.length : Int)) with
    | false => rfl
    | true => rw [cond_true, ix_nat hi, Int.toNat_natCast, chk_dec hi, decide_eq_false hid, cond_false]
theorem held_ok {R : Type} {n : Nat} (kx : Bool → Option R) (i : Nat) (b : SBook) (ops : List SBillOp) (now : SBook) (c : List SBill) (d : List Int) (hi : i < ops.length) (hl : now.Bills.length ≤ 1000) (hh : ∀ k, k < now.Bills.length → (now.Bills.getD k dSBill).Held.length ≤ 1000) (hn : 1000000000 < n) :
    loopN (fun (x : Bool × Int) J' => laws_FnTitle_L21 n kx (fun held206 k207 => J' (held206, k207)) (i : Int) x.1 x.2 b ops now c d) n (false, (0 : Int)) = kx (heldBy now.Bills (ops.getD i dSBillOp) now.Bills.length) := by
  refine loop_runS (S := Bool) (X := Bool × Int) (enc := fun j s => (s, j)) (len := now.Bills.length) (I := fun j s => s = heldBy now.Bills (ops.getD i dSBillOp) j) (Q := fun r => r = kx (heldBy now.Bills (ops.getD i dSBillOp) now.Bills.length)) (fun k s J hk hs => ?_) (fun s J hs => ?_) (n := n) (by omega) (s0 := false) rfl
  · refine ⟨_, rfl, ?_⟩
    have e : heldBy now.Bills (ops.getD i dSBillOp) (k + 1) = (s || heldIn (now.Bills.getD k dSBill) (ops.getD i dSBillOp) (now.Bills.getD k dSBill).Held.length) := by
      rw [hs]; unfold heldBy; rw [any_range_succ]
    rw [e]
    show laws_FnTitle_L21 n kx _ (i : Int) s (k : Int) b ops now c d = _
    unfold laws_FnTitle_L21
    rw [decide_eq_true (Int.ofNat_lt.2 hk), cond_true, held_inner _ i k b ops now c d hi hk (hh k hk) s hn, w64_succ (show k < 9223372036854775807 by omega)]
  · show laws_FnTitle_L21 n kx _ (i : Int) s _ b ops now c d = _
    unfold laws_FnTitle_L21
    rw [decide_eq_false (Int.lt_irrefl _), cond_false, hs]
end Go.Sm
end

section
set_option linter.unusedSimpArgs false
set_option linter.deprecated false
set_option linter.unusedSectionVars false
set_option linter.unusedVariables false
set_option linter.unusedSimpArgs false
namespace Go.Sm
attribute [local irreducible] bd chk ix loopN
/-! ### One op along the way -/
theorem isFreed_eq (b : SBook) (id : Int) : isFreed b id = decide (id ∈ b.Freed) := by
  unfold isFreed
  by_cases h : id ∈ b.Freed
  · rw [decide_eq_true h]
    obtain ⟨k, hk, he⟩ := List.getElem_of_mem h
    exact any_range_of hk (by rw [getD_eq hk, he]; exact decide_eq_true rfl)
  · rw [decide_eq_false h, List.any_eq_false]
    intro k hk
    have hk := List.mem_range.1 hk
    simp only [decide_eq_true_eq]
    intro he
    exact h (he ▸ getD_mem hk)
theorem title_freed {b : SBook} {id : Int} (h : id ∈ b.Freed) : titleR b id = (str [], false) := by
  unfold titleR
  rw [isFreed_eq, decide_eq_true h, Bool.not_true, Bool.and_false, Bool.and_false, cond_false]
theorem title_order {b : SBook} (hb : BookP b) {i : Nat} (hi : i < b.Bills.length) (hf : (b.Bills.getD i dSBill).Id ∉ b.Freed) (ho : (b.Bills.getD i dSBill).Order ≠ str []) : titleR b (b.Bills.getD i dSBill).Id = ((b.Bills.getD i dSBill).Order, true) := by
  unfold titleR
  rw [isFreed_eq, decide_eq_false hf, bookB_of hb, (hasBill_iff _ _).2 (List.mem_map.2 ⟨_, getD_mem (d := dSBill) hi, rfl⟩)]
  rcases idxOf_spec (fun j => decide ((b.Bills.getD j dSBill).Id = (b.Bills.getD i dSBill).Id)) b.Bills.length with ⟨i1, i2⟩ | ⟨k, i1, i2, i3, i4⟩
  · have := i2 i hi
    rw [decide_eq_true rfl] at this
    cases this
  · have hk : k = i := by
      have i3 : decide ((b.Bills.getD k dSBill).Id = (b.Bills.getD i dSBill).Id) = true := i3
      have i3 := of_decide_eq_true i3
      rcases Nat.lt_trichotomy k i with h | h | h
      · have := pw_at (fun x : SBill => x.Id) (d := dSBill) hb.bills h hi
        have this : (b.Bills.getD k dSBill).Id < (b.Bills.getD i dSBill).Id := this
        omega
      · exact h
      · have := pw_at (fun x : SBill => x.Id) (d := dSBill) hb.bills h i2
        have this : (b.Bills.getD i dSBill).Id < (b.Bills.getD k dSBill).Id := this
        omega
    rw [i1, Int.toNat_natCast, hk]
    show titleAt (b.Bills.getD i dSBill) = _
    unfold titleAt
    rw [decide_eq_false ho, Bool.not_false, cond_true]
theorem getD_set_self {l : List SBill} {i : Nat} {y : SBill} (h : i < l.length) : (l.set i y).getD i dSBill = y := by
  rw [getD_eq (by rw [List.length_set]; exact h)]; simp
theorem held_hit {b : SBook} {i : Nat} {op : SBillOp} (hi : i < b.Bills.length) (hid : (b.Bills.getD i dSBill).Id = op.Id) (hn : 0 ≤ op.Number ∧ op.Number < ((b.Bills.getD i dSBill).Held.length : Int)) (hw : (b.Bills.getD i dSBill).Held.getD op.Number.toNat (str []) = op.Who) : heldBy b.Bills op b.Bills.length = true := by
  unfold heldBy
  refine any_range_of hi ?_
  unfold heldIn
  rw [decide_eq_true hid, Bool.true_and]
  exact any_range_of (k := op.Number.toNat) (by omega) (decide_eq_true hw)
theorem bookP_small {b : SBook} (h : BookP b) : b.Bills.length ≤ 30 ∧ b.Freed.length ≤ 30 ∧ ∀ k, k < b.Bills.length → (b.Bills.getD k dSBill).Held.length ≤ 1000 := by
  have h2 := nodup_len _ _ (lt_nodup h.freed) h.has
  rw [List.length_map] at h2
  have hl := h.len
  refine ⟨hl, by omega, fun k hk => ?_⟩
  obtain ⟨b1, b2, b3, b4, b5⟩ := base_un (h.each _ (getD_mem (d := dSBill) hk)).2
  omega
theorem title_step {R : Type} {n : Nat} (kx0 : SBook → Option R) (kxr : Bool → Option R) (J : Int → SBook → Option R) (i : Nat) (b : SBook) (ops : List SBillOp) (now : SBook) (hi : i < ops.length) (hil : ops.length ≤ 1000) (hb : BookP now) (ho : w_SBillOp (ops.getD i dSBillOp) ≤ 1000) (hn : 1000000000 < n) :
    ∃ r, impl_DoBill n now (ops.getD i dSBillOp) = some r ∧ BookP r.1 ∧ laws_FnTitle_L6 n kx0 kxr J (i : Int) b ops now = J ((i + 1 : Nat) : Int) r.1 := by
  obtain ⟨r, r1, r2, r3, r4⟩ := title_do (n := n) (ops.getD i dSBillOp) hb ho hn
  refine ⟨r, r2, r3, ?_⟩
  obtain ⟨q1, q2, q3⟩ := bookP_small hb
  obtain ⟨p1, p2, p3⟩ := bookP_small r3
  have hzr := bookSz r.1 (by have := bookP_w r3; omega)
  have ebk : impl_BookOk n r.1 = some true := by rw [book_impl r.1 hzr hn, bookB_of r3]
  have hop0 : r.2 = 0 → OpP (ops.getD i dSBillOp) := fun h0 => does_op hb ho hn r2 h0
  generalize hd : ops.getD i dSBillOp = op at *
  have hix : ∀ {X : Type} (x : Option X), ix (i : Int) ops.length (chk (decide (i < ops.length)) x) = x := fun x => by
    rw [ix_nat hi, chk_dec hi]
  have htl : ∀ id, impl_TitleOf n (⟨r.1.Bills, r.1.Freed⟩ : SBook) id = some (titleR r.1 id) := fun id => title_impl r.1 id hzr hn
  have ew : w64 ((i : Int) + 1) = ((i + 1 : Nat) : Int) := w64_succ (by omega)
  have e1 : (⟨r.1.Bills, r.1.Freed⟩ : SBook) = r.1 := rfl
  unfold laws_FnTitle_L6 laws_FnTitle_k8
  rw [decide_eq_true (Int.ofNat_lt.2 hi), cond_true]
  simp only [hix, Int.toNat_natCast, hd, bd_eq, r1, r2, Option.bind_some, ebk, beq_self_eq_true, Bool.not_true, cond_false]
  have hfl : now.Freed.length ≤ r.1.Freed.length := by
    cases r4 with
    | same c hc => exact Nat.le_refl _
    | made K h1 hno h30 hp => exact Nat.le_refl _
    | done j K y h1 hj hid hno hp hdo =>
      show now.Freed.length ≤ (bif decide (op.Kind = 4) then insAt now.Freed K op.Id else now.Freed).length
      cases decide (op.Kind = 4) with
      | false => exact Nat.le_refl _
      | true => rw [cond_true, insAt_len _ _ _ hp.1]; omega
  rw [decide_eq_false (show ¬ (r.1.Freed.length : Int) < (now.Freed.length : Int) by omega), cond_false]
  unfold laws_FnTitle_k7
  by_cases h0 : r.2 = 0
  · have hop := hop0 h0
    rw [decide_eq_true h0, Bool.not_true, cond_false]
    unfold laws_FnTitle_k6 laws_FnTitle_k5
    simp only [hix, Int.toNat_natCast, hd]
    by_cases k4 : op.Kind = 4
    · -- goods are handed over
      rw [decide_eq_true k4, cond_true]
      cases r4 with
      | same c hc => exact absurd h0 hc
      | made K h1 hno h30 hp => exact absurd h1 (by omega)
      | done j K y h1 hj hid hno hp hdo =>
        have hx := hb.each _ (getD_mem (d := dSBill) hj)
        obtain ⟨y1, y2, y3, y4⟩ := do_base hdo hx.2 hop h1
        obtain ⟨g1, g2⟩ := y4 k4
        generalize hG : (bif decide (op.Kind = 4) then insAt now.Freed K op.Id else now.Freed) = F at *
        have hG : F = insAt now.Freed K op.Id := by rw [← hG, decide_eq_true k4, cond_true]
        subst hG
        dsimp only at *
        have hin : op.Id ∈ insAt now.Freed K op.Id := insAt_mem.2 (List.mem_append_right _ (List.mem_singleton.2 rfl))
        rw [within_ok now.Freed op.Id (by omega) hn, Option.bind_some, decide_eq_false (fun h => hno _ h rfl), cond_false]
        rw [within_ok _ op.Id (by omega) hn, Option.bind_some, decide_eq_true hin, Bool.not_true, cond_false]
        have hln := insAt_len now.Freed K op.Id hp.1
        rw [w64_id (by omega) (by omega), bd_eq, decide_eq_true (show ((insAt now.Freed K op.Id).length : Int) = (now.Freed.length : Int) + 1 by omega), Bool.not_true, cond_false]
        unfold laws_FnTitle_k3
        rw [held_ok _ i b ops now _ _ hi (by omega) q3 hn, hd, held_hit hj hid g1 g2]
        simp only [hix, Int.toNat_natCast, hd]
        rw [htl, Option.bind_some, title_freed hin]
        simp only [Bool.not_true, cond_false, decide_true]
        unfold laws_FnTitle_k2
        simp only [hix, Int.toNat_natCast, hd]
        rw [decide_eq_false (show ¬ op.Kind = 2 by omega), cond_false, ew]
    · rw [decide_eq_false k4, cond_false]
      by_cases k2 : op.Kind = 2
      · rw [decide_eq_true k2, cond_true]
        unfold laws_FnTitle_k4
        by_cases ht : op.To = str []
        · rw [decide_eq_true ht, Bool.not_true, cond_false, ew]
        · rw [decide_eq_false ht, Bool.not_false, cond_true]
          cases r4 with
          | same c hc => exact absurd h0 hc
          | made K h1 hno h30 hp => exact absurd h1 (by omega)
          | done j K y h1 hj hid hno hp hdo =>
            have hx := hb.each _ (getD_mem (d := dSBill) hj)
            obtain ⟨y1, y2, y3, y4⟩ := do_base hdo hx.2 hop h1
            generalize hG : (bif decide (op.Kind = 4) then insAt now.Freed K op.Id else now.Freed) = F at *
            have hG : F = now.Freed := by rw [← hG, decide_eq_false k4, cond_false]
            subst hG
            dsimp only at *
            have hy := getD_set_self (y := y) hj
            have ht1 := title_order r3 (i := j) (by show j < (now.Bills.set j y).length; rw [List.length_set]; exact hj) (by
              show ((now.Bills.set j y).getD j dSBill).Id ∉ now.Freed
              rw [hy, y1, hid]; exact fun h => hno _ h rfl) (by
              show ((now.Bills.set j y).getD j dSBill).Order ≠ str []
              rw [hy, y3 k2]; exact ht)
            have ht1 : titleR ⟨now.Bills.set j y, now.Freed⟩ ((now.Bills.set j y).getD j dSBill).Id = (((now.Bills.set j y).getD j dSBill).Order, true) := ht1
            rw [hy, y1, hid, y3 k2] at ht1
            simp only [hix, Int.toNat_natCast, hd]
            rw [htl, Option.bind_some, ht1]
            simp only [Bool.not_true, cond_false, decide_true, ew]
      · rw [decide_eq_false k2, cond_false, ew]
  · rw [decide_eq_false h0, Bool.not_false, cond_true]
    have hs : r.1 = now := by
      cases r4 with
      | same c hc => rfl
      | made K h1 hno h30 hp => exact absurd rfl h0
      | done j K y h1 hj hid hno hp hdo => exact absurd rfl h0
    rw [hs, decide_eq_true rfl, Bool.not_true, cond_false, same_ok now.Freed (by omega) hn, Option.bind_some, Bool.not_true, cond_false, ew]
end Go.Sm
end

section
set_option linter.unusedSimpArgs false
set_option linter.deprecated false
set_option linter.unusedSectionVars false
set_option linter.unusedVariables false
set_option linter.unusedSimpArgs false
namespace Go.Sm
attribute [local irreducible] bd chk ix loopN
theorem onceB_ok {n : Nat} {c : Sl1Cur} (h : CurOk c) {m : Int} (hm : 1 ≤ m ∧ m ≤ 256) : ∃ v c', spec_l1Once n c m = some (v, c') ∧ CurOk c' := by
  obtain ⟨v, c', h1, h2, h3⟩ := below_ok (n := n) h hm
  unfold spec_l1Once
  rw [h1, Option.bind_some]
  exact ⟨_, _, rfl, h3⟩
theorem pickB_ok {n : Nat} {c : Sl1Cur} (h : CurOk c) {l : List ByteArray} (hl : 1 ≤ l.length ∧ l.length ≤ 256) : ∃ v c', spec_l1Pick n c l = some (v, c') ∧ v ∈ l ∧ CurOk c' := by
  obtain ⟨v, c', h1, h2, h3⟩ := below_ok (n := n) h (m := (l.length : Int)) (by omega)
  unfold spec_l1Pick
  rw [h1, Option.bind_some, ix_of h2.1 h2.2]
  exact ⟨_, _, rfl, getD_mem (by omega), h3⟩
theorem pickIntB_ok {n : Nat} {c : Sl1Cur} (h : CurOk c) {l : List Int} (hl : 1 ≤ l.length ∧ l.length ≤ 256) : ∃ v c', spec_l1PickInt n c l = some (v, c') ∧ CurOk c' := by
  obtain ⟨v, c', h1, h2, h3⟩ := below_ok (n := n) h (m := (l.length : Int)) (by omega)
  unfold spec_l1PickInt
  rw [h1, Option.bind_some, ix_of h2.1 h2.2]
  exact ⟨_, _, rfl, h3⟩
theorem bstr_size (l : List Int) : (bstr l).size = l.length := by
  show (List.map _ l).toArray.size = _
  simp
theorem strb_length (s : ByteArray) : (strb s).length = s.size := by
  unfold strb
  rw [List.length_map]
  rfl
/-! ### The draws -/
theorem pickS_ok {n : Nat} {c : Sl1Cur} (h : CurOk c) {l : List ByteArray} (hl : 1 ≤ l.length ∧ l.length ≤ 256) (hs : ∀ s ∈ l, s.size ≤ 100) : ∃ v c', spec_l1Pick n c l = some (v, c') ∧ v.size ≤ 100 ∧ CurOk c' := by
  obtain ⟨v, c', h1, h2, h3⟩ := pickB_ok (n := n) h hl
  exact ⟨v, c', h1, hs v h2, h3⟩
theorem sz_who : ∀ s ∈ [str [97, 110, 110], str [98, 111, 98], str [99, 121, 100], str [100, 111, 116]], s.size ≤ 100 := by
  intro s h
  simp only [List.mem_cons, List.not_mem_nil, or_false] at h
  rcases h with rfl | rfl | rfl | rfl <;> decide +kernel
theorem sz_w2 : ∀ s ∈ [str [], str [97, 32, 98], str [97, 98, 99, 100, 101, 102, 103, 104, 105, 106, 107, 108, 109, 110, 111, 112, 113, 114, 115, 116, 117]], s.size ≤ 100 := by
  intro s h
  simp only [List.mem_cons, List.not_mem_nil, or_false] at h
  rcases h with rfl | rfl | rfl <;> decide +kernel
theorem sz_w3 : ∀ s ∈ [str [], str [97, 95, 98], str [97, 98, 99, 100, 101, 102, 103, 104, 105, 106, 107, 108, 109, 110, 111, 112, 113, 114, 115, 116]], s.size ≤ 100 := by
  intro s h
  simp only [List.mem_cons, List.not_mem_nil, or_false] at h
  rcases h with rfl | rfl | rfl <;> decide +kernel
theorem sz_nil : (str []).size ≤ 100 := by decide +kernel
theorem who_ok {n : Nat} {c : Sl1Cur} (h : CurOk c) : ∃ v c', spec_l14Who n c = some (v, c') ∧ v.size ≤ 100 ∧ CurOk c' := by
  unfold spec_l14Who
  obtain ⟨v, c', h1, h2, h3⟩ := pickS_ok (n := n) h (l := [str [97, 110, 110], str [98, 111, 98], str [99, 121, 100], str [100, 111, 116]]) (by decide) sz_who
  rw [h1]
  exact ⟨v, c', rfl, h2, h3⟩
def OpDrawn (r : Option (SBillOp × Sl1Cur)) : Prop := ∃ op c', r = some (op, c') ∧ w_SBillOp op ≤ 1000 ∧ CurOk c'
theorem opD_mk {k i nu m : Int} {w t : ByteArray} {c : Sl1Cur} (hw : w.size ≤ 100) (ht : t.size ≤ 100) (hc : CurOk c) : OpDrawn (some ((⟨k, i, w, t, nu, m⟩ : SBillOp), c)) :=
  ⟨_, _, rfl, by show w.size + t.size ≤ 1000; omega, hc⟩
theorem opk1_ok {n : Nat} {c : Sl1Cur} (h : CurOk c) {w t : ByteArray} (hw : w.size ≤ 100) (ht : t.size ≤ 100) (a b d e : Int) : OpDrawn (spec_l14DrawOp_k1 n c a b w t d e) := by
  unfold spec_l14DrawOp_k1
  obtain ⟨v, c1, h1, h2, h3⟩ := below_ok (n := n) h (m := 40) (by omega)
  rw [h1, Option.bind_some]
  dsimp only
  cases decide (v = 0) with
  | true =>
    obtain ⟨u, c2, g1, g2⟩ := pickIntB_ok (n := n) h3 (l := [0, 6]) (by decide)
    rw [cond_true, g1]; exact opD_mk hw ht g2
  | false =>
  rw [cond_false]
  cases decide (v = 1) with
  | true =>
    obtain ⟨u, c2, g1, g2⟩ := pickIntB_ok (n := n) h3 (l := [0, 1000000, 1000001]) (by decide)
    rw [cond_true, g1]; exact opD_mk hw ht g2
  | false =>
  rw [cond_false]
  cases decide (v = 2) with
  | true =>
    obtain ⟨u, c2, g1, g2, g3⟩ := pickS_ok (n := n) h3 (by decide) sz_w2
    rw [cond_true, g1]; exact opD_mk g2 ht g3
  | false =>
  rw [cond_false]
  cases decide (v = 3) with
  | true =>
    obtain ⟨u, c2, g1, g2, g3⟩ := pickS_ok (n := n) h3 (by decide) sz_w3
    rw [cond_true, g1]; exact opD_mk hw g2 g3
  | false =>
  rw [cond_false]
  cases decide (v = 4) with
  | true =>
    obtain ⟨u, c2, g1, g2⟩ := pickIntB_ok (n := n) h3 (l := [0, 5, 6]) (by decide)
    rw [cond_true, g1]; exact opD_mk hw ht g2
  | false =>
  rw [cond_false]
  cases decide (v = 5) with
  | true =>
    obtain ⟨u, c2, g1, g2⟩ := pickIntB_ok (n := n) h3 (l := [-1, 5]) (by decide)
    rw [cond_true, g1]; exact opD_mk hw ht g2
  | false => exact opD_mk hw ht h3
theorem opk0_eq (n : Nat) (c : Sl1Cur) (a b : Int) (w : ByteArray) (d e : Int) : spec_l14DrawOp_k0 n c a b w d e = spec_l14DrawOp_k1 n c a b w (str []) d e := rfl
theorem drawOp_ok {n : Nat} {c : Sl1Cur} (h : CurOk c) : OpDrawn (spec_l14DrawOp n c) := by
  unfold spec_l14DrawOp
  obtain ⟨v1, c1, a1, _, b1⟩ := below_ok (n := n) h (m := 5) (by omega)
  obtain ⟨v2, c2, a2, _, b2⟩ := below_ok (n := n) b1 (m := 5) (by omega)
  obtain ⟨v3, c3, a3, s3, b3⟩ := who_ok (n := n) b2
  obtain ⟨v4, c4, a4, s4, b4⟩ := who_ok (n := n) b3
  obtain ⟨v5, c5, a5, _, b5⟩ := below_ok (n := n) b4 (m := 3) (by omega)
  obtain ⟨v6, c6, a6, _, b6⟩ := below_ok (n := n) b5 (m := 3) (by omega)
  obtain ⟨v7, c7, a7, b7⟩ := onceB_ok (n := n) b6 (m := 5) (by omega)
  rw [a1, Option.bind_some]; dsimp only
  rw [a2, Option.bind_some]; dsimp only
  rw [a3, Option.bind_some]; dsimp only
  rw [a4, Option.bind_some]; dsimp only
  rw [a5, Option.bind_some]; dsimp only
  rw [a6, Option.bind_some]; dsimp only
  rw [a7, Option.bind_some]; dsimp only
  cases v7 with
  | true =>
    rw [cond_true]
    cases decide (w64 (1 + v1) ≤ 2) with
    | true => rw [cond_true, opk0_eq]; exact opk1_ok b7 s3 sz_nil _ _ _ _
    | false => rw [cond_false]; exact opk1_ok b7 s3 s4 _ _ _ _
  | false => rw [cond_false]; exact opk1_ok b7 s3 s4 _ _ _ _
theorem bookP_nil : BookP ⟨[], []⟩ := ⟨by decide, fun x h => (by cases h), .nil, fun q h => (by cases h), .nil⟩
theorem drawB_good {n : Nat} {c : Sl1Cur} (h : CurOk c) (hn : 1000000000 < n) : ∃ b c', spec_l14Draw n c = some (b, c') ∧ BookP b ∧ CurOk c' := by
  unfold spec_l14Draw
  obtain ⟨v, c1, a1, a2, b1⟩ := below_ok (n := n) h (m := 10) (by omega)
  rw [a1, Option.bind_some]; dsimp only
  refine loopN_ind (fun x : Int × Sl1Cur × List SBill × List Int => x.1.toNat) (fun x => (0 ≤ x.1 ∧ x.1 ≤ 10) ∧ CurOk x.2.1 ∧ BookP ⟨x.2.2.1, x.2.2.2⟩) (fun x r => ∃ b c', r = some (b, c') ∧ BookP b ∧ CurOk c') ?_ n _ ⟨⟨a2.1, by omega⟩, b1, bookP_nil⟩ (by show v.toNat < n; omega)
  rintro ⟨i, p, c6, c7⟩ J ⟨hi, hp, hb⟩ ih
  dsimp only at *
  unfold spec_l14Draw_L3
  by_cases h0 : i > 0
  · rw [decide_eq_true h0, cond_true]
    unfold spec_l14Draw_k0
    obtain ⟨op, c2, e1, e2, e3⟩ := drawOp_ok (n := n) hp
    rw [e1, Option.bind_some]; dsimp only
    have ew : w64 (i - 1) = i - 1 := w64_id (by omega) (by omega)
    cases decide (Int.tmod i 2 = 0) with
    | true =>
      obtain ⟨r, r1, r2, r3, r4⟩ := title_do (n := n) (b := ⟨c6, c7⟩) ⟨1, op.Id, op.Who, op.To, op.Number, op.Many⟩ hb e2 hn
      rw [cond_true, r1, Option.bind_some, ew]
      exact ih (i - 1, c2, r.1.Bills, r.1.Freed) ⟨by dsimp only; omega, e3, r3⟩ (by dsimp only; omega)
    | false =>
      obtain ⟨r, r1, r2, r3, r4⟩ := title_do (n := n) (b := ⟨c6, c7⟩) op hb e2 hn
      rw [cond_false, r1, Option.bind_some, ew]
      exact ih (i - 1, c2, r.1.Bills, r.1.Freed) ⟨by dsimp only; omega, e3, r3⟩ (by dsimp only; omega)
  · rw [decide_eq_false h0, cond_false]
    exact ⟨_, _, rfl, hb, hp⟩
theorem drawBook_ok {n : Nat} (code : List Int) (hc : code.length ≤ 1048576) (hn : 1000000000 < n) : ∃ b ops, spec_DrawBook n code = some (b, ops) ∧ BookP b ∧ ops.length ≤ 40 ∧ ∀ op ∈ ops, w_SBillOp op ≤ 1000 := by
  obtain ⟨c, h1, h2⟩ := new_ok (n := n) code hc hn
  obtain ⟨b, c1, d1, d2, d3⟩ := drawB_good (n := n) h2 hn
  obtain ⟨v, c2, a1, a2, a3⟩ := below_ok (n := n) d3 (m := 30) (by omega)
  unfold spec_DrawBook
  rw [h1, Option.bind_some, d1, Option.bind_some]; dsimp only
  rw [a1, Option.bind_some]; dsimp only
  have key := loopN_ind (b := fun (x : Int × Sl1Cur × List SBillOp) J' => spec_DrawBook_L5 n (fun ops16 => some (b, ops16)) (fun i17 t18 ops19 => J' (i17, t18, ops19)) x.1 [] [] x.2.1 b.Bills b.Freed x.2.2) (fun x => x.1.toNat) (fun x => (0 ≤ x.1 ∧ x.1 + (x.2.2.length : Int) ≤ 40) ∧ CurOk x.2.1 ∧ ∀ op ∈ x.2.2, w_SBillOp op ≤ 1000) (fun x r => ∃ ops, r = some (b, ops) ∧ ops.length ≤ 40 ∧ ∀ op ∈ ops, w_SBillOp op ≤ 1000) (by
    rintro ⟨i, p, l⟩ J ⟨hi, hp, hb⟩ ih
    dsimp only at *
    unfold spec_DrawBook_L5
    by_cases h0 : i > 0
    · rw [decide_eq_true h0, cond_true]
      obtain ⟨op, c2, e1, e2, e3⟩ := drawOp_ok (n := n) hp
      rw [e1, Option.bind_some]; dsimp only
      have ew : w64 (i - 1) = i - 1 := w64_id (by omega) (by omega)
      rw [chk_dec (by rw [List.length_append]; simp only [List.length_singleton]; omega), ew]
      refine ih (i - 1, c2, l ++ [op]) ⟨by dsimp only; rw [List.length_append]; simp only [List.length_singleton]; omega, e3, fun o ho => ?_⟩ (by dsimp only; omega)
      rcases List.mem_append.1 ho with h | h
      · exact hb o h
      · rw [List.mem_singleton.1 h]; exact e2
    · rw [decide_eq_false h0, cond_false]
      exact ⟨l, rfl, by omega, hb⟩) n (v, c2, []) ⟨by dsimp only; simp only [List.length_nil]; omega, a3, fun o ho => by cases ho⟩ (by show v.toNat < n; omega)
  obtain ⟨ops, k1, k2, k3⟩ := key
  exact ⟨b, ops, k1, d2, k2, k3⟩
end Go.Sm
end

section
set_option linter.unusedSimpArgs false
set_option linter.deprecated false
set_option linter.unusedSectionVars false
set_option linter.unusedVariables false
set_option linter.unusedSimpArgs false
namespace Go.Sm
attribute [local irreducible] bd chk ix loopN
/-! ### A run of ops -/
noncomputable def dob (n : Nat) (b : SBook) (op : SBillOp) : SBook × Int := (impl_DoBill n b op).getD (b, 0)
theorem dob_ok {n : Nat} {b : SBook} {op : SBillOp} (hb : BookP b) (ho : w_SBillOp op ≤ 1000) (hn : 1000000000 < n) : impl_DoBill n b op = some (dob n b op) ∧ BookP (dob n b op).1 := by
  obtain ⟨r, h1, h2, h3, h4⟩ := title_do (n := n) op hb ho hn
  have e : dob n b op = r := by unfold dob; rw [h2]; rfl
  rw [e]; exact ⟨h2, h3⟩
noncomputable def stepN (n : Nat) (s : SBook × List Int) (d : SBillOp) : SBook × List Int := ((dob n s.1 d).1, s.2 ++ [(dob n s.1 d).2])
noncomputable def runN (n : Nat) (h : SBook) (l : List SBillOp) : SBook × List Int := l.foldl (stepN n) (h, [])
theorem runN_succ (n : Nat) (h : SBook) (l : List SBillOp) {k : Nat} (hk : k < l.length) : runN n h (l.take (k + 1)) = stepN n (runN n h (l.take k)) (l.getD k dSBillOp) := by
  unfold runN
  rw [take_succ_getD (d := dSBillOp) hk, List.foldl_append]
  rfl
theorem runN_ok {n : Nat} {h : SBook} {l : List SBillOp} (hb : BookP h) (hl : ∀ op ∈ l, w_SBillOp op ≤ 1000) (hn : 1000000000 < n) : ∀ k, k ≤ l.length → BookP (runN n h (l.take k)).1 ∧ (runN n h (l.take k)).2.length = k
  | 0, _ => ⟨hb, rfl⟩
  | k + 1, hk => by
    obtain ⟨h1, h2⟩ := runN_ok hb hl hn k (by omega)
    rw [runN_succ n h l (by omega)]
    obtain ⟨g1, g2⟩ := dob_ok (n := n) h1 (hl (l.getD k dSBillOp) (getD_mem (by omega))) hn
    unfold stepN
    exact ⟨g2, by simp [h2]⟩
theorem ownc_impl (n : Nat) (l : List Int) (h : l.length ≤ 200000000) : impl_own_int n l = some l := by
  unfold impl_own_int
  rw [chk_dec (by omega), chk_dec (by omega), chk_dec (by omega)]
theorem runs_impl {n : Nat} {h : SBook} {l : List SBillOp} (hb : BookP h) (hl : ∀ op ∈ l, w_SBillOp op ≤ 1000) (h200 : l.length ≤ 200) (hn : 1000000000 < n) : impl_RunBills n h l = some (runN n h l) := by
  have hz := bookSz h (by have := bookP_w hb; omega)
  unfold impl_RunBills
  rw [copy_impl h hz.bills hz.freed (fun k hk => (hz.each k hk).2.2.1) hn, Option.bind_some]
  rw [decide_eq_false (show ¬ (l.length : Int) > 200 by omega), cond_false]
  unfold impl_RunBills_k1
  refine loop_runS (S := SBook × List Int) (X := Int × List SBill × List Int × List Int) (enc := fun i s => (i, s.1.Bills, s.1.Freed, s.2)) (len := l.length) (I := fun k s => s = runN n h (l.take k)) (Q := fun r => r = some (runN n h l)) (fun k s J hk hi => ?_) (fun s J hi => ?_) (n := n) (by omega) (s0 := (h, [])) rfl
  · refine ⟨runN n h (l.take (k + 1)), rfl, ?_⟩
    obtain ⟨g1, g2⟩ := runN_ok (n := n) hb hl hn k (by omega)
    subst hi
    obtain ⟨hd, _⟩ := dob_ok (n := n) g1 (hl (l.getD k dSBillOp) (getD_mem hk)) hn
    unfold impl_RunBills_L6 impl_RunBills_k0
    have hd : impl_DoBill n (⟨(runN n h (l.take k)).1.Bills, (runN n h (l.take k)).1.Freed⟩ : SBook) (l.getD k dSBillOp) = some (dob n (runN n h (l.take k)).1 (l.getD k dSBillOp)) := hd
    simp only [Int.ofNat_lt, hk, decide_true, cond_true, ix_nat hk, bd_eq, Int.toNat_natCast, hd, Option.bind_some, w64_succ (show k < 9223372036854775807 by omega)]
    rw [chk_dec (by simp; omega), runN_succ n h l hk]
    rfl
  · unfold impl_RunBills_L6
    simp only [Int.lt_irrefl, decide_false, cond_false]
    have g := runN_ok (n := n) hb hl hn l.length (Nat.le_refl _)
    rw [List.take_length] at g hi
    subst hi
    rw [ownc_impl n _ (by omega)]
    rfl
theorem laws_FnTitle_true (code0 : List Int) (h0 : (code0.length ≤ 9223372036854775807 ∧ ∀ y ∈ code0, rng 0 255 y)) : ∃ n, laws_FnTitle n code0 = some true := by
  refine ⟨1000000001, ?_⟩
  generalize hN : (1000000001 : Nat) = n
  have hn : 1000000000 < n := by omega
  unfold laws_FnTitle laws_big
  rw [Option.bind_some]
  by_cases hb : (code0.length : Int) > 1048576
  · rw [decide_eq_true hb]; rfl
  rw [decide_eq_false hb, cond_false]
  obtain ⟨b, ops, d1, d2, d3, d4⟩ := drawBook_ok (n := n) code0 (by omega) hn
  unfold laws_FnTitle_k9
  rw [d1, Option.bind_some]
  dsimp only
  refine loop_runS (S := SBook) (X := Int × SBook) (enc := fun i s => (i, s)) (len := ops.length) (I := fun k s => s = (runN n b (ops.take k)).1) (Q := fun r => r = some true) (fun k s J hk hi => ?_) (fun s J hi => ?_) (n := n) (by omega) (s0 := b) rfl
  · refine ⟨(runN n b (ops.take (k + 1))).1, rfl, ?_⟩
    obtain ⟨g1, g2⟩ := runN_ok (n := n) d2 d4 hn k (by omega)
    subst hi
    obtain ⟨r, r1, r2, r3⟩ := title_step (n := n) (fun now278 => (impl_RunBills n b ops).bind fun r279 => (bif (decide ((r279.2.length : Int) = (ops.length : Int))) then (bif (decide ((r279.1.Bills.length : Int) = (now278.Bills.length : Int))) then (laws_sameInts n r279.1.Freed now278.Freed).bind fun r280 => some (r280) else some (false)) else some (false))) (fun t282 => some (t282)) (fun i283 now284 => J (i283, now284)) k b ops (runN n b (ops.take k)).1 hk (by omega) g1 (d4 _ (getD_mem hk)) hn
    refine r3.trans ?_
    have e : r.1 = (runN n b (ops.take (k + 1))).1 := by
      rw [runN_succ n b ops hk]
      unfold stepN dob
      rw [r1]; rfl
    rw [e]
  · have g := runN_ok (n := n) d2 d4 hn ops.length (Nat.le_refl _)
    rw [List.take_length] at g hi
    subst hi
    unfold laws_FnTitle_L6
    rw [decide_eq_false (Int.lt_irrefl _), cond_false, runs_impl d2 d4 (by omega) hn]
    dsimp only
    rw [Option.bind_some, decide_eq_true (by rw [g.2]), cond_true, decide_eq_true rfl, cond_true, same_ok _ (by have := (bookP_small g.1).2.1; omega) hn, Option.bind_some]
end Go.Sm
end
