import Derived.Test.YtakllmgiobpmgaaGreatEngE
import Derived.Test.YtakllmgiobpmgaaGreatEngA
/- The functions as plain functions over data, and that the law answers true for all arguments. RunBills: of all books and lists of ops the written-out way and the built one leave the same book and tell the same codes. -/
set_option linter.unusedSimpArgs false
set_option linter.deprecated false
set_option linter.unusedSectionVars false
set_option linter.unusedVariables false
noncomputable section
namespace Go.Sm
structure SBill where
  Id : Int
  Shipper : ByteArray
  Order : ByteArray
  Many : Int
  Held : List ByteArray
structure SBook where
  Bills : List SBill
  Freed : List Int
structure SBillOp where
  Kind : Int
  Id : Int
  Who : ByteArray
  To : ByteArray
  Number : Int
  Many : Int
def dSBill : SBill := ⟨(0 : Int), str [], str [], (0 : Int), []⟩
def dSBook : SBook := ⟨[], []⟩
def dSBillOp : SBillOp := ⟨(0 : Int), (0 : Int), str [], str [], (0 : Int), (0 : Int)⟩
def laws_szStringS_L5 {R : Type} (n : Nat) (kx0 : Int → Option R) (kxr : Int → Option R) (J : Int → Int → Option R) (a3 : List ByteArray) (left4 : Int) (i5 : Int) : Option R :=
  (bif (decide (i5 < (a3.length : Int))) then ix i5 a3.length ((bd (w64 (left4 - ((a3.getD i5.toNat (str [])).size : Int))) fun (v11 : Int) => (bif (decide (v11 < (0 : Int))) then kxr (-1 : Int) else J v11 (w64 (i5 + (1 : Int)))))) else kx0 left4)
def laws_szStringS (n : Nat) (a0 : List ByteArray) (left1 : Int) : Option Int :=
  (bd (w64 (left1 - (a0.length : Int))) fun (v1 : Int) => (bif (decide (v1 < (0 : Int))) then some ((-1 : Int)) else loopN (fun (x : Int × Int) J' => laws_szStringS_L5 n (fun left18 => some (left18)) (fun t19 => some (t19)) (fun left20 i21 => J' (left20, i21)) a0 x.1 x.2) n (v1, (0 : Int))))
def laws_szBill (n : Nat) (a0 : SBill) (left1 : Int) : Option Int :=
  (bd (w64 (left1 - (a0.Shipper.size : Int))) fun (v1 : Int) => (bif (decide (v1 < (0 : Int))) then some ((-1 : Int)) else (bd (w64 (v1 - (a0.Order.size : Int))) fun (v9 : Int) => (bif (decide (v9 < (0 : Int))) then some ((-1 : Int)) else (laws_szStringS n a0.Held v9).bind fun r11 => (bif (decide (r11 < (0 : Int))) then some ((-1 : Int)) else some (r11))))))
def laws_szBillS_L5 {R : Type} (n : Nat) (kx0 : Int → Option R) (kxr : Int → Option R) (J : Int → Int → Option R) (a3 : List SBill) (left4 : Int) (i5 : Int) : Option R :=
  (bif (decide (i5 < (a3.length : Int))) then ix i5 a3.length ((bd (a3.getD i5.toNat dSBill) fun (e12 : SBill) => (laws_szBill n e12 left4).bind fun r13 => (bif (decide (r13 < (0 : Int))) then kxr (-1 : Int) else J r13 (w64 (i5 + (1 : Int)))))) else kx0 left4)
def laws_szBillS (n : Nat) (a0 : List SBill) (left1 : Int) : Option Int :=
  (bd (w64 (left1 - (a0.length : Int))) fun (v1 : Int) => (bif (decide (v1 < (0 : Int))) then some ((-1 : Int)) else loopN (fun (x : Int × Int) J' => laws_szBillS_L5 n (fun left20 => some (left20)) (fun t21 => some (t21)) (fun left22 i23 => J' (left22, i23)) a0 x.1 x.2) n (v1, (0 : Int))))
def laws_szIntS (n : Nat) (a0 : List Int) (left1 : Int) : Option Int :=
  (bd (w64 (left1 - (a0.length : Int))) fun (v1 : Int) => (bif (decide (v1 < (0 : Int))) then some ((-1 : Int)) else some (v1)))
def laws_szBook (n : Nat) (a0 : SBook) (left1 : Int) : Option Int :=
  (laws_szBillS n a0.Bills left1).bind fun r1 => (bif (decide (r1 < (0 : Int))) then some ((-1 : Int)) else (laws_szIntS n a0.Freed r1).bind fun r5 => (bif (decide (r5 < (0 : Int))) then some ((-1 : Int)) else some (r5)))
def laws_szBillOp (n : Nat) (a0 : SBillOp) (left1 : Int) : Option Int :=
  (bd (w64 (left1 - (a0.Who.size : Int))) fun (v1 : Int) => (bif (decide (v1 < (0 : Int))) then some ((-1 : Int)) else (bd (w64 (v1 - (a0.To.size : Int))) fun (v5 : Int) => (bif (decide (v5 < (0 : Int))) then some ((-1 : Int)) else some (v5)))))
def laws_szBillOpS_L5 {R : Type} (n : Nat) (kx0 : Int → Option R) (kxr : Int → Option R) (J : Int → Int → Option R) (a3 : List SBillOp) (left4 : Int) (i5 : Int) : Option R :=
  (bif (decide (i5 < (a3.length : Int))) then ix i5 a3.length ((bd (a3.getD i5.toNat dSBillOp) fun (e12 : SBillOp) => (laws_szBillOp n e12 left4).bind fun r13 => (bif (decide (r13 < (0 : Int))) then kxr (-1 : Int) else J r13 (w64 (i5 + (1 : Int)))))) else kx0 left4)
def laws_szBillOpS (n : Nat) (a0 : List SBillOp) (left1 : Int) : Option Int :=
  (bd (w64 (left1 - (a0.length : Int))) fun (v1 : Int) => (bif (decide (v1 < (0 : Int))) then some ((-1 : Int)) else loopN (fun (x : Int × Int) J' => laws_szBillOpS_L5 n (fun left20 => some (left20)) (fun t21 => some (t21)) (fun left22 i23 => J' (left22, i23)) a0 x.1 x.2) n (v1, (0 : Int))))
def laws_toStringS_L3 {R : Type} (n : Nat) (kx0 : List ByteArray → Option R) (J : Int → List ByteArray → Option R) (a1 : List ByteArray) (i2 : Int) (out3 : List ByteArray) : Option R :=
  (bif (decide (i2 < (a1.length : Int))) then ix i2 a1.length (ix i2 out3.length (chk (decide (i2.toNat < out3.length)) ((bd (out3.set i2.toNat (a1.getD i2.toNat (str []))) fun (l7 : List ByteArray) => J (w64 (i2 + (1 : Int))) l7)))) else kx0 out3)
def laws_toStringS (n : Nat) (a0 : List ByteArray) : Option (List ByteArray) :=
  chk (decide ((0 : Int) ≤ (a0.length : Int))) (chk (decide ((a0.length : Int) ≤ (a0.length : Int))) (chk (decide ((a0.length : Int) ≤ 9223372036854775807 ∧ (a0.length : Int) * (16 : Int) ≤ 281474976710656)) (loopN (fun (x : Int × List ByteArray) J' => laws_toStringS_L3 n (fun out8 => some (out8)) (fun i9 out10 => J' (i9, out10)) a0 x.1 x.2) n ((0 : Int), (List.replicate (a0.length : Int).toNat (str []))))))
def laws_toBill (n : Nat) (a0 : SBill) : Option SBill :=
  (laws_toStringS n a0.Held).bind fun r1 => some ((⟨a0.Id, a0.Shipper, a0.Order, a0.Many, r1⟩ : SBill))
def laws_toBillS_L3 {R : Type} (n : Nat) (kx0 : List SBill → Option R) (J : Int → List SBill → Option R) (a1 : List SBill) (i2 : Int) (out3 : List SBill) : Option R :=
  (bif (decide (i2 < (a1.length : Int))) then ix i2 a1.length ((bd (a1.getD i2.toNat dSBill) fun (e8 : SBill) => (laws_toBill n e8).bind fun r9 => ix i2 out3.length (chk (decide (i2.toNat < out3.length)) (J (w64 (i2 + (1 : Int))) (out3.set i2.toNat r9))))) else kx0 out3)
def laws_toBillS (n : Nat) (a0 : List SBill) : Option (List SBill) :=
  chk (decide ((0 : Int) ≤ (a0.length : Int))) (chk (decide ((a0.length : Int) ≤ (a0.length : Int))) (chk (decide ((a0.length : Int) ≤ 9223372036854775807 ∧ (a0.length : Int) * (72 : Int) ≤ 281474976710656)) (loopN (fun (x : Int × List SBill) J' => laws_toBillS_L3 n (fun out10 => some (out10)) (fun i11 out12 => J' (i11, out12)) a0 x.1 x.2) n ((0 : Int), (List.replicate (a0.length : Int).toNat dSBill)))))
def laws_toIntS_L3 {R : Type} (n : Nat) (kx0 : List Int → Option R) (J : Int → List Int → Option R) (a1 : List Int) (i2 : Int) (out3 : List Int) : Option R :=
  (bif (decide (i2 < (a1.length : Int))) then ix i2 a1.length (ix i2 out3.length (chk (decide (i2.toNat < out3.length)) ((bd (out3.set i2.toNat (a1.getD i2.toNat (0 : Int))) fun (l7 : List Int) => J (w64 (i2 + (1 : Int))) l7)))) else kx0 out3)
def laws_toIntS (n : Nat) (a0 : List Int) : Option (List Int) :=
  chk (decide ((0 : Int) ≤ (a0.length : Int))) (chk (decide ((a0.length : Int) ≤ (a0.length : Int))) (chk (decide ((a0.length : Int) ≤ 9223372036854775807 ∧ (a0.length : Int) * (8 : Int) ≤ 281474976710656)) (loopN (fun (x : Int × List Int) J' => laws_toIntS_L3 n (fun out8 => some (out8)) (fun i9 out10 => J' (i9, out10)) a0 x.1 x.2) n ((0 : Int), (List.replicate (a0.length : Int).toNat (0 : Int))))))
def laws_toBook (n : Nat) (a0 : SBook) : Option SBook :=
  (laws_toBillS n a0.Bills).bind fun r1 => (laws_toIntS n a0.Freed).bind fun r2 => some ((⟨r1, r2⟩ : SBook))
def laws_toBillOp (n : Nat) (a0 : SBillOp) : Option SBillOp :=
  some (a0)
def laws_toBillOpS_L3 {R : Type} (n : Nat) (kx0 : List SBillOp → Option R) (J : Int → List SBillOp → Option R) (a1 : List SBillOp) (i2 : Int) (out3 : List SBillOp) : Option R :=
  (bif (decide (i2 < (a1.length : Int))) then ix i2 a1.length ((bd (a1.getD i2.toNat dSBillOp) fun (e8 : SBillOp) => (laws_toBillOp n e8).bind fun r9 => ix i2 out3.length (chk (decide (i2.toNat < out3.length)) (J (w64 (i2 + (1 : Int))) (out3.set i2.toNat r9))))) else kx0 out3)
def laws_toBillOpS (n : Nat) (a0 : List SBillOp) : Option (List SBillOp) :=
  chk (decide ((0 : Int) ≤ (a0.length : Int))) (chk (decide ((a0.length : Int) ≤ (a0.length : Int))) (chk (decide ((a0.length : Int) ≤ 9223372036854775807 ∧ (a0.length : Int) * (64 : Int) ≤ 281474976710656)) (loopN (fun (x : Int × List SBillOp) J' => laws_toBillOpS_L3 n (fun out10 => some (out10)) (fun i11 out12 => J' (i11, out12)) a0 x.1 x.2) n ((0 : Int), (List.replicate (a0.length : Int).toNat dSBillOp)))))
def spec_l14Copy_L3 {R : Type} (n : Nat) (kx0 : List SBill → Option R) (J : Int → List SBill → Option R) (i1 : Int) (b2 : SBook) (c3 : List SBill) (c4 : List Int) (c5 : List SBill) (c6 : List Int) : Option R :=
  (bif (decide (i1 < (b2.Bills.length : Int))) then ix i1 b2.Bills.length ((bd (b2.Bills.getD i1.toNat dSBill) fun (e10 : SBill) => chk (decide (e10.Held.length * 16 ≤ 140737488355328)) (chk (decide ((c5 ++ [e10]).length * 72 ≤ 140737488355328)) (J (w64 (i1 + (1 : Int))) (c5 ++ [e10]))))) else kx0 c5)
def spec_l14Copy (n : Nat) (b0 : SBook) : Option SBook :=
  chk (decide (b0.Freed.length * 8 ≤ 140737488355328)) (loopN (fun (x : Int × List SBill) J' => spec_l14Copy_L3 n (fun c11 => some ((⟨c11, b0.Freed⟩ : SBook))) (fun i12 c13 => J' (i12, c13)) x.1 b0 [] [] x.2 b0.Freed) n ((0 : Int), []))
def spec_l1In (n : Nat) (x0 : Int) (a1 : Int) (b2 : Int) : Option Bool :=
  (bif (decide (x0 ≥ a1)) then some ((decide (x0 ≤ b2))) else some (false))
def spec_l1Name_k0 {R : Type} (n : Nat) (kx0 : Option R) (kxr : Bool → Option R) (J : Int → Option R) (s1 : ByteArray) (i3 : Int) : Option R :=
  ix i3 s1.size ((spec_l1In n (w64 (byteAt s1 i3.toNat)) (97 : Int) (122 : Int)).bind fun r4 => (bif (!r4) then (spec_l1In n (w64 (byteAt s1 i3.toNat)) (65 : Int) (90 : Int)).bind fun r5 => (bif (!r5) then (spec_l1In n (w64 (byteAt s1 i3.toNat)) (48 : Int) (57 : Int)).bind fun r6 => (bif (!r6) then (bif (!(decide ((w64 (byteAt s1 i3.toNat)) = (45 : Int)))) then kxr false else J (w64 (i3 + (1 : Int)))) else J (w64 (i3 + (1 : Int)))) else J (w64 (i3 + (1 : Int)))) else J (w64 (i3 + (1 : Int)))))
def spec_l1Name_L2 {R : Type} (n : Nat) (kx0 : Option R) (kxr : Bool → Option R) (J : Int → Option R) (s1 : ByteArray) (i2 : Int) : Option R :=
  (bif (decide (i2 < (s1.size : Int))) then spec_l1Name_k0 n kx0 kxr J s1 i2 else kx0)
def spec_l1Name (n : Nat) (s0 : ByteArray) : Option Bool :=
  loopN (fun (x : Int) J' => spec_l1Name_L2 n ((spec_l1In n (s0.size : Int) (1 : Int) (20 : Int)).bind fun r18 => some (r18)) (fun t19 => some (t19)) J' s0 x) n ((0 : Int))
def spec_l14Find_L2 {R : Type} (n : Nat) (kx0 : Option R) (kxr : Int → Option R) (J : Int → Option R) (id1 : Int) (i2 : Int) (b3 : SBook) : Option R :=
  (bif (decide (i2 < (b3.Bills.length : Int))) then ix i2 b3.Bills.length ((bd (b3.Bills.getD i2.toNat dSBill) fun (e7 : SBill) => (bif (decide (e7.Id = id1)) then kxr i2 else J (w64 (i2 + (1 : Int)))))) else kx0)
def spec_l14Find (n : Nat) (b0 : SBook) (id1 : Int) : Option Int :=
  loopN (fun (x : Int) J' => spec_l14Find_L2 n (some ((-1 : Int))) (fun t9 => some (t9)) J' id1 x b0) n ((0 : Int))
def spec_BookOk_k0 {R : Type} (n : Nat) (kx2 : Option R) (kxr : Bool → Option R) (J : Int → Option R) (i25 : Int) (k29 : Int) (b27 : SBook) (x28 : SBill) : Option R :=
  ix k29 x28.Held.length ((bif (!(decide ((x28.Held.getD k29.toNat (str [])) = str []))) then ix k29 x28.Held.length ((spec_l1Name n (x28.Held.getD k29.toNat (str []))).bind fun r30 => (bif (!r30) then kxr false else J (w64 (k29 + (1 : Int))))) else J (w64 (k29 + (1 : Int)))))
def spec_BookOk_L8 {R : Type} (n : Nat) (kx2 : Option R) (kxr : Bool → Option R) (J : Int → Option R) (i25 : Int) (k26 : Int) (b27 : SBook) (x28 : SBill) : Option R :=
  (bif (decide (k26 < (x28.Held.length : Int))) then spec_BookOk_k0 n kx2 kxr J i25 k26 b27 x28 else kx2)
def spec_BookOk_k1 {R : Type} (n : Nat) (kx0 : Option R) (kxr : Bool → Option R) (J : Int → Option R) (i3 : Int) (b2 : SBook) : Option R :=
  ix i3 b2.Bills.length ((bd (b2.Bills.getD i3.toNat dSBill) fun (e4 : SBill) => (spec_l1In n e4.Id (1 : Int) (1000000 : Int)).bind fun r5 => (bif (!r5) then kxr false else (bif (decide (i3 > (0 : Int))) then ix (w64 (i3 - (1 : Int))) b2.Bills.length ((bd (b2.Bills.getD ((w64 (i3 - (1 : Int))).toNat) dSBill) fun (e8 : SBill) => (bif (decide (e8.Id ≥ e4.Id)) then kxr false else (spec_l1Name n e4.Shipper).bind fun r11 => (bif (!r11) then kxr false else (bif (!(decide (e4.Order = str []))) then (spec_l1Name n e4.Order).bind fun r14 => (bif (!r14) then kxr false else (spec_l1In n e4.Many (1 : Int) (5 : Int)).bind fun r17 => (bif (!r17) then kxr false else (bif (!(decide ((e4.Held.length : Int) = e4.Many))) then kxr false else loopN (fun (x : Int) J' => spec_BookOk_L8 n (J (w64 (i3 + (1 : Int)))) (fun t47 => kxr t47) J' i3 x b2 e4) n ((0 : Int))))) else (spec_l1In n e4.Many (1 : Int) (5 : Int)).bind fun r49 => (bif (!r49) then kxr false else (bif (!(decide ((e4.Held.length : Int) = e4.Many))) then kxr false else loopN (fun (x : Int) J' => spec_BookOk_L8 n (J (w64 (i3 + (1 : Int)))) (fun t58 => kxr t58) J' i3 x b2 e4) n ((0 : Int))))))))) else (spec_l1Name n e4.Shipper).bind fun r60 => (bif (!r60) then kxr false else (bif (!(decide (e4.Order = str []))) then (spec_l1Name n e4.Order).bind fun r63 => (bif (!r63) then kxr false else (spec_l1In n e4.Many (1 : Int) (5 : Int)).bind fun r66 => (bif (!r66) then kxr false else (bif (!(decide ((e4.Held.length : Int) = e4.Many))) then kxr false else loopN (fun (x : Int) J' => spec_BookOk_L8 n (J (w64 (i3 + (1 : Int)))) (fun t75 => kxr t75) J' i3 x b2 e4) n ((0 : Int))))) else (spec_l1In n e4.Many (1 : Int) (5 : Int)).bind fun r77 => (bif (!r77) then kxr false else (bif (!(decide ((e4.Held.length : Int) = e4.Many))) then kxr false else loopN (fun (x : Int) J' => spec_BookOk_L8 n (J (w64 (i3 + (1 : Int)))) (fun t86 => kxr t86) J' i3 x b2 e4) n ((0 : Int))))))))))
def spec_BookOk_L2 {R : Type} (n : Nat) (kx0 : Option R) (kxr : Bool → Option R) (J : Int → Option R) (i1 : Int) (b2 : SBook) : Option R :=
  (bif (decide (i1 < (b2.Bills.length : Int))) then spec_BookOk_k1 n kx0 kxr J i1 b2 else kx0)
def spec_BookOk_k2 {R : Type} (n : Nat) (kx4 : Option R) (kxr : Bool → Option R) (J : Int → Option R) (i90 : Int) (b89 : SBook) : Option R :=
  ix i90 b89.Freed.length ((spec_l14Find n b89 (b89.Freed.getD i90.toNat (0 : Int))).bind fun r91 => (bif (decide (r91 < (0 : Int))) then kxr false else (bif (decide (i90 > (0 : Int))) then ix (w64 (i90 - (1 : Int))) b89.Freed.length (ix i90 b89.Freed.length ((bif (decide ((b89.Freed.getD ((w64 (i90 - (1 : Int))).toNat) (0 : Int)) ≥ (b89.Freed.getD i90.toNat (0 : Int)))) then kxr false else J (w64 (i90 + (1 : Int)))))) else J (w64 (i90 + (1 : Int))))))
def spec_BookOk_L13 {R : Type} (n : Nat) (kx4 : Option R) (kxr : Bool → Option R) (J : Int → Option R) (i88 : Int) (b89 : SBook) : Option R :=
  (bif (decide (i88 < (b89.Freed.length : Int))) then spec_BookOk_k2 n kx4 kxr J i88 b89 else kx4)
def spec_BookOk (n : Nat) (b0 : SBook) : Option Bool :=
  loopN (fun (x : Int) J' => spec_BookOk_L2 n (loopN (fun (x : Int) J' => spec_BookOk_L13 n (some ((decide ((b0.Bills.length : Int) ≤ (30 : Int))))) (fun t100 => some (t100)) J' x b0) n ((0 : Int))) (fun t102 => some (t102)) J' x b0) n ((0 : Int))
def spec_l14Op_k0 (n : Nat)  (op0 : SBillOp) : Option Bool :=
  (bif (!(decide (op0.To = str []))) then (spec_l1Name n op0.To).bind fun r5 => (bif (!r5) then some (false) else (spec_l1In n op0.Many (1 : Int) (5 : Int)).bind fun r11 => (bif r11 then some (true) else (bif (!(decide (op0.Kind = (1 : Int)))) then some ((!(decide (op0.Kind = (5 : Int))))) else some (false)))) else (spec_l1In n op0.Many (1 : Int) (5 : Int)).bind fun r15 => (bif r15 then some (true) else (bif (!(decide (op0.Kind = (1 : Int)))) then some ((!(decide (op0.Kind = (5 : Int))))) else some (false))))
def spec_l14Op_k1 (n : Nat)  (op0 : SBillOp) (t17 : Bool) : Option Bool :=
  (bif t17 then (bif (!(decide (op0.To = str []))) then (spec_l1Name n op0.To).bind fun r18 => (bif (!r18) then some (false) else (spec_l1In n op0.Many (1 : Int) (5 : Int)).bind fun r20 => (bif r20 then some (true) else (bif (!(decide (op0.Kind = (1 : Int)))) then some ((!(decide (op0.Kind = (5 : Int))))) else some (false)))) else (spec_l1In n op0.Many (1 : Int) (5 : Int)).bind fun r22 => (bif r22 then some (true) else (bif (!(decide (op0.Kind = (1 : Int)))) then some ((!(decide (op0.Kind = (5 : Int))))) else some (false)))) else (bif (decide (op0.Kind = (3 : Int))) then (spec_l1Name n op0.To).bind fun r24 => some (r24) else (spec_l1In n op0.Many (1 : Int) (5 : Int)).bind fun r25 => (bif r25 then some (true) else (bif (!(decide (op0.Kind = (1 : Int)))) then some ((!(decide (op0.Kind = (5 : Int))))) else some (false)))))
def spec_l14Op (n : Nat) (op0 : SBillOp) : Option Bool :=
  (spec_l1In n op0.Kind (1 : Int) (5 : Int)).bind fun r1 => (bif (!r1) then some (false) else (spec_l1In n op0.Id (1 : Int) (1000000 : Int)).bind fun r2 => (bif (!r2) then some (false) else (spec_l1Name n op0.Who).bind fun r3 => (bif (!r3) then some (false) else (bif (decide (op0.Kind = (1 : Int))) then spec_l14Op_k0 n  op0 else spec_l14Op_k1 n  op0 (decide (op0.Kind = (2 : Int)))))))
def spec_l14Made_L3 {R : Type} (n : Nat) (kx0 : List ByteArray → Option R) (J : Int → List ByteArray → Option R) (who1 : ByteArray) (many2 : Int) (k3 : Int) (out4 : List ByteArray) : Option R :=
  (bif (decide (k3 < many2)) then chk (decide ((out4 ++ [who1]).length * 16 ≤ 140737488355328)) (J (w64 (k3 + (1 : Int))) (out4 ++ [who1])) else kx0 out4)
def spec_l14Made (n : Nat) (who0 : ByteArray) (many1 : Int) : Option (List ByteArray) :=
  loopN (fun (x : Int × List ByteArray) J' => spec_l14Made_L3 n (fun out7 => some (out7)) (fun k8 out9 => J' (k8, out9)) who0 many1 x.1 x.2) n ((0 : Int), [])
def spec_l9Has_L2 {R : Type} (n : Nat) (kx0 : Option R) (kxr : Bool → Option R) (J : Int → Option R) (list1 : List Int) (x2 : Int) (i3 : Int) : Option R :=
  (bif (decide (i3 < (list1.length : Int))) then ix i3 list1.length ((bif (decide ((list1.getD i3.toNat (0 : Int)) = x2)) then kxr true else J (w64 (i3 + (1 : Int))))) else kx0)
def spec_l9Has (n : Nat) (list0 : List Int) (x1 : Int) : Option Bool :=
  loopN (fun (x : Int) J' => spec_l9Has_L2 n (some (false)) (fun t7 => some (t7)) J' list0 x1 x) n ((0 : Int))
def spec_l14Holds_L3 {R : Type} (n : Nat) (kx0 : Int → Option R) (J : Int → Int → Option R) (who1 : ByteArray) (n2 : Int) (k3 : Int) (x4 : SBill) : Option R :=
  (bif (decide (k3 < (x4.Held.length : Int))) then ix k3 x4.Held.length ((bif (decide ((x4.Held.getD k3.toNat (str [])) = who1)) then J (w64 (n2 + (1 : Int))) (w64 (k3 + (1 : Int))) else J n2 (w64 (k3 + (1 : Int))))) else kx0 n2)
def spec_l14Holds (n : Nat) (x0 : SBill) (who1 : ByteArray) : Option Int :=
  loopN (fun (x : Int × Int) J' => spec_l14Holds_L3 n (fun n15 => some (n15)) (fun n16 k17 => J' (n16, k17)) who1 x.1 x.2 x0) n ((0 : Int), (0 : Int))
def spec_l14Do (n : Nat) (x0 : SBill) (op1 : SBillOp) : Option (SBill × Bool) :=
  (bif (decide (op1.Kind = (2 : Int))) then (bif (!(decide (op1.Who = x0.Order))) then (bif (!(decide (x0.Order = str []))) then some (x0, false) else (spec_l14Holds n x0 op1.Who).bind fun r1 => (bif (decide (r1 = (0 : Int))) then some (x0, false) else some ((⟨x0.Id, x0.Shipper, op1.To, x0.Many, x0.Held⟩ : SBill), true))) else some ((⟨x0.Id, x0.Shipper, op1.To, x0.Many, x0.Held⟩ : SBill), true)) else (bif (decide (op1.Kind = (3 : Int))) then (bd (w64 (x0.Many - (1 : Int))) fun (v3 : Int) => (spec_l1In n op1.Number (0 : Int) v3).bind fun r4 => (bif (!r4) then some (x0, false) else ix op1.Number x0.Held.length (chk (decide (op1.Number.toNat < x0.Held.length)) ((bif (!(decide ((x0.Held.getD op1.Number.toNat (str [])) = op1.Who))) then some (x0, false) else ix op1.Number x0.Held.length (chk (decide (op1.Number.toNat < x0.Held.length)) ((bd (x0.Held.set op1.Number.toNat op1.To) fun (l10 : List ByteArray) => some ((⟨x0.Id, x0.Shipper, x0.Order, x0.Many, l10⟩ : SBill), true))))))))) else (bif (decide (op1.Kind = (4 : Int))) then (bd (w64 (x0.Many - (1 : Int))) fun (v12 : Int) => (spec_l1In n op1.Number (0 : Int) v12).bind fun r13 => (bif (!r13) then some (x0, false) else ix op1.Number x0.Held.length (chk (decide (op1.Number.toNat < x0.Held.length)) ((bif (!(decide ((x0.Held.getD op1.Number.toNat (str [])) = op1.Who))) then some (x0, false) else (bif (!(decide (x0.Order = str []))) then (bif (!(decide (x0.Order = op1.Who))) then some (x0, false) else (spec_l14Made n (str []) x0.Many).bind fun r19 => some ((⟨x0.Id, x0.Shipper, x0.Order, x0.Many, r19⟩ : SBill), true)) else (spec_l14Made n (str []) x0.Many).bind fun r23 => some ((⟨x0.Id, x0.Shipper, x0.Order, x0.Many, r23⟩ : SBill), true))))))) else (bif (decide (op1.Kind = (5 : Int))) then (spec_l14Holds n x0 op1.Who).bind fun r25 => (bif (!(decide (r25 = x0.Many))) then some (x0, false) else (spec_l14Made n op1.Who op1.Many).bind fun r28 => some ((⟨x0.Id, x0.Shipper, x0.Order, op1.Many, r28⟩ : SBill), true)) else some (x0, true)))))
def spec_DoBill_L9 {R : Type} (n : Nat) (kx0 : Int → Option R) (J : Int → Option R) (k19 : Int) (op20 : SBillOp) (c21 : List SBill) (c22 : List Int) (c23 : List SBill) (c24 : List Int) : Option R :=
  (bif (decide (k19 < (c23.length : Int))) then ix k19 c23.length (chk (decide (k19.toNat < c23.length)) ((bif (decide ((c23.getD k19.toNat dSBill).Id < op20.Id)) then J (w64 (k19 + (1 : Int))) else kx0 k19))) else kx0 k19)
def spec_DoBill_k0 (n : Nat)  (op1 : SBillOp) (t17 : List SBill) (t18 : List Int) : Option (SBook × Int) :=
  loopN (fun (x : Int) J' => spec_DoBill_L9 n (fun k30 => (spec_l14Made n op1.Who op1.Many).bind fun r31 => chk (decide ((0 : Int) ≤ k30)) (chk (decide (k30 ≤ (t17.length : Int))) (chk (decide ((k30.toNat + (t17.length - k30.toNat)) ≤ t17.length)) (chk (decide (([(⟨op1.Id, op1.Who, op1.To, op1.Many, r31⟩ : SBill)] ++ ((t17.drop k30.toNat).take (t17.length - k30.toNat))).length * 72 ≤ 140737488355328)) (chk (decide ((0 : Int) ≤ k30)) (chk (decide (k30 ≤ (t17.length : Int))) (chk (decide ((0 + (k30.toNat - 0)) ≤ t17.length)) (chk (decide (((t17.drop 0).take (k30.toNat - 0)).length * 72 ≤ 140737488355328)) (chk (decide ((((t17.drop 0).take (k30.toNat - 0)) ++ ([(⟨op1.Id, op1.Who, op1.To, op1.Many, r31⟩ : SBill)] ++ ((t17.drop k30.toNat).take (t17.length - k30.toNat)))).length * 72 ≤ 140737488355328)) (some ((⟨(((t17.drop 0).take (k30.toNat - 0)) ++ ([(⟨op1.Id, op1.Who, op1.To, op1.Many, r31⟩ : SBill)] ++ ((t17.drop k30.toNat).take (t17.length - k30.toNat)))), t18⟩ : SBook), (0 : Int)))))))))))) J' x op1 [] [] t17 t18) n ((0 : Int))
def spec_DoBill_L25 {R : Type} (n : Nat) (kx2 : Int → Option R) (J : Int → Option R) (k58 : Int) (op59 : SBillOp) (c60 : List SBill) (c61 : List Int) (c62 : List SBill) (c63 : List Int) : Option R :=
  (bif (decide (k58 < (c63.length : Int))) then ix k58 c63.length (chk (decide (k58.toNat < c63.length)) ((bif (decide ((c63.getD k58.toNat (0 : Int)) < op59.Id)) then J (w64 (k58 + (1 : Int))) else kx2 k58))) else kx2 k58)
def spec_DoBill_k1 (n : Nat)  (at48 : Int) (op1 : SBillOp) (t49 : Nat) (t50 : List SBill) (t51 : List Int) (x52 : Int) (x53 : ByteArray) (x54 : ByteArray) (x55 : Int) (t56 : List ByteArray) : Option (SBook × Int) :=
  ix at48 t50.length (chk (decide (at48.toNat < t50.length)) (chk (decide (at48.toNat = t49)) ((bd (t50.set at48.toNat (⟨x52, x53, x54, x55, t56⟩ : SBill)) fun (l57 : List SBill) => (bif (decide (op1.Kind = (4 : Int))) then loopN (fun (x : Int) J' => spec_DoBill_L25 n (fun k69 => chk (decide ((0 : Int) ≤ k69)) (chk (decide (k69 ≤ (t51.length : Int))) (chk (decide ((k69.toNat + (t51.length - k69.toNat)) ≤ t51.length)) ((bd ([op1.Id] ++ ((t51.drop k69.toNat).take (t51.length - k69.toNat))) fun (l70 : List Int) => chk (decide (l70.length * 8 ≤ 140737488355328)) (chk (decide ((0 : Int) ≤ k69)) (chk (decide (k69 ≤ (t51.length : Int))) (chk (decide ((0 + (k69.toNat - 0)) ≤ t51.length)) ((bd ((t51.drop 0).take (k69.toNat - 0)) fun (l71 : List Int) => chk (decide (l71.length * 8 ≤ 140737488355328)) (chk (decide ((l71 ++ l70).length * 8 ≤ 140737488355328)) (some ((⟨l57, (l71 ++ l70)⟩ : SBook), (0 : Int)))))))))))))) J' x op1 [] [] l57 t51) n ((0 : Int)) else some ((⟨l57, t51⟩ : SBook), (0 : Int)))))))
def spec_DoBill_k2 (n : Nat)  (at42 : Int) (b0 : SBook) (op1 : SBillOp) (t43 : List SBill) (t44 : List Int) : Option (SBook × Int) :=
  ix at42 t43.length (chk (decide (at42.toNat < t43.length)) ((bd (t43.getD at42.toNat dSBill) fun (e45 : SBill) => chk (decide (at42.toNat < t43.length)) ((spec_l14Do n (⟨e45.Id, e45.Shipper, e45.Order, e45.Many, (t43.getD at42.toNat dSBill).Held⟩ : SBill) op1).bind fun r46 => (bif (!r46.2) then (spec_l14Copy n b0).bind fun r47 => some (r47, (5 : Int)) else spec_DoBill_k1 n  at42 op1 at42.toNat t43 t44 r46.1.Id r46.1.Shipper r46.1.Order r46.1.Many r46.1.Held)))))
def spec_DoBill_k3 (n : Nat)  (b0 : SBook) (op1 : SBillOp) (t9 : List SBill) (t10 : List Int) : Option (SBook × Int) :=
  (spec_l14Find n b0 op1.Id).bind fun r11 => (bif (decide (op1.Kind = (1 : Int))) then (bif (decide (r11 ≥ (0 : Int))) then some ((⟨t9, t10⟩ : SBook), (2 : Int)) else (bif (decide ((b0.Bills.length : Int) = (30 : Int))) then some ((⟨t9, t10⟩ : SBook), (2 : Int)) else spec_DoBill_k0 n  op1 t9 t10)) else (bif (decide (r11 < (0 : Int))) then some ((⟨t9, t10⟩ : SBook), (3 : Int)) else (spec_l9Has n b0.Freed op1.Id).bind fun r84 => (bif r84 then some ((⟨t9, t10⟩ : SBook), (4 : Int)) else spec_DoBill_k2 n  r11 b0 op1 t9 t10)))
def spec_DoBill (n : Nat) (b0 : SBook) (op1 : SBillOp) : Option (SBook × Int) :=
  (spec_l14Copy n b0).bind fun r1 => (spec_BookOk n b0).bind fun r2 => (bif (!r2) then some (r1, (1 : Int)) else (spec_l14Op n op1).bind fun r5 => (bif (!r5) then some (r1, (1 : Int)) else spec_DoBill_k3 n  b0 op1 r1.Bills r1.Freed))
def spec_RunBills_k0 {R : Type} (n : Nat) (kx0 : List SBill → List Int → List Int → Option R) (J : Int → List SBill → List Int → List Int → Option R) (ops2 : List SBillOp) (i14 : Int) (c4 : List SBill) (c5 : List Int) (c15 : List SBill) (c16 : List Int) (codes17 : List Int) : Option R :=
  ix i14 ops2.length ((bd (ops2.getD i14.toNat dSBillOp) fun (e18 : SBillOp) => (spec_DoBill n (⟨c15, c16⟩ : SBook) e18).bind fun r19 => chk (decide ((codes17 ++ [r19.2]).length * 8 ≤ 140737488355328)) (J (w64 (i14 + (1 : Int))) r19.1.Bills r19.1.Freed (codes17 ++ [r19.2]))))
def spec_RunBills_L4 {R : Type} (n : Nat) (kx0 : List SBill → List Int → List Int → Option R) (J : Int → List SBill → List Int → List Int → Option R) (ops2 : List SBillOp) (i3 : Int) (c4 : List SBill) (c5 : List Int) (c6 : List SBill) (c7 : List Int) (codes8 : List Int) : Option R :=
  (bif (decide (i3 < (ops2.length : Int))) then (bif (decide ((ops2.length : Int) ≤ (200 : Int))) then spec_RunBills_k0 n kx0 J ops2 i3 c4 c5 c6 c7 codes8 else kx0 c6 c7 codes8) else kx0 c6 c7 codes8)
def spec_RunBills (n : Nat) (b0 : SBook) (ops1 : List SBillOp) : Option (SBook × List Int) :=
  (spec_l14Copy n b0).bind fun r1 => loopN (fun (x : Int × List SBill × List Int × List Int) J' => spec_RunBills_L4 n (fun c28 c29 codes30 => some ((⟨c28, c29⟩ : SBook), codes30)) (fun i31 c32 c33 codes34 => J' (i31, c32, c33, codes34)) ops1 x.1 [] [] x.2.1 x.2.2.1 x.2.2.2) n ((0 : Int), r1.Bills, r1.Freed, [])
def impl_own_impl_Bill (n : Nat) (l0 : List SBill) : Option (List SBill) :=
  chk (decide ((0 : Int) ≤ (l0.length : Int))) (chk (decide ((l0.length : Int) ≤ 9223372036854775807 ∧ (l0.length : Int) * (72 : Int) ≤ 281474976710656)) (chk (decide (l0.length * 72 ≤ 140737488355328)) (some (l0))))
def impl_own_string (n : Nat) (l0 : List ByteArray) : Option (List ByteArray) :=
  chk (decide ((0 : Int) ≤ (l0.length : Int))) (chk (decide ((l0.length : Int) ≤ 9223372036854775807 ∧ (l0.length : Int) * (16 : Int) ≤ 281474976710656)) (chk (decide (l0.length * 16 ≤ 140737488355328)) (some (l0))))
def impl_own_int (n : Nat) (l0 : List Int) : Option (List Int) :=
  chk (decide ((0 : Int) ≤ (l0.length : Int))) (chk (decide ((l0.length : Int) ≤ 9223372036854775807 ∧ (l0.length : Int) * (8 : Int) ≤ 281474976710656)) (chk (decide (l0.length * 8 ≤ 140737488355328)) (some (l0))))
def impl_Book_own_k0 {R : Type} (n : Nat) (kx0 : (List SBill) × Nat → Option R) (J : Int → (List SBill) × Nat → Option R) (t2 : Int) (t8 : Int) (b4 : SBook) (c5 : List SBill) (c6 : List Int) (l9 : Nat) (l10 : List SBill) : Option R :=
  ix t8 l10.length (chk (decide (t8.toNat < l10.length)) ((bif (decide (t8.toNat < l9)) then chk (decide (t8.toNat < l10.length)) ((impl_own_string n ((l10.getD t8.toNat dSBill).Held)).bind fun r11 => ix t8 l10.length (chk (decide (t8.toNat < l10.length)) ((bd (l10.getD t8.toNat dSBill) fun (e12 : SBill) => (bif (decide (t8.toNat = l9)) then (bd (l10.set t8.toNat (⟨e12.Id, e12.Shipper, e12.Order, e12.Many, r11⟩ : SBill)) fun (l13 : List SBill) => J (w64 (t8 + (1 : Int))) (l13, (l9 + 1))) else (bd (l10.set t8.toNat (⟨e12.Id, e12.Shipper, e12.Order, e12.Many, r11⟩ : SBill)) fun (l14 : List SBill) => J (w64 (t8 + (1 : Int))) (l14, l9))))))) else (impl_own_string n ((l10.getD t8.toNat dSBill).Held)).bind fun r15 => ix t8 l10.length (chk (decide (t8.toNat < l10.length)) ((bd (l10.getD t8.toNat dSBill) fun (e16 : SBill) => (bif (decide (t8.toNat = l9)) then (bd (l10.set t8.toNat (⟨e16.Id, e16.Shipper, e16.Order, e16.Many, r15⟩ : SBill)) fun (l17 : List SBill) => J (w64 (t8 + (1 : Int))) (l17, (l9 + 1))) else (bd (l10.set t8.toNat (⟨e16.Id, e16.Shipper, e16.Order, e16.Many, r15⟩ : SBill)) fun (l18 : List SBill) => J (w64 (t8 + (1 : Int))) (l18, l9)))))))))
def impl_Book_own_L3 {R : Type} (n : Nat) (kx0 : (List SBill) × Nat → Option R) (J : Int → (List SBill) × Nat → Option R) (t2 : Int) (t3 : Int) (b4 : SBook) (c5 : List SBill) (c6 : List Int) (l7 : (List SBill) × Nat) : Option R :=
  (bif (decide (t3 < t2)) then impl_Book_own_k0 n kx0 J t2 t3 b4 c5 c6 l7.2 l7.1 else kx0 (l7.1, l7.2))
def impl_Book_own (n : Nat) (b0 : SBook) : Option SBook :=
  (impl_own_impl_Bill n b0.Bills).bind fun r1 => loopN (fun (x : Int × ((List SBill) × Nat)) J' => impl_Book_own_L3 n (fun l19 => (impl_own_int n b0.Freed).bind fun r20 => chk (decide (l19.1.length ≤ l19.2)) (some ((⟨l19.1, r20⟩ : SBook)))) (fun t21 l22 => J' (t21, l22)) (r1.length : Int) x.1 b0 [] [] x.2) n ((0 : Int), (r1, 0))
def impl_nameOk_k0 {R : Type} (n : Nat) (kx0 : Option R) (kxr : Bool → Option R) (J : Int → Option R) (s2 : ByteArray) (t3 : Int) (t5 : Int) : Option R :=
  ix t5 s2.size ((bif (decide ((byteAt s2 t5.toNat) < (97 : Int))) then (bif (decide ((byteAt s2 t5.toNat) < (65 : Int))) then (bif (decide ((byteAt s2 t5.toNat) < (48 : Int))) then (bif (!(decide ((byteAt s2 t5.toNat) = (45 : Int)))) then kxr false else J (w64 (t5 + (1 : Int)))) else (bif (decide ((byteAt s2 t5.toNat) > (57 : Int))) then (bif (!(decide ((byteAt s2 t5.toNat) = (45 : Int)))) then kxr false else J (w64 (t5 + (1 : Int)))) else J (w64 (t5 + (1 : Int))))) else (bif (decide ((byteAt s2 t5.toNat) > (90 : Int))) then (bif (decide ((byteAt s2 t5.toNat) < (48 : Int))) then (bif (!(decide ((byteAt s2 t5.toNat) = (45 : Int)))) then kxr false else J (w64 (t5 + (1 : Int)))) else (bif (decide ((byteAt s2 t5.toNat) > (57 : Int))) then (bif (!(decide ((byteAt s2 t5.toNat) = (45 : Int)))) then kxr false else J (w64 (t5 + (1 : Int)))) else J (w64 (t5 + (1 : Int))))) else J (w64 (t5 + (1 : Int))))) else (bif (decide ((byteAt s2 t5.toNat) > (122 : Int))) then (bif (decide ((byteAt s2 t5.toNat) < (65 : Int))) then (bif (decide ((byteAt s2 t5.toNat) < (48 : Int))) then (bif (!(decide ((byteAt s2 t5.toNat) = (45 : Int)))) then kxr false else J (w64 (t5 + (1 : Int)))) else (bif (decide ((byteAt s2 t5.toNat) > (57 : Int))) then (bif (!(decide ((byteAt s2 t5.toNat) = (45 : Int)))) then kxr false else J (w64 (t5 + (1 : Int)))) else J (w64 (t5 + (1 : Int))))) else (bif (decide ((byteAt s2 t5.toNat) > (90 : Int))) then (bif (decide ((byteAt s2 t5.toNat) < (48 : Int))) then (bif (!(decide ((byteAt s2 t5.toNat) = (45 : Int)))) then kxr false else J (w64 (t5 + (1 : Int)))) else (bif (decide ((byteAt s2 t5.toNat) > (57 : Int))) then (bif (!(decide ((byteAt s2 t5.toNat) = (45 : Int)))) then kxr false else J (w64 (t5 + (1 : Int)))) else J (w64 (t5 + (1 : Int))))) else J (w64 (t5 + (1 : Int))))) else J (w64 (t5 + (1 : Int))))))
def impl_nameOk_L4 {R : Type} (n : Nat) (kx0 : Option R) (kxr : Bool → Option R) (J : Int → Option R) (s2 : ByteArray) (t3 : Int) (t4 : Int) : Option R :=
  (bif (decide (t4 < t3)) then impl_nameOk_k0 n kx0 kxr J s2 t3 t4 else kx0)
def impl_nameOk (n : Nat) (s0 : ByteArray) : Option Bool :=
  (bif (decide ((s0.size : Int) < (1 : Int))) then some (false) else (bif (decide ((s0.size : Int) > (20 : Int))) then some (false) else loopN (fun (x : Int) J' => impl_nameOk_L4 n (some (true)) (fun t50 => some (t50)) J' s0 (s0.size : Int) x) n ((0 : Int))))
def impl_in (n : Nat) (n0 : Int) (least1 : Int) (most2 : Int) : Option Bool :=
  (bif (decide (n0 ≥ least1)) then some ((decide (n0 ≤ most2))) else some (false))
def impl_idRight (n : Nat) (n0 : Int) : Option Bool :=
  (impl_in n n0 (1 : Int) (1000000 : Int)).bind fun r1 => some (r1)
def impl_emptyOrName (n : Nat) (s0 : ByteArray) : Option Bool :=
  (bif (decide (s0 = str [])) then some (true) else (impl_nameOk n s0).bind fun r1 => some (r1))
def impl_BookOk_1 (n : Nat) (s0 : ByteArray) : Option Bool :=
  (impl_emptyOrName n s0).bind fun r1 => some ((!r1))
def slices_IndexFunc_string_string__impl_BookOk_1_L2 {R : Type} (n : Nat) (kx0 : Option R) (kxr : Int → Option R) (J : Int → Option R) (s1 : List ByteArray) (t2 : Int) (t3 : Int) : Option R :=
  (bif (decide (t3 < t2)) then ix t3 s1.length ((impl_BookOk_1 n (s1.getD t3.toNat (str []))).bind fun r7 => (bif r7 then kxr t3 else J (w64 (t3 + (1 : Int))))) else kx0)
def slices_IndexFunc_string_string__impl_BookOk_1 (n : Nat) (s0 : List ByteArray) : Option Int :=
  loopN (fun (x : Int) J' => slices_IndexFunc_string_string__impl_BookOk_1_L2 n (some ((-1 : Int))) (fun t9 => some (t9)) J' s0 (s0.length : Int) x) n ((0 : Int))
def slices_ContainsFunc_string_string__impl_BookOk_1 (n : Nat) (s0 : List ByteArray) : Option Bool :=
  (slices_IndexFunc_string_string__impl_BookOk_1 n s0).bind fun r1 => some ((decide (r1 ≥ (0 : Int))))
def impl_BookOk_k0 {R : Type} (n : Nat) (kx0 : List (Int × Bool) → Option R) (kxr : Bool → Option R) (J : Int → List (Int × Bool) → Option R) (t1 : List SBill) (t2 : Int) (t6 : Int) (b4 : SBook) (t7 : List (Int × Bool)) : Option R :=
  ix t6 t1.length ((bd (t1.getD t6.toNat dSBill) fun (e8 : SBill) => (impl_idRight n e8.Id).bind fun r9 => (bif (!r9) then kxr false else (bif (decide (t6 > (0 : Int))) then ix (w64 (t6 - (1 : Int))) b4.Bills.length ((bd (b4.Bills.getD ((w64 (t6 - (1 : Int))).toNat) dSBill) fun (e13 : SBill) => (bif (decide (e13.Id ≥ e8.Id)) then kxr false else (impl_nameOk n e8.Shipper).bind fun r17 => (bif (!r17) then kxr false else (impl_emptyOrName n e8.Order).bind fun r21 => (bif (!r21) then kxr false else (impl_in n e8.Many (1 : Int) (5 : Int)).bind fun r25 => (bif (!r25) then kxr false else (bif (!(decide ((e8.Held.length : Int) = e8.Many))) then kxr false else (slices_ContainsFunc_string_string__impl_BookOk_1 n e8.Held).bind fun r32 => (bif r32 then kxr false else J (w64 (t6 + (1 : Int))) (mputI t7 e8.Id true))))))))) else (impl_nameOk n e8.Shipper).bind fun r49 => (bif (!r49) then kxr false else (impl_emptyOrName n e8.Order).bind fun r53 => (bif (!r53) then kxr false else (impl_in n e8.Many (1 : Int) (5 : Int)).bind fun r57 => (bif (!r57) then kxr false else (bif (!(decide ((e8.Held.length : Int) = e8.Many))) then kxr false else (slices_ContainsFunc_string_string__impl_BookOk_1 n e8.Held).bind fun r64 => (bif r64 then kxr false else J (w64 (t6 + (1 : Int))) (mputI t7 e8.Id true))))))))))
def impl_BookOk_L5 {R : Type} (n : Nat) (kx0 : List (Int × Bool) → Option R) (kxr : Bool → Option R) (J : Int → List (Int × Bool) → Option R) (t1 : List SBill) (t2 : Int) (t3 : Int) (b4 : SBook) (t5 : List (Int × Bool)) : Option R :=
  (bif (decide (t3 < t2)) then impl_BookOk_k0 n kx0 kxr J t1 t2 t3 b4 t5 else kx0 t5)
def impl_BookOk_k1 {R : Type} (n : Nat) (kx2 : Option R) (kxr : Bool → Option R) (J : Int → Option R) (t75 : List Int) (t76 : Int) (t80 : Int) (b78 : SBook) (t79 : List (Int × Bool)) : Option R :=
  ix t80 t75.length ((bd (mgetI t79 (t75.getD t80.toNat (0 : Int))) fun (g81 : Option Bool) => (bif (!(g81.getD false)) then kxr false else (bif (decide (t80 > (0 : Int))) then ix (w64 (t80 - (1 : Int))) b78.Freed.length ((bif (decide ((b78.Freed.getD ((w64 (t80 - (1 : Int))).toNat) (0 : Int)) ≥ (t75.getD t80.toNat (0 : Int)))) then kxr false else J (w64 (t80 + (1 : Int))))) else J (w64 (t80 + (1 : Int)))))))
def impl_BookOk_L12 {R : Type} (n : Nat) (kx2 : Option R) (kxr : Bool → Option R) (J : Int → Option R) (t75 : List Int) (t76 : Int) (t77 : Int) (b78 : SBook) (t79 : List (Int × Bool)) : Option R :=
  (bif (decide (t77 < t76)) then impl_BookOk_k1 n kx2 kxr J t75 t76 t77 b78 t79 else kx2)
def impl_BookOk_k2 (n : Nat)  (b0 : SBook) : Option Bool :=
  loopN (fun (x : Int × (List (Int × Bool))) J' => impl_BookOk_L5 n (fun t74 => loopN (fun (x : Int) J' => impl_BookOk_L12 n (some (true)) (fun t90 => some (t90)) J' b0.Freed (b0.Freed.length : Int) x b0 t74) n ((0 : Int))) (fun t92 => some (t92)) (fun t93 t94 => J' (t93, t94)) b0.Bills (b0.Bills.length : Int) x.1 b0 x.2) n ((0 : Int), [])
def impl_BookOk (n : Nat) (b0 : SBook) : Option Bool :=
  (bif (decide ((b0.Bills.length : Int) > (30 : Int))) then some (false) else impl_BookOk_k2 n  b0)
def impl_Book_at_1 (n : Nat) (x0 : SBill) (a1 : Int) : Option Bool :=
  some ((decide (x0.Id = a1)))
def slices_IndexFunc_impl_Bill_impl_Bill__impl_Book_at_1_L2 {R : Type} (n : Nat) (kx0 : Option R) (kxr : Int → Option R) (J : Int → Option R) (s1 : List SBill) (f2 : Int) (t3 : Int) (t4 : Int) : Option R :=
  (bif (decide (t4 < t3)) then ix t4 s1.length ((bd (s1.getD t4.toNat dSBill) fun (e9 : SBill) => (impl_Book_at_1 n e9 f2).bind fun r10 => (bif r10 then kxr t4 else J (w64 (t4 + (1 : Int)))))) else kx0)
def slices_IndexFunc_impl_Bill_impl_Bill__impl_Book_at_1 (n : Nat) (s0 : List SBill) (f1c0 : Int) : Option Int :=
  loopN (fun (x : Int) J' => slices_IndexFunc_impl_Bill_impl_Bill__impl_Book_at_1_L2 n (some ((-1 : Int))) (fun t12 => some (t12)) J' s0 f1c0 (s0.length : Int) x) n ((0 : Int))
def impl_Book_at (n : Nat) (b0 : SBook) (id1 : Int) : Option Int :=
  (slices_IndexFunc_impl_Bill_impl_Bill__impl_Book_at_1 n b0.Bills id1).bind fun r1 => some (r1)
def impl_heldBy_L3 {R : Type} (n : Nat) (kx0 : List ByteArray → Option R) (J : Int → List ByteArray → Option R) (who1 : ByteArray) (t2 : Int) (t3 : Int) (l4 : List ByteArray) : Option R :=
  (bif (decide (t3 < t2)) then ix t3 l4.length (chk (decide (t3.toNat < l4.length)) (J (w64 (t3 + (1 : Int))) (l4.set t3.toNat who1))) else kx0 l4)
def impl_heldBy (n : Nat) (who0 : ByteArray) (many1 : Int) : Option (List ByteArray) :=
  chk (decide ((0 : Int) ≤ many1)) (chk (decide (many1 ≤ many1)) (chk (decide (many1 ≤ 9223372036854775807 ∧ many1 * (16 : Int) ≤ 281474976710656)) (loopN (fun (x : Int × List ByteArray) J' => impl_heldBy_L3 n (fun l7 => some (l7)) (fun t8 l9 => J' (t8, l9)) who0 ((List.replicate many1.toNat (str [])).length : Int) x.1 x.2) n ((0 : Int), (List.replicate many1.toNat (str []))))))
def impl_DoBill_1 (n : Nat) (a0 : SBill) (b1 : SBill) : Option Int :=
  some ((w64 (a0.Id - b1.Id)))
def slices_SortFunc_impl_Bill_impl_Bill__impl_DoBill_1 (n : Nat) (l0 : List SBill) : Option (List SBill) :=
  sortL dSBill (fun a b => impl_DoBill_1 n a b) l0
def slices_Index_int_int_L2 {R : Type} (n : Nat) (kx0 : Option R) (kxr : Int → Option R) (J : Int → Option R) (s1 : List Int) (v2 : Int) (t3 : Int) (t4 : Int) : Option R :=
  (bif (decide (t4 < t3)) then ix t4 s1.length ((bif (decide (v2 = (s1.getD t4.toNat (0 : Int)))) then kxr t4 else J (w64 (t4 + (1 : Int))))) else kx0)
def slices_Index_int_int (n : Nat) (s0 : List Int) (v1 : Int) : Option Int :=
  loopN (fun (x : Int) J' => slices_Index_int_int_L2 n (some ((-1 : Int))) (fun t8 => some (t8)) J' s0 v1 (s0.length : Int) x) n ((0 : Int))
def slices_Contains_int_int (n : Nat) (s0 : List Int) (v1 : Int) : Option Bool :=
  (slices_Index_int_int n s0 v1).bind fun r1 => some ((decide (r1 ≥ (0 : Int))))
def slices_Index_string_string_L2 {R : Type} (n : Nat) (kx0 : Option R) (kxr : Int → Option R) (J : Int → Option R) (s1 : List ByteArray) (v2 : ByteArray) (t3 : Int) (t4 : Int) : Option R :=
  (bif (decide (t4 < t3)) then ix t4 s1.length ((bif (decide (v2 = (s1.getD t4.toNat (str [])))) then kxr t4 else J (w64 (t4 + (1 : Int))))) else kx0)
def slices_Index_string_string (n : Nat) (s0 : List ByteArray) (v1 : ByteArray) : Option Int :=
  loopN (fun (x : Int) J' => slices_Index_string_string_L2 n (some ((-1 : Int))) (fun t8 => some (t8)) J' s0 v1 (s0.length : Int) x) n ((0 : Int))
def slices_Contains_string_string (n : Nat) (s0 : List ByteArray) (v1 : ByteArray) : Option Bool :=
  (slices_Index_string_string n s0 v1).bind fun r1 => some ((decide (r1 ≥ (0 : Int))))
def slices_Sort_int_int (n : Nat) (l0 : List Int) : Option (List Int) :=
  sortIO l0
def impl_DoBill_2 (n : Nat) (s0 : ByteArray) (a1 : SBillOp) : Option Bool :=
  some ((!(decide (s0 = a1.Who))))
def slices_IndexFunc_string_string__impl_DoBill_2_L2 {R : Type} (n : Nat) (kx0 : Option R) (kxr : Int → Option R) (J : Int → Option R) (s1 : List ByteArray) (f2 : SBillOp) (t3 : Int) (t4 : Int) : Option R :=
  (bif (decide (t4 < t3)) then ix t4 s1.length ((impl_DoBill_2 n (s1.getD t4.toNat (str [])) f2).bind fun r8 => (bif r8 then kxr t4 else J (w64 (t4 + (1 : Int))))) else kx0)
def slices_IndexFunc_string_string__impl_DoBill_2 (n : Nat) (s0 : List ByteArray) (f1c0 : SBillOp) : Option Int :=
  loopN (fun (x : Int) J' => slices_IndexFunc_string_string__impl_DoBill_2_L2 n (some ((-1 : Int))) (fun t10 => some (t10)) J' s0 f1c0 (s0.length : Int) x) n ((0 : Int))
def slices_ContainsFunc_string_string__impl_DoBill_2 (n : Nat) (s0 : List ByteArray) (f1c0 : SBillOp) : Option Bool :=
  (slices_IndexFunc_string_string__impl_DoBill_2 n s0 f1c0).bind fun r1 => some ((decide (r1 ≥ (0 : Int))))
def impl_DoBill_k0 (n : Nat)  (op1 : SBillOp) (t39 : List SBill) (t40 : List Int) : Option (SBook × Int) :=
  (impl_heldBy n op1.Who op1.Many).bind fun r41 => (bd (t39 ++ [(⟨op1.Id, op1.Who, op1.To, op1.Many, r41⟩ : SBill)]) fun (l42 : List SBill) => chk (decide (l42.length * 72 ≤ 140737488355328)) ((slices_SortFunc_impl_Bill_impl_Bill__impl_DoBill_1 n l42).bind fun r43 => (impl_Book_own n (⟨r43, t40⟩ : SBook)).bind fun r44 => some (r44, (0 : Int))))
def impl_DoBill_k1 (n : Nat)  (bill75 : Nat) (op1 : SBillOp) (t76 : List SBill) (t77 : List Int) : Option (SBook × Int) :=
  (bif (decide (op1.Kind = (2 : Int))) then chk (decide (bill75 < t76.length)) ((bd (t76.getD bill75 dSBill) fun (e78 : SBill) => (bd (t76.set bill75 (⟨e78.Id, e78.Shipper, op1.To, e78.Many, e78.Held⟩ : SBill)) fun (l79 : List SBill) => (impl_Book_own n (⟨l79, t77⟩ : SBook)).bind fun r83 => some (r83, (0 : Int))))) else (bif (decide (op1.Kind = (3 : Int))) then chk (decide (bill75 < t76.length)) (chk (decide (bill75 < t76.length)) (ix op1.Number (((t76.getD bill75 dSBill).Held).length) (chk (decide (bill75 < t76.length)) (chk (decide (op1.Number.toNat < ((t76.getD bill75 dSBill).Held).length)) ((bd (t76.set bill75 (⟨(t76.getD bill75 dSBill).Id, (t76.getD bill75 dSBill).Shipper, (t76.getD bill75 dSBill).Order, (t76.getD bill75 dSBill).Many, (((t76.getD bill75 dSBill).Held).set op1.Number.toNat op1.To)⟩ : SBill)) fun (l84 : List SBill) => (impl_Book_own n (⟨l84, t77⟩ : SBook)).bind fun r87 => some (r87, (0 : Int)))))))) else (bif (decide (op1.Kind = (4 : Int))) then chk (decide (bill75 < t76.length)) ((impl_heldBy n (str []) ((t76.getD bill75 dSBill).Many)).bind fun r88 => chk (decide (bill75 < t76.length)) ((bd (t76.getD bill75 dSBill) fun (e89 : SBill) => (bd (t76.set bill75 (⟨e89.Id, e89.Shipper, e89.Order, e89.Many, r88⟩ : SBill)) fun (l90 : List SBill) => chk (decide ((t77 ++ [op1.Id]).length * 8 ≤ 140737488355328)) ((slices_Sort_int_int n (t77 ++ [op1.Id])).bind fun r91 => (impl_Book_own n (⟨l90, r91⟩ : SBook)).bind fun r95 => some (r95, (0 : Int))))))) else (bif (decide (op1.Kind = (5 : Int))) then (impl_heldBy n op1.Who op1.Many).bind fun r96 => chk (decide (bill75 < t76.length)) ((bd (t76.getD bill75 dSBill) fun (e97 : SBill) => (bd (t76.set bill75 (⟨e97.Id, e97.Shipper, e97.Order, op1.Many, e97.Held⟩ : SBill)) fun (l98 : List SBill) => chk (decide (bill75 < l98.length)) ((bd (l98.getD bill75 dSBill) fun (e99 : SBill) => (bd (l98.set bill75 (⟨e99.Id, e99.Shipper, e99.Order, e99.Many, r96⟩ : SBill)) fun (l100 : List SBill) => (impl_Book_own n (⟨l100, t77⟩ : SBook)).bind fun r104 => some (r104, (0 : Int)))))))) else (impl_Book_own n (⟨t76, t77⟩ : SBook)).bind fun r107 => some (r107, (0 : Int))))))
def impl_DoBill_k2 (n : Nat)  (bill58 : Nat) (op1 : SBillOp) (t59 : List SBill) (t60 : List Int) (t61 : List SBill) (t62 : List Int) : Option (SBook × Int) :=
  (bif (decide (op1.Kind = (2 : Int))) then chk (decide (bill58 < t61.length)) ((bif (!(decide ((t61.getD bill58 dSBill).Order = op1.Who))) then chk (decide (bill58 < t61.length)) ((bif (!(decide ((t61.getD bill58 dSBill).Order = str []))) then some ((⟨t59, t60⟩ : SBook), (5 : Int)) else chk (decide (bill58 < t61.length)) (chk (decide (bill58 < t61.length)) ((slices_Contains_string_string n ((t61.getD bill58 dSBill).Held) op1.Who).bind fun r68 => (bif (!r68) then some ((⟨t59, t60⟩ : SBook), (5 : Int)) else impl_DoBill_k1 n  bill58 op1 t61 t62))))) else impl_DoBill_k1 n  bill58 op1 t61 t62)) else (bif (decide (op1.Kind = (3 : Int))) then chk (decide (bill58 < t61.length)) (chk (decide (bill58 < t61.length)) (ix op1.Number (((t61.getD bill58 dSBill).Held).length) (chk (decide (bill58 < t61.length)) (chk (decide (op1.Number.toNat < ((t61.getD bill58 dSBill).Held).length)) ((bif (!(decide ((((t61.getD bill58 dSBill).Held).getD op1.Number.toNat (str [])) = op1.Who))) then some ((⟨t59, t60⟩ : SBook), (5 : Int)) else impl_DoBill_k1 n  bill58 op1 t61 t62)))))) else (bif (decide (op1.Kind = (4 : Int))) then chk (decide (bill58 < t61.length)) (chk (decide (bill58 < t61.length)) (ix op1.Number (((t61.getD bill58 dSBill).Held).length) (chk (decide (bill58 < t61.length)) (chk (decide (op1.Number.toNat < ((t61.getD bill58 dSBill).Held).length)) ((bif (!(decide ((((t61.getD bill58 dSBill).Held).getD op1.Number.toNat (str [])) = op1.Who))) then some ((⟨t59, t60⟩ : SBook), (5 : Int)) else chk (decide (bill58 < t61.length)) ((bif (!(decide ((t61.getD bill58 dSBill).Order = str []))) then chk (decide (bill58 < t61.length)) ((bif (!(decide ((t61.getD bill58 dSBill).Order = op1.Who))) then some ((⟨t59, t60⟩ : SBook), (5 : Int)) else impl_DoBill_k1 n  bill58 op1 t61 t62)) else impl_DoBill_k1 n  bill58 op1 t61 t62)))))))) else (bif (decide (op1.Kind = (5 : Int))) then chk (decide (bill58 < t61.length)) (chk (decide (bill58 < t61.length)) ((slices_ContainsFunc_string_string__impl_DoBill_2 n ((t61.getD bill58 dSBill).Held) op1).bind fun r153 => (bif r153 then some ((⟨t59, t60⟩ : SBook), (5 : Int)) else impl_DoBill_k1 n  bill58 op1 t61 t62))) else impl_DoBill_k1 n  bill58 op1 t61 t62))))
def impl_DoBill_k3 (n : Nat)  (bill173 : Nat) (number174 : Bool) (op1 : SBillOp) (t175 : List SBill) (t176 : List Int) (t177 : List SBill) (t178 : List Int) : Option (SBook × Int) :=
  (bif number174 then (bif (decide (op1.Kind = (2 : Int))) then chk (decide (bill173 < t177.length)) ((bif (!(decide ((t177.getD bill173 dSBill).Order = op1.Who))) then chk (decide (bill173 < t177.length)) ((bif (!(decide ((t177.getD bill173 dSBill).Order = str []))) then some ((⟨t175, t176⟩ : SBook), (5 : Int)) else chk (decide (bill173 < t177.length)) (chk (decide (bill173 < t177.length)) ((slices_Contains_string_string n ((t177.getD bill173 dSBill).Held) op1.Who).bind fun r184 => (bif (!r184) then some ((⟨t175, t176⟩ : SBook), (5 : Int)) else impl_DoBill_k1 n  bill173 op1 t177 t178))))) else impl_DoBill_k1 n  bill173 op1 t177 t178)) else (bif (decide (op1.Kind = (3 : Int))) then chk (decide (bill173 < t177.length)) (chk (decide (bill173 < t177.length)) (ix op1.Number (((t177.getD bill173 dSBill).Held).length) (chk (decide (bill173 < t177.length)) (chk (decide (op1.Number.toNat < ((t177.getD bill173 dSBill).Held).length)) ((bif (!(decide ((((t177.getD bill173 dSBill).Held).getD op1.Number.toNat (str [])) = op1.Who))) then some ((⟨t175, t176⟩ : SBook), (5 : Int)) else impl_DoBill_k1 n  bill173 op1 t177 t178)))))) else (bif (decide (op1.Kind = (4 : Int))) then chk (decide (bill173 < t177.length)) (chk (decide (bill173 < t177.length)) (ix op1.Number (((t177.getD bill173 dSBill).Held).length) (chk (decide (bill173 < t177.length)) (chk (decide (op1.Number.toNat < ((t177.getD bill173 dSBill).Held).length)) ((bif (!(decide ((((t177.getD bill173 dSBill).Held).getD op1.Number.toNat (str [])) = op1.Who))) then some ((⟨t175, t176⟩ : SBook), (5 : Int)) else chk (decide (bill173 < t177.length)) ((bif (!(decide ((t177.getD bill173 dSBill).Order = str []))) then chk (decide (bill173 < t177.length)) ((bif (!(decide ((t177.getD bill173 dSBill).Order = op1.Who))) then some ((⟨t175, t176⟩ : SBook), (5 : Int)) else impl_DoBill_k1 n  bill173 op1 t177 t178)) else impl_DoBill_k1 n  bill173 op1 t177 t178)))))))) else (bif (decide (op1.Kind = (5 : Int))) then chk (decide (bill173 < t177.length)) (chk (decide (bill173 < t177.length)) ((slices_ContainsFunc_string_string__impl_DoBill_2 n ((t177.getD bill173 dSBill).Held) op1).bind fun r233 => (bif r233 then some ((⟨t175, t176⟩ : SBook), (5 : Int)) else impl_DoBill_k1 n  bill173 op1 t177 t178))) else (bif (!number174) then some ((⟨t175, t176⟩ : SBook), (5 : Int)) else impl_DoBill_k1 n  bill173 op1 t177 t178))))) else (bif (!number174) then some ((⟨t175, t176⟩ : SBook), (5 : Int)) else impl_DoBill_k1 n  bill173 op1 t177 t178))
def impl_DoBill_k4 (n : Nat)  (i53 : Int) (op1 : SBillOp) (t54 : List SBill) (t55 : List Int) (t56 : List SBill) (t57 : List Int) : Option (SBook × Int) :=
  ix i53 t56.length ((bif (!(decide (op1.Kind = (3 : Int)))) then (bif (!(decide (op1.Kind = (4 : Int)))) then impl_DoBill_k2 n  i53.toNat op1 t54 t55 t56 t57 else chk (decide (i53.toNat < t56.length)) ((bd (w64 ((t56.getD i53.toNat dSBill).Many - (1 : Int))) fun (v171 : Int) => (impl_in n op1.Number (0 : Int) v171).bind fun r172 => impl_DoBill_k3 n  i53.toNat r172 op1 t54 t55 t56 t57))) else chk (decide (i53.toNat < t56.length)) ((bd (w64 ((t56.getD i53.toNat dSBill).Many - (1 : Int))) fun (v261 : Int) => (impl_in n op1.Number (0 : Int) v261).bind fun r262 => impl_DoBill_k3 n  i53.toNat r262 op1 t54 t55 t56 t57))))
def impl_DoBill_k5 (n : Nat)  (b0 : SBook) (op1 : SBillOp) (t26 : List SBill) (t27 : List Int) : Option (SBook × Int) :=
  (impl_Book_own n b0).bind fun r28 => (impl_Book_at n r28 op1.Id).bind fun r29 => (bif (decide (op1.Kind = (1 : Int))) then (bif (decide (r29 ≥ (0 : Int))) then some ((⟨t26, t27⟩ : SBook), (2 : Int)) else (bif (decide ((r28.Bills.length : Int) = (30 : Int))) then some ((⟨t26, t27⟩ : SBook), (2 : Int)) else impl_DoBill_k0 n  op1 r28.Bills r28.Freed)) else (bif (decide (r29 < (0 : Int))) then some ((⟨t26, t27⟩ : SBook), (3 : Int)) else (slices_Contains_int_int n r28.Freed op1.Id).bind fun r269 => (bif r269 then some ((⟨t26, t27⟩ : SBook), (4 : Int)) else impl_DoBill_k4 n  r29 op1 t26 t27 r28.Bills r28.Freed)))
def impl_DoBill_k6 (n : Nat)  (to5 : Bool) (b0 : SBook) (op1 : SBillOp) (t6 : List SBill) (t7 : List Int) : Option (SBook × Int) :=
  (impl_BookOk n b0).bind fun r8 => (bif (!r8) then some ((⟨t6, t7⟩ : SBook), (1 : Int)) else (impl_in n op1.Kind (1 : Int) (5 : Int)).bind fun r11 => (bif (!r11) then some ((⟨t6, t7⟩ : SBook), (1 : Int)) else (impl_idRight n op1.Id).bind fun r14 => (bif (!r14) then some ((⟨t6, t7⟩ : SBook), (1 : Int)) else (impl_nameOk n op1.Who).bind fun r17 => (bif (!r17) then some ((⟨t6, t7⟩ : SBook), (1 : Int)) else (bif (!to5) then some ((⟨t6, t7⟩ : SBook), (1 : Int)) else (impl_in n op1.Many (1 : Int) (5 : Int)).bind fun r22 => (bif (!r22) then some ((⟨t6, t7⟩ : SBook), (1 : Int)) else impl_DoBill_k5 n  b0 op1 t6 t7))))))
def impl_DoBill_k7 (n : Nat)  (b0 : SBook) (op1 : SBillOp) (t294 : List SBill) (t295 : List Int) : Option (SBook × Int) :=
  (impl_BookOk n b0).bind fun r296 => (bif (!r296) then some ((⟨t294, t295⟩ : SBook), (1 : Int)) else (impl_in n op1.Kind (1 : Int) (5 : Int)).bind fun r299 => (bif (!r299) then some ((⟨t294, t295⟩ : SBook), (1 : Int)) else (impl_idRight n op1.Id).bind fun r302 => (bif (!r302) then some ((⟨t294, t295⟩ : SBook), (1 : Int)) else (impl_nameOk n op1.Who).bind fun r305 => (bif (!r305) then some ((⟨t294, t295⟩ : SBook), (1 : Int)) else (impl_in n op1.Many (1 : Int) (5 : Int)).bind fun r308 => (bif (!r308) then some ((⟨t294, t295⟩ : SBook), (1 : Int)) else impl_DoBill_k5 n  b0 op1 t294 t295)))))
def impl_DoBill_k8 (n : Nat)  (b0 : SBook) (op1 : SBillOp) (t2 : List SBill) (t3 : List Int) : Option (SBook × Int) :=
  (bif (decide (op1.Kind = (3 : Int))) then (impl_nameOk n op1.To).bind fun r4 => impl_DoBill_k6 n  r4 b0 op1 t2 t3 else (bif (decide (op1.Kind = (1 : Int))) then (impl_emptyOrName n op1.To).bind fun r283 => impl_DoBill_k6 n  r283 b0 op1 t2 t3 else (bif (decide (op1.Kind = (2 : Int))) then (impl_emptyOrName n op1.To).bind fun r314 => impl_DoBill_k6 n  r314 b0 op1 t2 t3 else impl_DoBill_k7 n  b0 op1 t2 t3)))
def impl_DoBill_k9 (n : Nat)  (makes324 : Bool) (to325 : Bool) (b0 : SBook) (op1 : SBillOp) (t326 : List SBill) (t327 : List Int) : Option (SBook × Int) :=
  (impl_BookOk n b0).bind fun r328 => (bif (!r328) then some ((⟨t326, t327⟩ : SBook), (1 : Int)) else (impl_in n op1.Kind (1 : Int) (5 : Int)).bind fun r331 => (bif (!r331) then some ((⟨t326, t327⟩ : SBook), (1 : Int)) else (impl_idRight n op1.Id).bind fun r334 => (bif (!r334) then some ((⟨t326, t327⟩ : SBook), (1 : Int)) else (impl_nameOk n op1.Who).bind fun r337 => (bif (!r337) then some ((⟨t326, t327⟩ : SBook), (1 : Int)) else (bif (!to325) then some ((⟨t326, t327⟩ : SBook), (1 : Int)) else (bif makes324 then (impl_in n op1.Many (1 : Int) (5 : Int)).bind fun r342 => (bif (!r342) then some ((⟨t326, t327⟩ : SBook), (1 : Int)) else impl_DoBill_k5 n  b0 op1 t326 t327) else impl_DoBill_k5 n  b0 op1 t326 t327))))))
def impl_DoBill_k10 (n : Nat)  (makes376 : Bool) (b0 : SBook) (op1 : SBillOp) (t377 : List SBill) (t378 : List Int) : Option (SBook × Int) :=
  (impl_BookOk n b0).bind fun r379 => (bif (!r379) then some ((⟨t377, t378⟩ : SBook), (1 : Int)) else (impl_in n op1.Kind (1 : Int) (5 : Int)).bind fun r382 => (bif (!r382) then some ((⟨t377, t378⟩ : SBook), (1 : Int)) else (impl_idRight n op1.Id).bind fun r385 => (bif (!r385) then some ((⟨t377, t378⟩ : SBook), (1 : Int)) else (impl_nameOk n op1.Who).bind fun r388 => (bif (!r388) then some ((⟨t377, t378⟩ : SBook), (1 : Int)) else (bif makes376 then (impl_in n op1.Many (1 : Int) (5 : Int)).bind fun r391 => (bif (!r391) then some ((⟨t377, t378⟩ : SBook), (1 : Int)) else impl_DoBill_k5 n  b0 op1 t377 t378) else impl_DoBill_k5 n  b0 op1 t377 t378)))))
def impl_DoBill_k11 (n : Nat)  (makes320 : Bool) (b0 : SBook) (op1 : SBillOp) (t321 : List SBill) (t322 : List Int) : Option (SBook × Int) :=
  (bif (decide (op1.Kind = (3 : Int))) then (impl_nameOk n op1.To).bind fun r323 => impl_DoBill_k9 n  makes320 r323 b0 op1 t321 t322 else (bif (decide (op1.Kind = (1 : Int))) then (impl_emptyOrName n op1.To).bind fun r362 => impl_DoBill_k9 n  makes320 r362 b0 op1 t321 t322 else (bif (decide (op1.Kind = (2 : Int))) then (impl_emptyOrName n op1.To).bind fun r401 => impl_DoBill_k9 n  makes320 r401 b0 op1 t321 t322 else impl_DoBill_k10 n  makes320 b0 op1 t321 t322)))
def impl_DoBill (n : Nat) (b0 : SBook) (op1 : SBillOp) : Option (SBook × Int) :=
  (impl_Book_own n b0).bind fun r1 => (bif (decide (op1.Kind = (1 : Int))) then impl_DoBill_k8 n  b0 op1 r1.Bills r1.Freed else impl_DoBill_k11 n  (decide (op1.Kind = (5 : Int))) b0 op1 r1.Bills r1.Freed)
def impl_RunBills_k0 {R : Type} (n : Nat) (kx0 : List SBill → List Int → List Int → Option R) (J : Int → List SBill → List Int → List Int → Option R) (t4 : List SBillOp) (t5 : Int) (t12 : Int) (c13 : List SBill) (c14 : List Int) (c9 : List SBill) (c10 : List Int) (codes15 : List Int) : Option R :=
  ix t12 t4.length ((bd (t4.getD t12.toNat dSBillOp) fun (e16 : SBillOp) => (impl_DoBill n (⟨c13, c14⟩ : SBook) e16).bind fun r17 => chk (decide ((codes15 ++ [r17.2]).length * 8 ≤ 140737488355328)) (J (w64 (t12 + (1 : Int))) r17.1.Bills r17.1.Freed (codes15 ++ [r17.2]))))
def impl_RunBills_L6 {R : Type} (n : Nat) (kx0 : List SBill → List Int → List Int → Option R) (J : Int → List SBill → List Int → List Int → Option R) (t4 : List SBillOp) (t5 : Int) (t6 : Int) (c7 : List SBill) (c8 : List Int) (c9 : List SBill) (c10 : List Int) (codes11 : List Int) : Option R :=
  (bif (decide (t6 < t5)) then impl_RunBills_k0 n kx0 J t4 t5 t6 c7 c8 c9 c10 codes11 else kx0 c7 c8 codes11)
def impl_RunBills_k1 (n : Nat)  (ops1 : List SBillOp) (t2 : List SBill) (t3 : List Int) : Option (SBook × List Int) :=
  loopN (fun (x : Int × List SBill × List Int × List Int) J' => impl_RunBills_L6 n (fun c18 c19 codes20 => (impl_own_int n codes20).bind fun r21 => some ((⟨c18, c19⟩ : SBook), r21)) (fun t22 c23 c24 codes25 => J' (t22, c23, c24, codes25)) ops1 (ops1.length : Int) x.1 x.2.1 x.2.2.1 [] [] x.2.2.2) n ((0 : Int), t2, t3, [])
def impl_RunBills (n : Nat) (b0 : SBook) (ops1 : List SBillOp) : Option (SBook × List Int) :=
  (impl_Book_own n b0).bind fun r1 => (bif (decide ((ops1.length : Int) > (200 : Int))) then some (r1, []) else impl_RunBills_k1 n  ops1 r1.Bills r1.Freed)
def laws_eqStringS_L4 {R : Type} (n : Nat) (kx0 : Option R) (kxr : Bool → Option R) (J : Int → Option R) (a1 : List ByteArray) (b2 : List ByteArray) (i3 : Int) : Option R :=
  (bif (decide (i3 < (a1.length : Int))) then ix i3 a1.length (ix i3 b2.length ((bif (!(decide ((a1.getD i3.toNat (str [])) = (b2.getD i3.toNat (str []))))) then kxr false else J (w64 (i3 + (1 : Int)))))) else kx0)
def laws_eqStringS (n : Nat) (a0 : List ByteArray) (b1 : List ByteArray) : Option Bool :=
  (bif (!(decide ((a0.length : Int) = (b1.length : Int)))) then some (false) else loopN (fun (x : Int) J' => laws_eqStringS_L4 n (some (true)) (fun t9 => some (t9)) J' a0 b1 x) n ((0 : Int)))
def laws_eqBill_k0 (n : Nat)  (a0 : SBill) (b1 : SBill) : Option Bool :=
  (bif (!(decide (a0.Shipper = b1.Shipper))) then some (false) else (bif (!(decide (a0.Order = b1.Order))) then some (false) else (bif (!(decide (a0.Many = b1.Many))) then some (false) else (laws_eqStringS n a0.Held b1.Held).bind fun r4 => (bif (!r4) then some (false) else some (true)))))
def laws_eqBill (n : Nat) (a0 : SBill) (b1 : SBill) : Option Bool :=
  (bif (!(decide (a0.Id = b1.Id))) then some (false) else laws_eqBill_k0 n  a0 b1)
def laws_eqBillS_L4 {R : Type} (n : Nat) (kx0 : Option R) (kxr : Bool → Option R) (J : Int → Option R) (a1 : List SBill) (b2 : List SBill) (i3 : Int) : Option R :=
  (bif (decide (i3 < (a1.length : Int))) then ix i3 a1.length ((bd (a1.getD i3.toNat dSBill) fun (e9 : SBill) => ix i3 b2.length ((bd (b2.getD i3.toNat dSBill) fun (e10 : SBill) => (laws_eqBill n e9 e10).bind fun r11 => (bif (!r11) then kxr false else J (w64 (i3 + (1 : Int)))))))) else kx0)
def laws_eqBillS (n : Nat) (a0 : List SBill) (b1 : List SBill) : Option Bool :=
  (bif (!(decide ((a0.length : Int) = (b1.length : Int)))) then some (false) else loopN (fun (x : Int) J' => laws_eqBillS_L4 n (some (true)) (fun t15 => some (t15)) J' a0 b1 x) n ((0 : Int)))
def laws_eqIntS_L4 {R : Type} (n : Nat) (kx0 : Option R) (kxr : Bool → Option R) (J : Int → Option R) (a1 : List Int) (b2 : List Int) (i3 : Int) : Option R :=
  (bif (decide (i3 < (a1.length : Int))) then ix i3 a1.length (ix i3 b2.length ((bif (!(decide ((a1.getD i3.toNat (0 : Int)) = (b2.getD i3.toNat (0 : Int))))) then kxr false else J (w64 (i3 + (1 : Int)))))) else kx0)
def laws_eqIntS (n : Nat) (a0 : List Int) (b1 : List Int) : Option Bool :=
  (bif (!(decide ((a0.length : Int) = (b1.length : Int)))) then some (false) else loopN (fun (x : Int) J' => laws_eqIntS_L4 n (some (true)) (fun t9 => some (t9)) J' a0 b1 x) n ((0 : Int)))
def laws_eqBook (n : Nat) (a0 : SBook) (b1 : SBook) : Option Bool :=
  (laws_eqBillS n a0.Bills b1.Bills).bind fun r1 => (bif (!r1) then some (false) else (laws_eqIntS n a0.Freed b1.Freed).bind fun r3 => (bif (!r3) then some (false) else some (true)))
def laws_eqBillOp_k0 (n : Nat)  (a0 : SBillOp) (b1 : SBillOp) : Option Bool :=
  (bif (!(decide (a0.Id = b1.Id))) then some (false) else (bif (!(decide (a0.Who = b1.Who))) then some (false) else (bif (!(decide (a0.To = b1.To))) then some (false) else (bif (!(decide (a0.Number = b1.Number))) then some (false) else (bif (!(decide (a0.Many = b1.Many))) then some (false) else some (true))))))
def laws_eqBillOp (n : Nat) (a0 : SBillOp) (b1 : SBillOp) : Option Bool :=
  (bif (!(decide (a0.Kind = b1.Kind))) then some (false) else laws_eqBillOp_k0 n  a0 b1)
def laws_eqBillOpS_L4 {R : Type} (n : Nat) (kx0 : Option R) (kxr : Bool → Option R) (J : Int → Option R) (a1 : List SBillOp) (b2 : List SBillOp) (i3 : Int) : Option R :=
  (bif (decide (i3 < (a1.length : Int))) then ix i3 a1.length ((bd (a1.getD i3.toNat dSBillOp) fun (e9 : SBillOp) => ix i3 b2.length ((bd (b2.getD i3.toNat dSBillOp) fun (e10 : SBillOp) => (laws_eqBillOp n e9 e10).bind fun r11 => (bif (!r11) then kxr false else J (w64 (i3 + (1 : Int)))))))) else kx0)
def laws_eqBillOpS (n : Nat) (a0 : List SBillOp) (b1 : List SBillOp) : Option Bool :=
  (bif (!(decide ((a0.length : Int) = (b1.length : Int)))) then some (false) else loopN (fun (x : Int) J' => laws_eqBillOpS_L4 n (some (true)) (fun t15 => some (t15)) J' a0 b1 x) n ((0 : Int)))
def laws_markText_L4 {R : Type} (n : Nat) (kx0 : ByteArray → Option R) (J : Int → ByteArray → Option R) (k2 : Int) (out3 : ByteArray) : Option R :=
  (bif (decide (k2 > (0 : Int))) then (bd (w64 ((48 : Int) + (Int.tmod k2 (10 : Int)))) fun (v8 : Int) => chk (decide ((((bstr [(wu8 v8)]).size + out3.size : Nat) : Int) ≤ 9223372036854775807)) ((bd (w64 (Int.tdiv k2 (10 : Int))) fun (v9 : Int) => J v9 ((bstr [(wu8 v8)]) ++ out3)))) else kx0 out3)
def laws_markText (n : Nat) (k0 : Int) : Option ByteArray :=
  (bif (decide (k0 ≤ (0 : Int))) then some (str [109, 48]) else loopN (fun (x : Int × ByteArray) J' => laws_markText_L4 n (fun out13 => chk (decide ((((str [109]).size + out13.size : Nat) : Int) ≤ 9223372036854775807)) (some ((str [109] ++ out13)))) (fun k14 out15 => J' (k14, out15)) x.1 x.2) n (k0, str []))
def laws_markStringS_L2 {R : Type} (n : Nat) (kx0 : Int → List ByteArray → Option R) (J : Int → Int → List ByteArray → Option R) (k1 : Int) (i2 : Int) (p3 : List ByteArray) : Option R :=
  (bif (decide (i2 < (p3.length : Int))) then (laws_markText n k1).bind fun r8 => ix i2 p3.length (chk (decide (i2.toNat < p3.length)) (J (w64 (k1 + (1 : Int))) (w64 (i2 + (1 : Int))) (p3.set i2.toNat r8))) else kx0 k1 p3)
def laws_markStringS (n : Nat) (a0 : List ByteArray) (k1 : Int) : Option (Int × List ByteArray) :=
  loopN (fun (x : Int × Int × List ByteArray) J' => laws_markStringS_L2 n (fun k9 p10 => some (k9, p10)) (fun k11 i12 p13 => J' (k11, i12, p13)) x.1 x.2.1 x.2.2) n (k1, (0 : Int), a0)
def laws_markBillS_k0 {R : Type} (n : Nat) (kx0 : Int → List SBill → Option R) (J : Int → Int → List SBill → Option R) (k4 : Int) (i5 : Int) (p6 : List SBill) : Option R :=
  ix i5 p6.length (chk (decide (i5.toNat < p6.length)) ((bd (p6.getD i5.toNat dSBill) fun (e7 : SBill) => (bd (p6.set i5.toNat (⟨k4, e7.Shipper, e7.Order, e7.Many, e7.Held⟩ : SBill)) fun (l8 : List SBill) => (laws_markText n (w64 (k4 + (1 : Int)))).bind fun r9 => ix i5 l8.length (chk (decide (i5.toNat < l8.length)) ((bd (l8.getD i5.toNat dSBill) fun (e10 : SBill) => (bd (l8.set i5.toNat (⟨e10.Id, r9, e10.Order, e10.Many, e10.Held⟩ : SBill)) fun (l11 : List SBill) => (bd (w64 ((w64 (k4 + (1 : Int))) + (1 : Int))) fun (v12 : Int) => (laws_markText n v12).bind fun r13 => ix i5 l11.length (chk (decide (i5.toNat < l11.length)) ((bd (l11.getD i5.toNat dSBill) fun (e14 : SBill) => (bd (l11.set i5.toNat (⟨e14.Id, e14.Shipper, r13, e14.Many, e14.Held⟩ : SBill)) fun (l15 : List SBill) => ix i5 l15.length (chk (decide (i5.toNat < l15.length)) ((bd (l15.getD i5.toNat dSBill) fun (e16 : SBill) => (bd (l15.set i5.toNat (⟨e16.Id, e16.Shipper, e16.Order, (w64 (v12 + (1 : Int))), e16.Held⟩ : SBill)) fun (l17 : List SBill) => (bd (w64 ((w64 (v12 + (1 : Int))) + (1 : Int))) fun (v18 : Int) => ix i5 l17.length (chk (decide (i5.toNat < l17.length)) (chk (decide (i5.toNat < l17.length)) ((laws_markStringS n ((l17.getD i5.toNat dSBill).Held) v18).bind fun r19 => chk (decide (i5.toNat = i5.toNat)) (chk (decide (i5.toNat < l17.length)) ((bd (l17.getD i5.toNat dSBill) fun (e20 : SBill) => (bd (l17.set i5.toNat (⟨e20.Id, e20.Shipper, e20.Order, e20.Many, r19.2⟩ : SBill)) fun (l21 : List SBill) => J r19.1 (w64 (i5 + (1 : Int))) l21)))))))))))))))))))))))))
def laws_markBillS_L2 {R : Type} (n : Nat) (kx0 : Int → List SBill → Option R) (J : Int → Int → List SBill → Option R) (k1 : Int) (i2 : Int) (p3 : List SBill) : Option R :=
  (bif (decide (i2 < (p3.length : Int))) then laws_markBillS_k0 n kx0 J k1 i2 p3 else kx0 k1 p3)
def laws_markBillS (n : Nat) (a0 : List SBill) (k1 : Int) : Option (Int × List SBill) :=
  loopN (fun (x : Int × Int × List SBill) J' => laws_markBillS_L2 n (fun k22 p23 => some (k22, p23)) (fun k24 i25 p26 => J' (k24, i25, p26)) x.1 x.2.1 x.2.2) n (k1, (0 : Int), a0)
def laws_markIntS_L2 {R : Type} (n : Nat) (kx0 : Int → List Int → Option R) (J : Int → Int → List Int → Option R) (k1 : Int) (i2 : Int) (p3 : List Int) : Option R :=
  (bif (decide (i2 < (p3.length : Int))) then ix i2 p3.length (chk (decide (i2.toNat < p3.length)) (J (w64 (k1 + (1 : Int))) (w64 (i2 + (1 : Int))) (p3.set i2.toNat k1))) else kx0 k1 p3)
def laws_markIntS (n : Nat) (a0 : List Int) (k1 : Int) : Option (Int × List Int) :=
  loopN (fun (x : Int × Int × List Int) J' => laws_markIntS_L2 n (fun k7 p8 => some (k7, p8)) (fun k9 i10 p11 => J' (k9, i10, p11)) x.1 x.2.1 x.2.2) n (k1, (0 : Int), a0)
def laws_markBook (n : Nat) (a0 : SBook) (k1 : Int) : Option (Int × List SBill × List Int) :=
  (laws_markBillS n a0.Bills k1).bind fun r1 => (laws_markIntS n a0.Freed r1.1).bind fun r2 => some (r2.1, r1.2, r2.2)
def laws_markBillOpS_k0 {R : Type} (n : Nat) (kx0 : Int → List SBillOp → Option R) (J : Int → Int → List SBillOp → Option R) (k4 : Int) (i5 : Int) (p6 : List SBillOp) : Option R :=
  ix i5 p6.length (chk (decide (i5.toNat < p6.length)) ((bd (p6.getD i5.toNat dSBillOp) fun (e7 : SBillOp) => (bd (p6.set i5.toNat (⟨k4, e7.Id, e7.Who, e7.To, e7.Number, e7.Many⟩ : SBillOp)) fun (l8 : List SBillOp) => ix i5 l8.length (chk (decide (i5.toNat < l8.length)) ((bd (l8.getD i5.toNat dSBillOp) fun (e9 : SBillOp) => (bd (l8.set i5.toNat (⟨e9.Kind, (w64 (k4 + (1 : Int))), e9.Who, e9.To, e9.Number, e9.Many⟩ : SBillOp)) fun (l10 : List SBillOp) => (bd (w64 ((w64 (k4 + (1 : Int))) + (1 : Int))) fun (v11 : Int) => (laws_markText n v11).bind fun r12 => ix i5 l10.length (chk (decide (i5.toNat < l10.length)) ((bd (l10.getD i5.toNat dSBillOp) fun (e13 : SBillOp) => (bd (l10.set i5.toNat (⟨e13.Kind, e13.Id, r12, e13.To, e13.Number, e13.Many⟩ : SBillOp)) fun (l14 : List SBillOp) => (laws_markText n (w64 (v11 + (1 : Int)))).bind fun r15 => ix i5 l14.length (chk (decide (i5.toNat < l14.length)) ((bd (l14.getD i5.toNat dSBillOp) fun (e16 : SBillOp) => (bd (l14.set i5.toNat (⟨e16.Kind, e16.Id, e16.Who, r15, e16.Number, e16.Many⟩ : SBillOp)) fun (l17 : List SBillOp) => (bd (w64 ((w64 (v11 + (1 : Int))) + (1 : Int))) fun (v18 : Int) => ix i5 l17.length (chk (decide (i5.toNat < l17.length)) ((bd (l17.getD i5.toNat dSBillOp) fun (e19 : SBillOp) => (bd (l17.set i5.toNat (⟨e19.Kind, e19.Id, e19.Who, e19.To, v18, e19.Many⟩ : SBillOp)) fun (l20 : List SBillOp) => ix i5 l20.length (chk (decide (i5.toNat < l20.length)) ((bd (l20.getD i5.toNat dSBillOp) fun (e21 : SBillOp) => (bd (l20.set i5.toNat (⟨e21.Kind, e21.Id, e21.Who, e21.To, e21.Number, (w64 (v18 + (1 : Int)))⟩ : SBillOp)) fun (l22 : List SBillOp) => (bd (w64 ((w64 (v18 + (1 : Int))) + (1 : Int))) fun (v23 : Int) => J v23 (w64 (i5 + (1 : Int))) l22)))))))))))))))))))))))))))
def laws_markBillOpS_L2 {R : Type} (n : Nat) (kx0 : Int → List SBillOp → Option R) (J : Int → Int → List SBillOp → Option R) (k1 : Int) (i2 : Int) (p3 : List SBillOp) : Option R :=
  (bif (decide (i2 < (p3.length : Int))) then laws_markBillOpS_k0 n kx0 J k1 i2 p3 else kx0 k1 p3)
def laws_markBillOpS (n : Nat) (a0 : List SBillOp) (k1 : Int) : Option (Int × List SBillOp) :=
  loopN (fun (x : Int × Int × List SBillOp) J' => laws_markBillOpS_L2 n (fun k24 p25 => some (k24, p25)) (fun k26 i27 p28 => J' (k26, i27, p28)) x.1 x.2.1 x.2.2) n (k1, (0 : Int), a0)
def laws_heldStringS_L2 {R : Type} (n : Nat) (kx0 : Int → Option R) (kxr : Int → Option R) (J : Int → Int → Option R) (a1 : List ByteArray) (k2 : Int) (i3 : Int) : Option R :=
  (bif (decide (i3 < (a1.length : Int))) then ix i3 a1.length ((laws_markText n k2).bind fun r13 => (bif (!(decide ((a1.getD i3.toNat (str [])) = r13))) then kxr (-1 : Int) else J (w64 (k2 + (1 : Int))) (w64 (i3 + (1 : Int))))) else kx0 k2)
def laws_heldStringS (n : Nat) (a0 : List ByteArray) (k1 : Int) : Option Int :=
  loopN (fun (x : Int × Int) J' => laws_heldStringS_L2 n (fun k18 => some (k18)) (fun t19 => some (t19)) (fun k20 i21 => J' (k20, i21)) a0 x.1 x.2) n (k1, (0 : Int))
def laws_heldBillS_k0 {R : Type} (n : Nat) (kx0 : Int → Option R) (kxr : Int → Option R) (J : Int → Int → Option R) (a1 : List SBill) (k15 : Int) (i16 : Int) : Option R :=
  ix i16 a1.length ((bd (a1.getD i16.toNat dSBill) fun (e17 : SBill) => (bif (!(decide (e17.Many = (w64 (k15 + (1 : Int)))))) then kxr (-1 : Int) else (bd (w64 ((w64 (k15 + (1 : Int))) + (1 : Int))) fun (v24 : Int) => ix i16 a1.length ((bd (a1.getD i16.toNat dSBill) fun (e25 : SBill) => (laws_heldStringS n e25.Held v24).bind fun r26 => (bif (decide (r26 < (0 : Int))) then kxr (-1 : Int) else J r26 (w64 (i16 + (1 : Int))))))))))
def laws_heldBillS_k1 {R : Type} (n : Nat) (kx0 : Int → Option R) (kxr : Int → Option R) (J : Int → Int → Option R) (a1 : List SBill) (k7 : Int) (i8 : Int) : Option R :=
  ix i8 a1.length ((bd (a1.getD i8.toNat dSBill) fun (e9 : SBill) => (laws_markText n (w64 (k7 + (1 : Int)))).bind fun r10 => (bif (!(decide (e9.Shipper = r10))) then kxr (-1 : Int) else (bd (w64 ((w64 (k7 + (1 : Int))) + (1 : Int))) fun (v29 : Int) => ix i8 a1.length ((bd (a1.getD i8.toNat dSBill) fun (e30 : SBill) => (laws_markText n v29).bind fun r31 => (bif (!(decide (e30.Order = r31))) then kxr (-1 : Int) else laws_heldBillS_k0 n kx0 kxr J a1 v29 i8)))))))
def laws_heldBillS_L2 {R : Type} (n : Nat) (kx0 : Int → Option R) (kxr : Int → Option R) (J : Int → Int → Option R) (a1 : List SBill) (k2 : Int) (i3 : Int) : Option R :=
  (bif (decide (i3 < (a1.length : Int))) then ix i3 a1.length ((bd (a1.getD i3.toNat dSBill) fun (e34 : SBill) => (bif (!(decide (e34.Id = k2))) then kxr (-1 : Int) else laws_heldBillS_k1 n kx0 kxr J a1 k2 i3))) else kx0 k2)
def laws_heldBillS (n : Nat) (a0 : List SBill) (k1 : Int) : Option Int :=
  loopN (fun (x : Int × Int) J' => laws_heldBillS_L2 n (fun k37 => some (k37)) (fun t38 => some (t38)) (fun k39 i40 => J' (k39, i40)) a0 x.1 x.2) n (k1, (0 : Int))
def laws_heldIntS_L2 {R : Type} (n : Nat) (kx0 : Int → Option R) (kxr : Int → Option R) (J : Int → Int → Option R) (a1 : List Int) (k2 : Int) (i3 : Int) : Option R :=
  (bif (decide (i3 < (a1.length : Int))) then ix i3 a1.length ((bif (!(decide ((a1.getD i3.toNat (0 : Int)) = k2))) then kxr (-1 : Int) else J (w64 (k2 + (1 : Int))) (w64 (i3 + (1 : Int))))) else kx0 k2)
def laws_heldIntS (n : Nat) (a0 : List Int) (k1 : Int) : Option Int :=
  loopN (fun (x : Int × Int) J' => laws_heldIntS_L2 n (fun k16 => some (k16)) (fun t17 => some (t17)) (fun k18 i19 => J' (k18, i19)) a0 x.1 x.2) n (k1, (0 : Int))
def laws_heldBook (n : Nat) (a0 : SBook) (k1 : Int) : Option Int :=
  (laws_heldBillS n a0.Bills k1).bind fun r1 => (bif (decide (r1 < (0 : Int))) then some ((-1 : Int)) else (laws_heldIntS n a0.Freed r1).bind fun r5 => (bif (decide (r5 < (0 : Int))) then some ((-1 : Int)) else some (r5)))
def laws_FnExactRunBills_k0 (n : Nat)  (m132 : Int) (t133 : List SBill) (t134 : List Int) (t135 : List Int) : Option Bool :=
  (laws_heldBook n (⟨t133, t134⟩ : SBook) (1 : Int)).bind fun r136 => (bif (decide (r136 < (0 : Int))) then some (false) else (laws_heldIntS n t135 r136).bind fun r143 => (bif (decide (r143 < (0 : Int))) then some (false) else (bif (!(decide (r143 = m132))) then some (false) else some (true))))
def laws_FnExactRunBills_k1 (n : Nat)  (aOps1 : List SBillOp) (m111 : Int) (aB0 : SBook) (t112 : List SBill) (t113 : List Int) (t114 : List Int) (t115 : List SBill) (t116 : List Int) (t117 : List Int) : Option Bool :=
  (laws_toBook n aB0).bind fun r118 => (laws_toBillOpS n aOps1).bind fun r119 => (impl_RunBills n r118 r119).bind fun r120 => (laws_eqBook n r120.1 (⟨t112, t113⟩ : SBook)).bind fun r121 => (bif (!r121) then some (false) else (laws_eqIntS n r120.2 t114).bind fun r126 => (bif (!r126) then some (false) else laws_FnExactRunBills_k0 n  m111 t115 t116 t117))
def laws_FnExactRunBills_k2 (n : Nat)  (aOps1 : List SBillOp) (aB0 : SBook) (t85 : List SBill) (t86 : List Int) (t87 : List Int) (t88 : List SBill) (t89 : List Int) (t90 : List Int) : Option Bool :=
  (laws_markBook n (⟨t88, t89⟩ : SBook) (1 : Int)).bind fun r91 => (laws_markIntS n t90 r91.1).bind fun r92 => (laws_heldBook n (⟨r91.2.1, r91.2.2⟩ : SBook) (1 : Int)).bind fun r93 => (bif (decide (r93 < (0 : Int))) then some (false) else (laws_heldIntS n r92.2 r93).bind fun r157 => (bif (decide (r157 < (0 : Int))) then some (false) else (bif (!(decide (r157 = r92.1))) then some (false) else laws_FnExactRunBills_k1 n  aOps1 r92.1 aB0 t85 t86 t87 r91.2.1 r91.2.2 r92.2)))
def laws_FnExactRunBills_k3 (n : Nat)  (aOps1 : List SBillOp) (aB0 : SBook) (t53 : List SBill) (t54 : List Int) (t55 : List Int) (t56 : List SBill) (t57 : List Int) (t58 : List SBillOp) (t59 : List SBill) (t60 : List Int) (t61 : List Int) : Option Bool :=
  (laws_markBook n (⟨t56, t57⟩ : SBook) (1 : Int)).bind fun r62 => (laws_markBillOpS n t58 r62.1).bind fun r63 => (bif (decide (r63.1 < (0 : Int))) then some (false) else (laws_eqBook n (⟨t59, t60⟩ : SBook) (⟨t53, t54⟩ : SBook)).bind fun r70 => (bif (!r70) then some (false) else (laws_eqIntS n t61 t55).bind fun r77 => (bif (!r77) then some (false) else laws_FnExactRunBills_k2 n  aOps1 aB0 t53 t54 t55 t59 t60 t61)))
def laws_FnExactRunBills_k4 (n : Nat)  (aOps1 : List SBillOp) (aB0 : SBook) (t31 : List SBill) (t32 : List Int) (t33 : List Int) (t34 : List SBill) (t35 : List Int) (t36 : List SBillOp) (t37 : List SBill) (t38 : List Int) (t39 : List Int) : Option Bool :=
  (laws_toBook n aB0).bind fun r40 => (laws_eqBook n (⟨t34, t35⟩ : SBook) r40).bind fun r41 => (bif (!r41) then some (false) else (laws_toBillOpS n aOps1).bind fun r179 => (laws_eqBillOpS n t36 r179).bind fun r180 => (bif (!r180) then some (false) else laws_FnExactRunBills_k3 n  aOps1 aB0 t31 t32 t33 t34 t35 t36 t37 t38 t39))
def laws_FnExactRunBills_k5 (n : Nat)  (aOps1 : List SBillOp) (aB0 : SBook) : Option Bool :=
  (laws_toBook n aB0).bind fun r4 => (laws_toBillOpS n aOps1).bind fun r5 => (spec_RunBills n r4 r5).bind fun r6 => (laws_toBook n aB0).bind fun r7 => (laws_toBillOpS n aOps1).bind fun r8 => (impl_RunBills n r7 r8).bind fun r9 => (laws_eqBook n r9.1 r6.1).bind fun r10 => (bif (!r10) then some (false) else (laws_eqIntS n r9.2 r6.2).bind fun r20 => (bif (!r20) then some (false) else laws_FnExactRunBills_k4 n  aOps1 aB0 r6.1.Bills r6.1.Freed r6.2 r7.Bills r7.Freed r8 r9.1.Bills r9.1.Freed r9.2))
def laws_FnExactRunBills (n : Nat) (aB0 : SBook) (aOps1 : List SBillOp) : Option Bool :=
  (laws_szBook n aB0 (1048576 : Int)).bind fun r1 => (bif (decide (r1 < (0 : Int))) then some (true) else (laws_szBillOpS n aOps1 r1).bind fun r199 => (bif (decide (r199 < (0 : Int))) then some (true) else laws_FnExactRunBills_k5 n  aOps1 aB0))
def rng (a b x : Int) : Prop := a ≤ x ∧ x ≤ b
def wfSBill (x : SBill) : Prop := rng (-9223372036854775808) 9223372036854775807 x.Id ∧ x.Shipper.size ≤ 9223372036854775807 ∧ x.Order.size ≤ 9223372036854775807 ∧ rng (-9223372036854775808) 9223372036854775807 x.Many ∧ (x.Held.length ≤ 9223372036854775807 ∧ ∀ y ∈ x.Held, y.size ≤ 9223372036854775807)
def wfSBook (x : SBook) : Prop := (x.Bills.length ≤ 9223372036854775807 ∧ ∀ y ∈ x.Bills, wfSBill y) ∧ (x.Freed.length ≤ 9223372036854775807 ∧ ∀ y ∈ x.Freed, rng (-9223372036854775808) 9223372036854775807 y)
def wfSBillOp (x : SBillOp) : Prop := rng (-9223372036854775808) 9223372036854775807 x.Kind ∧ rng (-9223372036854775808) 9223372036854775807 x.Id ∧ x.Who.size ≤ 9223372036854775807 ∧ x.To.size ≤ 9223372036854775807 ∧ rng (-9223372036854775808) 9223372036854775807 x.Number ∧ rng (-9223372036854775808) 9223372036854775807 x.Many
end Go.Sm

section
set_option linter.unusedSimpArgs false
set_option linter.deprecated false
set_option linter.unusedSectionVars false
set_option linter.unusedVariables false
namespace Go.Sm
/-! ### Of the words that printed functions are made of -/
theorem w64_id {x : Int} (h1 : -9223372036854775808 ≤ x) (h2 : x ≤ 9223372036854775807) : w64 x = x := by
  show (let m := x % (2 ^ 64 : Int); if (true && decide ((2 : Int) ^ 63 ≤ m)) = true then m - 2 ^ 64 else m) = x
  simp only [Bool.true_and, decide_eq_true_eq]
  split <;> omega
theorem w64_rng (x : Int) : -9223372036854775808 ≤ w64 x ∧ w64 x ≤ 9223372036854775807 := by
  show -9223372036854775808 ≤ (let m := x % (2 ^ 64 : Int); if (true && decide ((2 : Int) ^ 63 ≤ m)) = true then m - 2 ^ 64 else m) ∧ (let m := x % (2 ^ 64 : Int); if (true && decide ((2 : Int) ^ 63 ≤ m)) = true then m - 2 ^ 64 else m) ≤ 9223372036854775807
  simp only [Bool.true_and, decide_eq_true_eq]
  split <;> omega
theorem chk_of {R : Type} {b : Bool} {x : Option R} (h : b = true) : chk b x = x := by rw [h]; rfl
theorem chk_true {R : Type} {x : Option R} : chk true x = x := rfl
theorem chk_dec {R : Type} {p : Prop} [Decidable p] {x : Option R} (h : p) : chk (decide p) x = x := chk_of (decide_eq_true h)
theorem ix_of {R : Type} {i : Int} {len : Nat} {x : Option R} (h0 : 0 ≤ i) (h1 : i < (len : Int)) : ix i len x = x := by
  unfold ix
  rw [decide_eq_true h0, decide_eq_true h1]
  rfl
theorem ix_nat {R : Type} {i len : Nat} {x : Option R} (h1 : i < len) : ix (i : Int) len x = x := ix_of (by omega) (by omega)
theorem bif_dec {α : Type} {p : Prop} [Decidable p] {x y : α} : (bif decide p then x else y) = if p then x else y := by
  by_cases h : p <;> simp [h]
theorem bif_not {α : Type} {b : Bool} {x y : α} : (bif !b then x else y) = bif b then y else x := by cases b <;> rfl
theorem bif_and {α : Type} {a b : Bool} {x y : α} : (bif a && b then x else y) = bif a then (bif b then x else y) else y := by cases a <;> rfl
theorem loopN_succ {X R : Type} (b : X → (X → Option R) → Option R) (m : Nat) (x : X) : loopN b (m + 1) x = b x (loopN b m) := rfl
/-- What holds of a loop: by what is left to go. -/
theorem loopN_ind {X R : Type} {b : X → (X → Option R) → Option R} (μ : X → Nat) (I : X → Prop) (Q : X → Option R → Prop)
    (h : ∀ x J, I x → (∀ y, I y → μ y < μ x → Q y (J y)) → Q x (b x J)) : ∀ n x, I x → μ x < n → Q x (loopN b n x)
  | 0, x, hi, hm => absurd hm (Nat.not_lt_zero _)
  | n + 1, x, hi, hm => h x (loopN b n) hi fun y hy hl => loopN_ind μ I Q h n y hy (by omega)
theorem getD_eq {α : Type} {l : List α} {i : Nat} {d : α} (h : i < l.length) : l.getD i d = l[i] := by
  simp [List.getD, h]
theorem w64_succ {k : Nat} (h : k < 9223372036854775807) : w64 ((k : Int) + 1) = ((k + 1 : Nat) : Int) := by
  rw [w64_id (by omega) (by omega)]
  rfl
theorem take_succ_getD {α : Type} {l : List α} {i : Nat} {d : α} (h : i < l.length) : l.take (i + 1) = l.take i ++ [l.getD i d] := by
  rw [List.take_succ, getD_eq h, List.getElem?_eq_getElem h]
  rfl
theorem drop_getD {α : Type} {l : List α} {i : Nat} {d : α} (h : i < l.length) : l.drop i = l.getD i d :: l.drop (i + 1) := by
  rw [getD_eq h]
  exact List.drop_eq_getElem_cons h
theorem bd_eq {α β : Type} (e : α) (f : α → β) : bd e f = f e := rfl
theorem bd_set {α β : Type} {Q : β → Prop} {F : List α → β} {p : List α} {i : Nat} {x : α} (h : ∀ l : List α, l.length = p.length → Q (F l)) : Q (bd (p.set i x) F) := h _ (by simp)
theorem bd_is {α β : Type} {Q : β → Prop} {F : α → β} {e : α} (h : ∀ v : α, v = e → Q (F v)) : Q (bd e F) := h _ rfl
theorem bd_val {α β : Type} {Q : β → Prop} {F : α → β} {e : α} (h : ∀ v : α, Q (F v)) : Q (bd e F) := h _
theorem chk_q {R : Type} {Q : Option R → Prop} {b : Bool} {x : Option R} (h : b = true) (hx : Q x) : Q (chk b x) := by rw [chk_of h]; exact hx
theorem ix_q {R : Type} {Q : Option R → Prop} {i : Int} {len : Nat} {x : Option R} (h0 : 0 ≤ i) (h1 : i < (len : Int)) (hx : Q x) : Q (ix i len x) := by rw [ix_of h0 h1]; exact hx
theorem bd_upd {α β : Type} {Q : β → Prop} {F : List α → β} {p : List α} {i : Nat} {x d : α} (hi : i < p.length) (h : ∀ l : List α, l.length = p.length → l.getD i d = x → (∀ j, j ≠ i → l.getD j d = p.getD j d) → Q (F l)) : Q (bd (p.set i x) F) :=
  h _ (by simp) (by simp [List.getD, hi]) (fun j hj => by simp [List.getD, List.getElem?_set, Ne.symm hj])
/-- A list written from the front. -/
theorem set_take {α : Type} {a : List α} {d : α} {m k : Nat} (h : k < a.length) (hm : m = a.length := by rfl) : (a.take k ++ (List.replicate m d).drop k).set k (a.getD k d) = a.take (k + 1) ++ (List.replicate m d).drop (k + 1) := by
  subst hm
  have h1 : (a.take k).length = k := by simp; omega
  rw [List.set_append_right _ _ (by omega), h1, Nat.sub_self, take_succ_getD h, List.append_assoc]
  congr 1
  rw [List.drop_eq_getElem_cons (by simp; exact h)]
  rfl
/-! ### Loops over 0 .. len, by what is left -/
/-- Steps k, k+1, .. told one after the other; J: what comes behind a step. -/
def forK {S R : Type} (step : Nat → S → (S → Option R) → Option R) (fin : S → Option R) : Nat → Nat → S → Option R
  | 0, _, s => fin s
  | m + 1, k, s => step k s fun s' => forK step fin m (k + 1) s'
theorem loop_forK {X S R : Type} {b : X → (X → Option R) → Option R} {enc : Nat → S → X} {len : Nat} {step : Nat → S → (S → Option R) → Option R} {fin : S → Option R} (I : Nat → S → Prop)
    (hstep : ∀ k s J J', k < len → I k s → (∀ s', I (k + 1) s' → J (enc (k + 1) s') = J' s') → b (enc k s) J = step k s J') (hfin : ∀ s J, I len s → b (enc len s) J = fin s) :
    ∀ m k s n, k + m = len → m < n → I k s → loopN b n (enc k s) = forK step fin m k s
  | 0, k, s, 0, _, h, _ => absurd h (Nat.lt_irrefl _)
  | 0, k, s, n + 1, hk, _, hi => by
    have hk : k = len := by omega
    subst hk
    exact hfin s _ hi
  | m + 1, k, s, 0, _, h, _ => absurd h (Nat.not_lt_zero _)
  | m + 1, k, s, n + 1, hk, hn, hi => by
    show b (enc k s) (loopN b n) = step k s fun s' => forK step fin m (k + 1) s'
    exact hstep k s _ _ (by omega) hi fun s' hi' => loop_forK I hstep hfin m (k + 1) s' n (by omega) (by omega) hi'
/-- The first k at which f answers; at none: z. -/
def scanK {R : Type} (f : Nat → Option (Option R)) (z : Option R) : Nat → Nat → Option R
  | 0, _ => z
  | m + 1, k => match f k with
    | some r => r
    | none => scanK f z m (k + 1)
theorem loop_scan {X R : Type} {b : X → (X → Option R) → Option R} {enc : Nat → X} {len : Nat} {f : Nat → Option (Option R)} {z : Option R}
    (hstep : ∀ k J, k < len → b (enc k) J = match f k with | some r => r | none => J (enc (k + 1))) (hfin : ∀ J, b (enc len) J = z) :
    ∀ m k n, k + m = len → m < n → loopN b n (enc k) = scanK f z m k
  | 0, k, 0, _, h => absurd h (Nat.lt_irrefl _)
  | 0, k, n + 1, hk, _ => by
    have hk : k = len := by omega
    subst hk
    exact hfin _
  | m + 1, k, 0, _, h => absurd h (Nat.not_lt_zero _)
  | m + 1, k, n + 1, hk, hn => by
    show b (enc k) (loopN b n) = _
    rw [hstep k _ (by omega)]
    unfold scanK
    cases f k with
    | some r => rfl
    | none => exact loop_scan hstep hfin m (k + 1) n (by omega) (by omega)
/-- Is p so of all of k, .. k + m - 1? -/
theorem scan_all {R : Type} {p : Nat → Bool} {r z : Option R} : ∀ m k, scanK (fun k => bif p k then none else some r) z m k = bif (List.range' k m).all p then z else r
  | 0, k => rfl
  | m + 1, k => by
    rw [scanK, List.range'_succ, List.all_cons]
    cases h : p k with
    | true => simp only [cond_true, Bool.true_and]; exact scan_all m (k + 1)
    | false => rfl
theorem scan_any {R : Type} {p : Nat → Bool} {r z : Option R} : ∀ m k, scanK (fun k => bif p k then some r else none) z m k = bif (List.range' k m).any p then r else z
  | 0, k => rfl
  | m + 1, k => by
    rw [scanK, List.range'_succ, List.any_cons]
    cases h : p k with
    | false => simp only [cond_false, Bool.false_or]; exact scan_any m (k + 1)
    | true => rfl
theorem mgetI_mputI {β : Type} (l : List (Int × β)) (n m : Int) (v : β) : mgetI (mputI l n v) m = if m = n then some v else mgetI l m := by
  unfold mgetI mputI
  induction l with
  | nil =>
    by_cases h : m = n <;> simp [h]
  | cons a l ih =>
    rw [List.findIdx?_cons]
    by_cases h : n = a.1
    · simp only [h, decide_true, if_true, Option.elim_some, List.set_cons_zero, List.find?_cons]
      by_cases h2 : m = a.1
      · simp [h2]
      · simp [h2]
    · simp only [h, decide_false, Bool.false_eq_true, if_false]
      cases hf : l.findIdx? (fun e => decide (n = e.1)) with
      | none =>
        rw [hf] at ih
        simp only [Option.elim_none] at ih
        simp only [Option.map_none, Option.elim_none, List.cons_append, List.find?_cons]
        by_cases h2 : m = a.1
        · have : m ≠ n := fun e => h (e ▸ h2)
          simp [h2]
          simp [h2] at this
          simp [this]
        · simp only [h2, decide_false]
          exact ih
      | some i =>
        rw [hf] at ih
        simp only [Option.elim_some] at ih
        simp only [Option.map_some, Option.elim_some, List.set_cons_succ, List.find?_cons]
        by_cases h2 : m = a.1
        · have : m ≠ n := fun e => h (e ▸ h2)
          simp [h2]
          simp [h2] at this
          simp [this]
        · simp only [h2, decide_false]
          exact ih
theorem mgetI_nil {β : Type} (m : Int) : mgetI ([] : List (Int × β)) m = none := rfl
/-! ### Chains of tests -/
theorem bif_and' {α : Type} {a b : Bool} {x y : α} : (bif a then (bif b then x else y) else y) = bif a && b then x else y := by cases a <;> rfl
theorem bif_or' {α : Type} {a b : Bool} {x y : α} : (bif a then y else (bif b then x else y)) = bif !a && b then x else y := by cases a <;> rfl
theorem bif_and2 {α : Type} {a b : Bool} {x y : α} : (bif a then (bif b then y else x) else y) = bif a && !b then x else y := by cases a <;> cases b <;> rfl
theorem bif_or2 {α : Type} {a b : Bool} {x y : α} : (bif a then y else (bif b then y else x)) = bif !a && !b then x else y := by cases a <;> cases b <;> rfl
theorem bif_some {α β : Type} {a : Bool} {x y : α} {f : α → Option β} : (bif a then some x else some y).bind f = bif a then f x else f y := by cases a <;> rfl
theorem bif_tf {a : Bool} : (bif a then some true else some false) = some a := by cases a <;> rfl
theorem bif_ft {a : Bool} : (bif a then some false else some true) = some (!a) := by cases a <;> rfl
theorem bif_sf {a b : Bool} : (bif a then some b else some false) = some (a && b) := by cases a <;> rfl
theorem all_range_succ {p : Nat → Bool} {k : Nat} : (List.range (k + 1)).all p = ((List.range k).all p && p k) := by
  rw [List.range_succ, List.all_append]
  simp
theorem any_range_succ {p : Nat → Bool} {k : Nat} : (List.range (k + 1)).any p = ((List.range k).any p || p k) := by
  rw [List.range_succ, List.any_append]
  simp
theorem all_range_not {p : Nat → Bool} {k m : Nat} (hk : k < m) (h : p k = false) : (List.range m).all p = false := by
  rw [Bool.eq_false_iff]
  intro e
  rw [List.all_eq_true] at e
  rw [e k (List.mem_range.2 hk)] at h
  cases h
theorem any_range_of {p : Nat → Bool} {k m : Nat} (hk : k < m) (h : p k = true) : (List.range m).any p = true := by
  rw [List.any_eq_true]
  exact ⟨k, List.mem_range.2 hk, h⟩
/-- A loop that looks at k = 0, 1, .. and leaves at the first that is not so. -/
theorem loop_all {R : Type} {b : Int → (Int → Option R) → Option R} {len : Nat} {p : Nat → Bool} {no yes : Option R} (hlen : len ≤ 9223372036854775807)
    (hstep : ∀ (k : Nat) (J : Int → Option R), k < len → (∀ j, j < k → p j = true) → b (k : Int) J = bif p k then J ((k + 1 : Nat) : Int) else no) (hfin : ∀ J, (∀ j, j < len → p j = true) → b (len : Int) J = yes) {n : Nat} (hn : len < n) :
    loopN b n (0 : Int) = bif (List.range len).all p then yes else no := by
  refine loopN_ind (fun x => len - x.toNat) (fun x => ∃ k : Nat, k ≤ len ∧ x = (k : Int) ∧ (List.range k).all p = true) (fun x r => r = bif (List.range len).all p then yes else no) ?_ n _ ⟨0, by omega, rfl, rfl⟩ (by simp; omega)
  rintro _ J ⟨k, hk, rfl, hb⟩ ih
  have hb' : ∀ j, j < k → p j = true := fun j hj => List.all_eq_true.1 hb j (List.mem_range.2 hj)
  by_cases h : k < len
  · rw [hstep k J h hb']
    cases hp : p k with
    | true => exact ih _ ⟨k + 1, h, rfl, by rw [all_range_succ, hb, hp]; rfl⟩ (by simp; omega)
    | false => rw [all_range_not h hp]; rfl
  · have : k = len := by omega
    subst this
    rw [hfin _ hb', hb]
    rfl
/-- The same, a state turned on the way (its invariant: I). -/
theorem loop_allS {S R : Type} {X : Type} {enc : Int → S → X} {b : X → (X → Option R) → Option R} {len : Nat} {p : Nat → Bool} {I : Nat → S → Prop} {no yes : Option R}
    (hstep : ∀ (k : Nat) (s : S) (J : X → Option R), k < len → I k s → (∀ j, j < k → p j = true) → ∃ s', (p k = true → I (k + 1) s') ∧ b (enc (k : Int) s) J = bif p k then J (enc ((k + 1 : Nat) : Int) s') else no) (hfin : ∀ s J, I len s → (∀ j, j < len → p j = true) → b (enc (len : Int) s) J = yes) {n : Nat} (hn : len < n) {s0 : S} (h0 : I 0 s0) :
    loopN b n (enc (0 : Int) s0) = bif (List.range len).all p then yes else no := by
  have key : ∀ m (k : Nat) (s : S) n, k + m = len → m < n → I k s → (List.range k).all p = true → loopN b n (enc (k : Int) s) = bif (List.range len).all p then yes else no := by
    intro m
    induction m with
    | zero =>
      intro k s n hk hn hi hb
      have hb' : ∀ j, j < k → p j = true := fun j hj => List.all_eq_true.1 hb j (List.mem_range.2 hj)
      have hk : k = len := by omega
      subst hk
      cases n with
      | zero => omega
      | succ n => rw [loopN_succ, hfin s _ hi hb', hb]; rfl
    | succ m ih =>
      intro k s n hk hn hi hb
      have hb' : ∀ j, j < k → p j = true := fun j hj => List.all_eq_true.1 hb j (List.mem_range.2 hj)
      cases n with
      | zero => omega
      | succ n =>
        rw [loopN_succ]
        obtain ⟨s', h1, h2⟩ := hstep k s (loopN b n) (by omega) hi hb'
        rw [h2]
        cases hp : p k with
        | true => exact ih (k + 1) s' n (by omega) (by omega) (h1 hp) (by rw [all_range_succ, hb, hp]; rfl)
        | false => rw [all_range_not (by omega : k < len) hp]; rfl
  exact key len 0 s0 n (by omega) hn h0 rfl
/-- A loop over 0 .. len that never leaves early; its state: I. -/
theorem loop_runS {S R : Type} {X : Type} {enc : Int → S → X} {b : X → (X → Option R) → Option R} {len : Nat} {I : Nat → S → Prop} {Q : Option R → Prop}
    (hstep : ∀ (k : Nat) (s : S) (J : X → Option R), k < len → I k s → ∃ s', I (k + 1) s' ∧ b (enc (k : Int) s) J = J (enc ((k + 1 : Nat) : Int) s')) (hfin : ∀ s J, I len s → Q (b (enc (len : Int) s) J)) {n : Nat} (hn : len < n) {s0 : S} (h0 : I 0 s0) :
    Q (loopN b n (enc (0 : Int) s0)) := by
  have key : ∀ m (k : Nat) (s : S) n, k + m = len → m < n → I k s → Q (loopN b n (enc (k : Int) s)) := by
    intro m
    induction m with
    | zero =>
      intro k s n hk hn hi
      have hk : k = len := by omega
      subst hk
      cases n with
      | zero => omega
      | succ n => rw [loopN_succ]; exact hfin s _ hi
    | succ m ih =>
      intro k s n hk hn hi
      cases n with
      | zero => omega
      | succ n =>
        rw [loopN_succ]
        obtain ⟨s', h1, h2⟩ := hstep k s (loopN b n) (by omega) hi
        rw [h2]
        exact ih (k + 1) s' n (by omega) (by omega) h1
  exact key len 0 s0 n (by omega) hn h0
/-! ### Sums over lists -/
def sumOf {α : Type} (f : α → Nat) : List α → Nat
  | [] => 0
  | a :: l => f a + sumOf f l
theorem sumOf_append {α : Type} (f : α → Nat) : ∀ a b : List α, sumOf f (a ++ b) = sumOf f a + sumOf f b
  | [], b => by simp [sumOf]
  | x :: a, b => by simp only [List.cons_append, sumOf, sumOf_append f a b]; omega
theorem sumOf_take_succ {α : Type} {f : α → Nat} {l : List α} {k : Nat} {d : α} (h : k < l.length) : sumOf f (l.take (k + 1)) = sumOf f (l.take k) + f (l.getD k d) := by
  rw [take_succ_getD (d := d) h, sumOf_append]
  simp [sumOf]
theorem sumOf_take_le {α : Type} (f : α → Nat) (l : List α) (k : Nat) : sumOf f (l.take k) ≤ sumOf f l := by
  have := sumOf_append f (l.take k) (l.drop k)
  rw [List.take_append_drop] at this
  omega
theorem sumOf_mem {α : Type} {f : α → Nat} {l : List α} {k : Nat} {d : α} (h : k < l.length) : f (l.getD k d) ≤ sumOf f l := by
  have h1 := sumOf_take_succ (f := f) (d := d) h
  have h2 := sumOf_take_le f l (k + 1)
  omega
theorem sumOf_lin {α : Type} {f g : α → Nat} {c s : Nat} (h : ∀ y, f y ≤ c * g y + s) : ∀ l : List α, sumOf f l ≤ c * sumOf g l + s * l.length
  | [] => by simp [sumOf]
  | a :: l => by
    have h1 := h a
    have h2 := sumOf_lin h l
    simp only [sumOf, List.length_cons, Nat.mul_add, Nat.mul_succ]
    omega
theorem sumOf_const {α : Type} (c : Nat) : ∀ l : List α, sumOf (fun _ => c) l = c * l.length
  | [] => by simp [sumOf]
  | a :: l => by simp only [sumOf, sumOf_const c l, List.length_cons, Nat.mul_succ]; omega
theorem getD_set {α : Type} {l : List α} {k : Nat} {x d : α} (h : k < l.length) : (l.set k x).getD k d = x := by simp [List.getD, h]
theorem getD_set_ne {α : Type} {l : List α} {k j : Nat} {x d : α} (h : j ≠ k) : (l.set k x).getD j d = l.getD j d := by simp [List.getD, List.getElem?_set, Ne.symm h]
theorem getD_mem {α : Type} {l : List α} {k : Nat} {d : α} (h : k < l.length) : l.getD k d ∈ l := by rw [getD_eq h]; exact List.getElem_mem h
theorem take_drop_set {α : Type} {a : List α} {d : α} {m k : Nat} {x : α} (h : k < a.length) (hm : m = a.length) (hx : x = a.getD k d) : (a.take k ++ (List.replicate m d).drop k).set k x = a.take (k + 1) ++ (List.replicate m d).drop (k + 1) := by
  subst hx
  exact set_take h hm
/-! ### The first that is so -/
def idxOf (p : Nat → Bool) (m : Nat) : Int := match (List.range m).find? p with
  | some k => (k : Int)
  | none => -1
theorem find_range_none {p : Nat → Bool} {m : Nat} (h : ∀ j, j < m → p j = false) : (List.range m).find? p = none := by
  rw [List.find?_eq_none]
  intro x hx
  rw [h x (List.mem_range.1 hx)]
  simp
theorem find_range_some {p : Nat → Bool} {m k : Nat} (hk : k < m) (hp : p k = true) (h : ∀ j, j < k → p j = false) : (List.range m).find? p = some k := by
  have e : m = k + (m - k) := by omega
  rw [e, List.range_add, List.find?_append, find_range_none h, Option.none_or]
  obtain ⟨r, hr⟩ : ∃ r, m - k = r + 1 := ⟨m - k - 1, by omega⟩
  rw [hr, List.range_succ_eq_map]
  simp [hp]
theorem idxOf_ge (p : Nat → Bool) (m : Nat) : decide (idxOf p m ≥ 0) = (List.range m).any p := by
  unfold idxOf
  cases h : (List.range m).find? p with
  | none =>
    rw [List.find?_eq_none] at h
    rw [show (List.range m).any p = false from by rw [List.any_eq_false]; exact h]
    rfl
  | some k =>
    have h1 := List.find?_some h
    rw [show (List.range m).any p = true from List.any_eq_true.2 ⟨k, List.mem_of_find?_eq_some h, h1⟩]
    exact decide_eq_true (by show (0 : Int) ≤ (k : Int); omega)
theorem idxOf_lt (p : Nat → Bool) (m : Nat) : decide (idxOf p m < 0) = !(List.range m).any p := by
  rw [← idxOf_ge]
  by_cases h : idxOf p m < 0
  · rw [decide_eq_true h, decide_eq_false (by omega)]; rfl
  · rw [decide_eq_false h, decide_eq_true (by omega)]; rfl
theorem find_range (p : Nat → Bool) : ∀ m, ((List.range m).find? p = none ∧ ∀ j, j < m → p j = false) ∨ ∃ k, (List.range m).find? p = some k ∧ k < m ∧ p k = true ∧ ∀ j, j < k → p j = false
  | 0 => .inl ⟨rfl, fun j hj => absurd hj (Nat.not_lt_zero _)⟩
  | m + 1 => by
    rcases find_range p m with ⟨h1, h2⟩ | ⟨k, h1, h2, h3, h4⟩
    · cases hp : p m with
      | true => exact .inr ⟨m, find_range_some (by omega) hp h2, by omega, hp, h2⟩
      | false =>
        have : ∀ j, j < m + 1 → p j = false := fun j hj => by
          by_cases e : j = m
          · rw [e]; exact hp
          · exact h2 j (by omega)
        exact .inl ⟨find_range_none this, this⟩
    · exact .inr ⟨k, find_range_some (by omega) h3 h4, by omega, h3, h4⟩
theorem idxOf_spec (p : Nat → Bool) (m : Nat) : (idxOf p m = -1 ∧ ∀ j, j < m → p j = false) ∨ ∃ k : Nat, idxOf p m = (k : Int) ∧ k < m ∧ p k = true ∧ ∀ j, j < k → p j = false := by
  unfold idxOf
  rcases find_range p m with ⟨h1, h2⟩ | ⟨k, h1, h2, h3, h4⟩
  · rw [h1]; exact .inl ⟨rfl, h2⟩
  · rw [h1]; exact .inr ⟨k, rfl, h2, h3, h4⟩
/-- A loop that looks at k = 0, 1, .. and leaves at the first that is so. -/
theorem loop_find {R : Type} {b : Int → (Int → Option R) → Option R} {len : Nat} {p : Nat → Bool} {yes : Nat → Option R} {no : Option R} (hlen : len ≤ 9223372036854775807)
    (hstep : ∀ (k : Nat) (J : Int → Option R), k < len → (∀ j, j < k → p j = false) → b (k : Int) J = bif p k then yes k else J ((k + 1 : Nat) : Int)) (hfin : ∀ J, (∀ j, j < len → p j = false) → b (len : Int) J = no) {n : Nat} (hn : len < n) :
    loopN b n (0 : Int) = match (List.range len).find? p with | some k => yes k | none => no := by
  refine loopN_ind (fun x => len - x.toNat) (fun x => ∃ k : Nat, k ≤ len ∧ x = (k : Int) ∧ ∀ j, j < k → p j = false) (fun x r => r = match (List.range len).find? p with | some k => yes k | none => no) ?_ n _ ⟨0, by omega, rfl, fun j hj => absurd hj (Nat.not_lt_zero _)⟩ (by simp; omega)
  rintro _ J ⟨k, hk, rfl, hb⟩ ih
  by_cases h : k < len
  · rw [hstep k J h hb]
    cases hp : p k with
    | false => exact ih _ ⟨k + 1, h, rfl, fun j hj => by
        by_cases e : j = k
        · rw [e]; exact hp
        · exact hb j (by omega)⟩ (by simp; omega)
    | true => rw [find_range_some h hp hb]; rfl
  · have : k = len := by omega
    subst this
    rw [hfin _ hb, find_range_none hb]
theorem loop_idx {b : Int → (Int → Option Int) → Option Int} {len : Nat} {p : Nat → Bool} (hlen : len ≤ 9223372036854775807)
    (hstep : ∀ (k : Nat) (J : Int → Option Int), k < len → (∀ j, j < k → p j = false) → b (k : Int) J = bif p k then some (k : Int) else J ((k + 1 : Nat) : Int)) (hfin : ∀ J, (∀ j, j < len → p j = false) → b (len : Int) J = some (-1)) {n : Nat} (hn : len < n) :
    loopN b n (0 : Int) = some (idxOf p len) := by
  rw [loop_find (yes := fun k => some (k : Int)) (no := some (-1)) hlen hstep hfin hn]
  unfold idxOf
  cases (List.range len).find? p <;> rfl
theorem byteAt_rng (s : ByteArray) (k : Nat) : 0 ≤ byteAt s k ∧ byteAt s k ≤ 255 := by
  unfold byteAt
  have := (s.data.getD k 0).toNat_lt
  omega
theorem range_any {α : Type} {l : List α} {d : α} {f : α → Bool} : (List.range l.length).any (fun k => f (l.getD k d)) = l.any f := by
  induction l with
  | nil => rfl
  | cons a l ih =>
    rw [List.length_cons, List.range_succ_eq_map, List.any_cons, List.any_map, List.any_cons, ← ih]
    rfl
theorem range_all {α : Type} {l : List α} {d : α} {f : α → Bool} : (List.range l.length).all (fun k => f (l.getD k d)) = l.all f := by
  induction l with
  | nil => rfl
  | cons a l ih =>
    rw [List.length_cons, List.range_succ_eq_map, List.all_cons, List.all_map, List.all_cons, ← ih]
    rfl
theorem all_congr_lt {p q : Nat → Bool} {m : Nat} (h : ∀ k, k < m → p k = q k) : (List.range m).all p = (List.range m).all q := by
  rw [Bool.eq_iff_iff, List.all_eq_true, List.all_eq_true]
  constructor
  · intro g x hx; rw [← h x (List.mem_range.1 hx)]; exact g x hx
  · intro g x hx; rw [h x (List.mem_range.1 hx)]; exact g x hx
theorem any_congr_lt {p q : Nat → Bool} {m : Nat} (h : ∀ k, k < m → p k = q k) : (List.range m).any p = (List.range m).any q := by
  rw [Bool.eq_iff_iff, List.any_eq_true, List.any_eq_true]
  constructor
  · rintro ⟨x, hx, g⟩; exact ⟨x, hx, by rw [← h x (List.mem_range.1 hx)]; exact g⟩
  · rintro ⟨x, hx, g⟩; exact ⟨x, hx, by rw [h x (List.mem_range.1 hx)]; exact g⟩
theorem guard_sz {w : Nat} {x : Option Bool} (h : w ≤ 1048576 → x = some true) : (bif decide ((if (w : Int) ≤ 1048576 then 1048576 - (w : Int) else -1) < 0) then some true else x) = some true := by
  by_cases c : (w : Int) ≤ 1048576
  · rw [if_pos c, decide_eq_false (by omega), cond_false]
    exact h (by omega)
  · rw [if_neg c]
    rfl
end Go.Sm
end

section
set_option linter.unusedSimpArgs false
set_option linter.deprecated false
set_option linter.unusedSectionVars false
set_option linter.unusedVariables false
set_option linter.unusedSimpArgs false
namespace Go.Sm
attribute [local irreducible] bd chk ix loopN
theorem laws_markText_ok {n : Nat} (k : Int) (hk : k ≤ 1000000000) (hn : 1000000000 < n) : ∃ t, laws_markText n k = some t := by
  unfold laws_markText
  rw [bif_dec]
  split
  · exact ⟨_, rfl⟩
  · refine loopN_ind (fun x => x.1.toNat) (fun x => 0 ≤ x.1 ∧ x.1 + (x.2.size : Int) ≤ 1000000000) (fun x r => ∃ t, r = some t) ?_ n _ ⟨by omega, by show k + ((str []).size : Int) ≤ _; simp [str, ByteArray.size]; omega⟩ (by simp; omega)
    rintro ⟨k, out⟩ J ⟨h0, h1⟩ ih
    unfold laws_markText_L4
    dsimp only at h0 h1 ⊢
    have e1 : ∀ l : List Int, (bstr l).size = l.length := fun l => by simp [bstr, ByteArray.size]
    have e2 : (str [109]).size = 1 := rfl
    have e3 : k.tdiv 10 = k / 10 := Int.tdiv_eq_ediv_of_nonneg h0
    simp only [bd_eq]
    rw [bif_dec, e3]
    split
    · rw [e1, chk_dec (by simp; omega), w64_id (x := k / 10) (by omega) (by omega)]
      refine ih _ ⟨by dsimp only; omega, ?_⟩ (by dsimp only; omega)
      rw [ByteArray.size_append, e1]
      simp
      omega
    · rw [e2, chk_dec (by omega)]
      exact ⟨_, rfl⟩
theorem laws_markText_q {β : Type} {Q : Option β → Prop} {n : Nat} {k : Int} {F : ByteArray → Option β} (hk : k ≤ 1000000000) (hn : 1000000000 < n) (h : ∀ t, laws_markText n k = some t → Q (F t)) : Q ((laws_markText n k).bind F) := by
  obtain ⟨t, ht⟩ := laws_markText_ok (n := n) k hk hn
  rw [ht]
  exact h t ht
def w_LBA (a : List ByteArray) : Nat := a.length + sumOf (fun y => y.size) a
theorem laws_szStringS_ok {n : Nat} (a : List ByteArray) {left : Int} (h : (a.length ≤ 9223372036854775807 ∧ ∀ y ∈ a, y.size ≤ 9223372036854775807)) (h0 : 0 ≤ left) (h1 : left ≤ 1048576) (hn : 1000000000 < n) : laws_szStringS n a left = some (if (w_LBA a : Int) ≤ left then left - (w_LBA a : Int) else -1) := by
  have hw : w_LBA a = a.length + sumOf (fun y => y.size) a := rfl
  unfold laws_szStringS
  rw [w64_id (by have := h.1; omega) (by omega), bd_eq, bif_dec]
  by_cases c : (a.length : Int) ≤ left
  case neg => rw [if_pos (by omega), if_neg (by omega)]
  rw [if_neg (by omega)]
  refine loopN_ind (fun x => a.length - x.2.toNat) (fun x => ∃ k : Nat, k ≤ a.length ∧ x = (left - (a.length : Int) - (sumOf (fun y => y.size) (a.take k) : Int), (k : Int)) ∧ (sumOf (fun y => y.size) (a.take k) : Int) ≤ left - (a.length : Int))
    (fun x r => r = some (if (w_LBA a : Int) ≤ left then left - (w_LBA a : Int) else -1)) ?_ n _ ⟨0, by omega, by simp [sumOf], by simp [sumOf]; omega⟩ (by simp; omega)
  rintro _ J ⟨k, hk, rfl, hb⟩ ih
  unfold laws_szStringS_L5
  by_cases h2 : k < a.length
  · have s1 := sumOf_take_succ (f := fun y => y.size) (d := (str [])) h2
    have s2 := sumOf_take_le (fun y => y.size) a (k + 1)
    try simp only at s1
    simp only [Int.ofNat_lt, h2, decide_true, cond_true, ix_nat h2, Int.toNat_natCast, bd_eq]
    rw [w64_id (by have := h.2 _ (getD_mem (d := (str [])) h2); omega) (by omega), bif_dec]
    by_cases c2 : ((a.getD k (str [])).size : Int) ≤ left - (a.length : Int) - (sumOf (fun y => y.size) (a.take k) : Int)
    · rw [if_neg (by omega), w64_succ (by omega)]
      exact ih (_, ((k + 1 : Nat) : Int)) ⟨k + 1, h2, Prod.ext (by dsimp only; omega) rfl, by omega⟩ (by simp; omega)
    · rw [if_pos (by omega), if_neg (by omega)]
  · have : k = a.length := by omega
    subst this
    rw [List.take_length] at hb ⊢
    simp only [Int.lt_irrefl, decide_false, cond_false]
    rw [if_pos (by omega)]
    congr 1
    omega
def w_SBill (a : SBill) : Nat := a.Shipper.size + a.Order.size + w_LBA a.Held
theorem laws_szBill_ok {n : Nat} (a : SBill) {left : Int} (h : wfSBill a) (h0 : 0 ≤ left) (h1 : left ≤ 1048576) (hn : 1000000000 < n) : laws_szBill n a left = some (if (w_SBill a : Int) ≤ left then left - (w_SBill a : Int) else -1) := by
  have hw : w_SBill a = a.Shipper.size + a.Order.size + w_LBA a.Held := rfl
  unfold laws_szBill
  rw [w64_id (by have := h.2.1; omega) (by omega), bd_eq, bif_dec]
  by_cases c0 : (a.Shipper.size : Int) ≤ left
  case neg => rw [if_pos (by omega), if_neg (by omega)]
  rw [if_neg (by omega)]
  rw [w64_id (by have := h.2.2.1; omega) (by omega), bd_eq, bif_dec]
  by_cases c1 : (a.Order.size : Int) ≤ left - (a.Shipper.size : Int)
  case neg => rw [if_pos (by omega), if_neg (by omega)]
  rw [if_neg (by omega)]
  rw [laws_szStringS_ok (n := n) a.Held h.2.2.2.2 (by omega) (by omega) hn, Option.bind_some, bif_dec]
  by_cases c2 : (w_LBA a.Held : Int) ≤ left - (a.Shipper.size : Int) - (a.Order.size : Int)
  case neg => rw [if_neg c2, if_pos (by omega), if_neg (by omega)]
  rw [if_pos c2, if_neg (by omega)]
  rw [if_pos (by omega)]
  try (refine congrArg some ?_; omega)
def w_LSBill (a : List SBill) : Nat := a.length + sumOf (fun y => w_SBill y) a
theorem laws_szBillS_ok {n : Nat} (a : List SBill) {left : Int} (h : (a.length ≤ 9223372036854775807 ∧ ∀ y ∈ a, wfSBill y)) (h0 : 0 ≤ left) (h1 : left ≤ 1048576) (hn : 1000000000 < n) : laws_szBillS n a left = some (if (w_LSBill a : Int) ≤ left then left - (w_LSBill a : Int) else -1) := by
  have hw : w_LSBill a = a.length + sumOf (fun y => w_SBill y) a := rfl
  unfold laws_szBillS
  rw [w64_id (by have := h.1; omega) (by omega), bd_eq, bif_dec]
  by_cases c : (a.length : Int) ≤ left
  case neg => rw [if_pos (by omega), if_neg (by omega)]
  rw [if_neg (by omega)]
  refine loopN_ind (fun x => a.length - x.2.toNat) (fun x => ∃ k : Nat, k ≤ a.length ∧ x = (left - (a.length : Int) - (sumOf (fun y => w_SBill y) (a.take k) : Int), (k : Int)) ∧ (sumOf (fun y => w_SBill y) (a.take k) : Int) ≤ left - (a.length : Int))
    (fun x r => r = some (if (w_LSBill a : Int) ≤ left then left - (w_LSBill a : Int) else -1)) ?_ n _ ⟨0, by omega, by simp [sumOf], by simp [sumOf]; omega⟩ (by simp; omega)
  rintro _ J ⟨k, hk, rfl, hb⟩ ih
  unfold laws_szBillS_L5
  by_cases h2 : k < a.length
  · have s1 := sumOf_take_succ (f := fun y => w_SBill y) (d := dSBill) h2
    have s2 := sumOf_take_le (fun y => w_SBill y) a (k + 1)
    try simp only at s1
    simp only [Int.ofNat_lt, h2, decide_true, cond_true, ix_nat h2, Int.toNat_natCast, bd_eq]
    rw [laws_szBill_ok (n := n) (a.getD k dSBill) (h.2 _ (getD_mem h2)) (by omega) (by omega) hn, Option.bind_some, bif_dec]
    by_cases c2 : (w_SBill (a.getD k dSBill) : Int) ≤ left - (a.length : Int) - (sumOf (fun y => w_SBill y) (a.take k) : Int)
    · rw [if_pos c2, if_neg (by omega), w64_succ (by omega)]
      exact ih (_, ((k + 1 : Nat) : Int)) ⟨k + 1, h2, Prod.ext (by dsimp only; omega) rfl, by omega⟩ (by simp; omega)
    · rw [if_neg c2, if_pos (by omega), if_neg (by omega)]
  · have : k = a.length := by omega
    subst this
    rw [List.take_length] at hb ⊢
    simp only [Int.lt_irrefl, decide_false, cond_false]
    rw [if_pos (by omega)]
    congr 1
    omega
def w_LInt (a : List Int) : Nat := a.length
theorem laws_szIntS_ok {n : Nat} (a : List Int) {left : Int} (h : (a.length ≤ 9223372036854775807 ∧ ∀ y ∈ a, rng (-9223372036854775808) 9223372036854775807 y)) (h0 : 0 ≤ left) (h1 : left ≤ 1048576) (hn : 1000000000 < n) : laws_szIntS n a left = some (if (w_LInt a : Int) ≤ left then left - (w_LInt a : Int) else -1) := by
  have hw : w_LInt a = a.length := rfl
  unfold laws_szIntS
  rw [w64_id (by have := h.1; omega) (by omega), bd_eq, bif_dec]
  by_cases c : (a.length : Int) ≤ left
  · rw [if_neg (by omega), if_pos (by omega)]
    congr 1
  · rw [if_pos (by omega), if_neg (by omega)]
def w_SBook (a : SBook) : Nat := w_LSBill a.Bills + w_LInt a.Freed
theorem laws_szBook_ok {n : Nat} (a : SBook) {left : Int} (h : wfSBook a) (h0 : 0 ≤ left) (h1 : left ≤ 1048576) (hn : 1000000000 < n) : laws_szBook n a left = some (if (w_SBook a : Int) ≤ left then left - (w_SBook a : Int) else -1) := by
  have hw : w_SBook a = w_LSBill a.Bills + w_LInt a.Freed := rfl
  unfold laws_szBook
  rw [laws_szBillS_ok (n := n) a.Bills h.1 (by omega) (by omega) hn, Option.bind_some, bif_dec]
  by_cases c0 : (w_LSBill a.Bills : Int) ≤ left
  case neg => rw [if_neg c0, if_pos (by omega), if_neg (by omega)]
  rw [if_pos c0, if_neg (by omega)]
  rw [laws_szIntS_ok (n := n) a.Freed h.2 (by omega) (by omega) hn, Option.bind_some, bif_dec]
  by_cases c1 : (w_LInt a.Freed : Int) ≤ left - (w_LSBill a.Bills : Int)
  case neg => rw [if_neg c1, if_pos (by omega), if_neg (by omega)]
  rw [if_pos c1, if_neg (by omega)]
  rw [if_pos (by omega)]
  try (refine congrArg some ?_; omega)
def w_SBillOp (a : SBillOp) : Nat := a.Who.size + a.To.size
theorem laws_szBillOp_ok {n : Nat} (a : SBillOp) {left : Int} (h : wfSBillOp a) (h0 : 0 ≤ left) (h1 : left ≤ 1048576) (hn : 1000000000 < n) : laws_szBillOp n a left = some (if (w_SBillOp a : Int) ≤ left then left - (w_SBillOp a : Int) else -1) := by
  have hw : w_SBillOp a = a.Who.size + a.To.size := rfl
  unfold laws_szBillOp
  rw [w64_id (by have := h.2.2.1; omega) (by omega), bd_eq, bif_dec]
  by_cases c0 : (a.Who.size : Int) ≤ left
  case neg => rw [if_pos (by omega), if_neg (by omega)]
  rw [if_neg (by omega)]
  rw [w64_id (by have := h.2.2.2.1; omega) (by omega), bd_eq, bif_dec]
  by_cases c1 : (a.To.size : Int) ≤ left - (a.Who.size : Int)
  case neg => rw [if_pos (by omega), if_neg (by omega)]
  rw [if_neg (by omega)]
  rw [if_pos (by omega)]
  try (refine congrArg some ?_; omega)
def w_LSBillOp (a : List SBillOp) : Nat := a.length + sumOf (fun y => w_SBillOp y) a
theorem laws_szBillOpS_ok {n : Nat} (a : List SBillOp) {left : Int} (h : (a.length ≤ 9223372036854775807 ∧ ∀ y ∈ a, wfSBillOp y)) (h0 : 0 ≤ left) (h1 : left ≤ 1048576) (hn : 1000000000 < n) : laws_szBillOpS n a left = some (if (w_LSBillOp a : Int) ≤ left then left - (w_LSBillOp a : Int) else -1) := by
  have hw : w_LSBillOp a = a.length + sumOf (fun y => w_SBillOp y) a := rfl
  unfold laws_szBillOpS
  rw [w64_id (by have := h.1; omega) (by omega), bd_eq, bif_dec]
  by_cases c : (a.length : Int) ≤ left
  case neg => rw [if_pos (by omega), if_neg (by omega)]
  rw [if_neg (by omega)]
  refine loopN_ind (fun x => a.length - x.2.toNat) (fun x => ∃ k : Nat, k ≤ a.length ∧ x = (left - (a.length : Int) - (sumOf (fun y => w_SBillOp y) (a.take k) : Int), (k : Int)) ∧ (sumOf (fun y => w_SBillOp y) (a.take k) : Int) ≤ left - (a.length : Int))
    (fun x r => r = some (if (w_LSBillOp a : Int) ≤ left then left - (w_LSBillOp a : Int) else -1)) ?_ n _ ⟨0, by omega, by simp [sumOf], by simp [sumOf]; omega⟩ (by simp; omega)
  rintro _ J ⟨k, hk, rfl, hb⟩ ih
  unfold laws_szBillOpS_L5
  by_cases h2 : k < a.length
  · have s1 := sumOf_take_succ (f := fun y => w_SBillOp y) (d := dSBillOp) h2
    have s2 := sumOf_take_le (fun y => w_SBillOp y) a (k + 1)
    try simp only at s1
    simp only [Int.ofNat_lt, h2, decide_true, cond_true, ix_nat h2, Int.toNat_natCast, bd_eq]
    rw [laws_szBillOp_ok (n := n) (a.getD k dSBillOp) (h.2 _ (getD_mem h2)) (by omega) (by omega) hn, Option.bind_some, bif_dec]
    by_cases c2 : (w_SBillOp (a.getD k dSBillOp) : Int) ≤ left - (a.length : Int) - (sumOf (fun y => w_SBillOp y) (a.take k) : Int)
    · rw [if_pos c2, if_neg (by omega), w64_succ (by omega)]
      exact ih (_, ((k + 1 : Nat) : Int)) ⟨k + 1, h2, Prod.ext (by dsimp only; omega) rfl, by omega⟩ (by simp; omega)
    · rw [if_neg c2, if_pos (by omega), if_neg (by omega)]
  · have : k = a.length := by omega
    subst this
    rw [List.take_length] at hb ⊢
    simp only [Int.lt_irrefl, decide_false, cond_false]
    rw [if_pos (by omega)]
    congr 1
    omega
theorem laws_toStringS_ok {n : Nat} (a : List ByteArray) (hb : w_LBA a ≤ 100000000) (hn : 1000000000 < n) : laws_toStringS n a = some a := by
  have hw0 : a.length ≤ 100000000 := by have hw : w_LBA a = a.length + sumOf (fun y => y.size) a := rfl; omega
  unfold laws_toStringS
  rw [chk_dec (by omega), chk_dec (by omega), chk_dec (by omega)]
  refine loopN_ind (fun x => a.length - x.1.toNat) (fun x => ∃ k : Nat, k ≤ a.length ∧ x = ((k : Int), a.take k ++ (List.replicate a.length (str [])).drop k)) (fun x r => r = some a) ?_ n _ ⟨0, by omega, by simp⟩ (by simp; omega)
  rintro _ J ⟨k, hk, rfl⟩ ih
  unfold laws_toStringS_L3
  dsimp only
  have hl : (a.take k ++ (List.replicate a.length (str [])).drop k).length = a.length := by simp; omega
  by_cases h : k < a.length
  · have g := ih (((k + 1 : Nat) : Int), a.take (k + 1) ++ (List.replicate a.length (str [])).drop (k + 1)) ⟨k + 1, h, rfl⟩ (by simp; omega)
    have s1 := sumOf_mem (f := fun y => y.size) (d := (str [])) h
    have hw : w_LBA a = a.length + sumOf (fun y => y.size) a := rfl
    try simp only at s1
    have hk2 : k < (a.take k ++ (List.replicate a.length (str [])).drop k).length := by omega
    simp only [Int.ofNat_lt, h, hk2, decide_true, cond_true, ix_nat h, ix_nat hk2, chk_of, bd_eq, Option.bind_some, Int.toNat_natCast, w64_succ (show k < 9223372036854775807 by omega)]
    rw [take_drop_set (d := (str [])) h rfl rfl]
    exact g
  · have : k = a.length := by omega
    subst this
    simp
theorem laws_toBill_ok {n : Nat} (a : SBill) (h : w_SBill a ≤ 100000000) (hn : 1000000000 < n) : laws_toBill n a = some a := by
  have hw : w_SBill a = a.Shipper.size + a.Order.size + w_LBA a.Held := rfl
  simp [laws_toBill, laws_toStringS_ok (n := n) a.Held (by omega) hn]
theorem laws_toBillS_ok {n : Nat} (a : List SBill) (hb : w_LSBill a ≤ 100000000) (hn : 1000000000 < n) : laws_toBillS n a = some a := by
  have hw0 : a.length ≤ 100000000 := by have hw : w_LSBill a = a.length + sumOf (fun y => w_SBill y) a := rfl; omega
  unfold laws_toBillS
  rw [chk_dec (by omega), chk_dec (by omega), chk_dec (by omega)]
  refine loopN_ind (fun x => a.length - x.1.toNat) (fun x => ∃ k : Nat, k ≤ a.length ∧ x = ((k : Int), a.take k ++ (List.replicate a.length dSBill).drop k)) (fun x r => r = some a) ?_ n _ ⟨0, by omega, by simp⟩ (by simp; omega)
  rintro _ J ⟨k, hk, rfl⟩ ih
  unfold laws_toBillS_L3
  dsimp only
  have hl : (a.take k ++ (List.replicate a.length dSBill).drop k).length = a.length := by simp; omega
  by_cases h : k < a.length
  · have g := ih (((k + 1 : Nat) : Int), a.take (k + 1) ++ (List.replicate a.length dSBill).drop (k + 1)) ⟨k + 1, h, rfl⟩ (by simp; omega)
    have s1 := sumOf_mem (f := fun y => w_SBill y) (d := dSBill) h
    have hw : w_LSBill a = a.length + sumOf (fun y => w_SBill y) a := rfl
    try simp only at s1
    have hk2 : k < (a.take k ++ (List.replicate a.length dSBill).drop k).length := by omega
    simp only [Int.ofNat_lt, h, hk2, decide_true, cond_true, ix_nat h, ix_nat hk2, chk_of, bd_eq, Option.bind_some, Int.toNat_natCast, w64_succ (show k < 9223372036854775807 by omega), laws_toBill_ok (n := n) (a.getD k dSBill) (by omega) hn]
    rw [take_drop_set (d := dSBill) h rfl rfl]
    exact g
  · have : k = a.length := by omega
    subst this
    simp
theorem laws_toIntS_ok {n : Nat} (a : List Int) (hb : w_LInt a ≤ 100000000) (hn : 1000000000 < n) : laws_toIntS n a = some a := by
  have hw0 : a.length ≤ 100000000 := by have hw : w_LInt a = a.length := rfl; omega
  unfold laws_toIntS
  rw [chk_dec (by omega), chk_dec (by omega), chk_dec (by omega)]
  refine loopN_ind (fun x => a.length - x.1.toNat) (fun x => ∃ k : Nat, k ≤ a.length ∧ x = ((k : Int), a.take k ++ (List.replicate a.length (0 : Int)).drop k)) (fun x r => r = some a) ?_ n _ ⟨0, by omega, by simp⟩ (by simp; omega)
  rintro _ J ⟨k, hk, rfl⟩ ih
  unfold laws_toIntS_L3
  dsimp only
  have hl : (a.take k ++ (List.replicate a.length (0 : Int)).drop k).length = a.length := by simp; omega
  by_cases h : k < a.length
  · have g := ih (((k + 1 : Nat) : Int), a.take (k + 1) ++ (List.replicate a.length (0 : Int)).drop (k + 1)) ⟨k + 1, h, rfl⟩ (by simp; omega)
    have hk2 : k < (a.take k ++ (List.replicate a.length (0 : Int)).drop k).length := by omega
    simp only [Int.ofNat_lt, h, hk2, decide_true, cond_true, ix_nat h, ix_nat hk2, chk_of, bd_eq, Option.bind_some, Int.toNat_natCast, w64_succ (show k < 9223372036854775807 by omega)]
    rw [take_drop_set (d := (0 : Int)) h rfl rfl]
    exact g
  · have : k = a.length := by omega
    subst this
    simp
theorem laws_toBook_ok {n : Nat} (a : SBook) (h : w_SBook a ≤ 100000000) (hn : 1000000000 < n) : laws_toBook n a = some a := by
  have hw : w_SBook a = w_LSBill a.Bills + w_LInt a.Freed := rfl
  simp [laws_toBook, laws_toBillS_ok (n := n) a.Bills (by omega) hn, laws_toIntS_ok (n := n) a.Freed (by omega) hn]
theorem laws_toBillOp_ok {n : Nat} (a : SBillOp) (h : w_SBillOp a ≤ 100000000) (hn : 1000000000 < n) : laws_toBillOp n a = some a := by
  have hw : w_SBillOp a = a.Who.size + a.To.size := rfl
  simp [laws_toBillOp]
theorem laws_toBillOpS_ok {n : Nat} (a : List SBillOp) (hb : w_LSBillOp a ≤ 100000000) (hn : 1000000000 < n) : laws_toBillOpS n a = some a := by
  have hw0 : a.length ≤ 100000000 := by have hw : w_LSBillOp a = a.length + sumOf (fun y => w_SBillOp y) a := rfl; omega
  unfold laws_toBillOpS
  rw [chk_dec (by omega), chk_dec (by omega), chk_dec (by omega)]
  refine loopN_ind (fun x => a.length - x.1.toNat) (fun x => ∃ k : Nat, k ≤ a.length ∧ x = ((k : Int), a.take k ++ (List.replicate a.length dSBillOp).drop k)) (fun x r => r = some a) ?_ n _ ⟨0, by omega, by simp⟩ (by simp; omega)
  rintro _ J ⟨k, hk, rfl⟩ ih
  unfold laws_toBillOpS_L3
  dsimp only
  have hl : (a.take k ++ (List.replicate a.length dSBillOp).drop k).length = a.length := by simp; omega
  by_cases h : k < a.length
  · have g := ih (((k + 1 : Nat) : Int), a.take (k + 1) ++ (List.replicate a.length dSBillOp).drop (k + 1)) ⟨k + 1, h, rfl⟩ (by simp; omega)
    have s1 := sumOf_mem (f := fun y => w_SBillOp y) (d := dSBillOp) h
    have hw : w_LSBillOp a = a.length + sumOf (fun y => w_SBillOp y) a := rfl
    try simp only at s1
    have hk2 : k < (a.take k ++ (List.replicate a.length dSBillOp).drop k).length := by omega
    simp only [Int.ofNat_lt, h, hk2, decide_true, cond_true, ix_nat h, ix_nat hk2, chk_of, bd_eq, Option.bind_some, Int.toNat_natCast, w64_succ (show k < 9223372036854775807 by omega), laws_toBillOp_ok (n := n) (a.getD k dSBillOp) (by omega) hn]
    rw [take_drop_set (d := dSBillOp) h rfl rfl]
    exact g
  · have : k = a.length := by omega
    subst this
    simp
theorem laws_eqStringS_ok {n : Nat} (a : List ByteArray) (hb : w_LBA a ≤ 100000000) (hn : 1000000000 < n) : laws_eqStringS n a a = some true := by
  have hw0 : a.length ≤ 100000000 := by have hw : w_LBA a = a.length + sumOf (fun y => y.size) a := rfl; omega
  unfold laws_eqStringS
  simp only [decide_true, Bool.not_true, cond_false]
  refine loopN_ind (fun x => a.length - x.toNat) (fun x => ∃ k : Nat, k ≤ a.length ∧ x = (k : Int)) (fun x r => r = some true) ?_ n _ ⟨0, by omega, rfl⟩ (by simp; omega)
  rintro _ J ⟨k, hk, rfl⟩ ih
  unfold laws_eqStringS_L4
  by_cases h : k < a.length
  · have g := ih ((k + 1 : Nat) : Int) ⟨k + 1, h, rfl⟩ (by simp; omega)
    have s1 := sumOf_mem (f := fun y => y.size) (d := (str [])) h
    have hw : w_LBA a = a.length + sumOf (fun y => y.size) a := rfl
    try simp only at s1
    simp only [Int.ofNat_lt, h, decide_true, cond_true, ix_nat h, Bool.not_true, cond_false, bd_eq, Option.bind_some, beq_self_eq_true, Int.toNat_natCast, w64_succ (show k < 9223372036854775807 by omega)]
    exact g
  · simp [h]
theorem laws_eqBill_ok {n : Nat} (a : SBill) (h : w_SBill a ≤ 100000000) (hn : 1000000000 < n) : laws_eqBill n a a = some true := by
  have hw : w_SBill a = a.Shipper.size + a.Order.size + w_LBA a.Held := rfl
  simp [laws_eqBill, laws_eqBill_k0, laws_eqStringS_ok (n := n) a.Held (by omega) hn]
theorem laws_eqBillS_ok {n : Nat} (a : List SBill) (hb : w_LSBill a ≤ 100000000) (hn : 1000000000 < n) : laws_eqBillS n a a = some true := by
  have hw0 : a.length ≤ 100000000 := by have hw : w_LSBill a = a.length + sumOf (fun y => w_SBill y) a := rfl; omega
  unfold laws_eqBillS
  simp only [decide_true, Bool.not_true, cond_false]
  refine loopN_ind (fun x => a.length - x.toNat) (fun x => ∃ k : Nat, k ≤ a.length ∧ x = (k : Int)) (fun x r => r = some true) ?_ n _ ⟨0, by omega, rfl⟩ (by simp; omega)
  rintro _ J ⟨k, hk, rfl⟩ ih
  unfold laws_eqBillS_L4
  by_cases h : k < a.length
  · have g := ih ((k + 1 : Nat) : Int) ⟨k + 1, h, rfl⟩ (by simp; omega)
    have s1 := sumOf_mem (f := fun y => w_SBill y) (d := dSBill) h
    have hw : w_LSBill a = a.length + sumOf (fun y => w_SBill y) a := rfl
    try simp only at s1
    simp only [Int.ofNat_lt, h, decide_true, cond_true, ix_nat h, Bool.not_true, cond_false, bd_eq, Option.bind_some, beq_self_eq_true, Int.toNat_natCast, w64_succ (show k < 9223372036854775807 by omega), laws_eqBill_ok (n := n) (a.getD k dSBill) (by omega) hn]
    exact g
  · simp [h]
theorem laws_eqIntS_ok {n : Nat} (a : List Int) (hb : w_LInt a ≤ 100000000) (hn : 1000000000 < n) : laws_eqIntS n a a = some true := by
  have hw0 : a.length ≤ 100000000 := by have hw : w_LInt a = a.length := rfl; omega
  unfold laws_eqIntS
  simp only [decide_true, Bool.not_true, cond_false]
  refine loopN_ind (fun x => a.length - x.toNat) (fun x => ∃ k : Nat, k ≤ a.length ∧ x = (k : Int)) (fun x r => r = some true) ?_ n _ ⟨0, by omega, rfl⟩ (by simp; omega)
  rintro _ J ⟨k, hk, rfl⟩ ih
  unfold laws_eqIntS_L4
  by_cases h : k < a.length
  · have g := ih ((k + 1 : Nat) : Int) ⟨k + 1, h, rfl⟩ (by simp; omega)
    simp only [Int.ofNat_lt, h, decide_true, cond_true, ix_nat h, Bool.not_true, cond_false, bd_eq, Option.bind_some, beq_self_eq_true, Int.toNat_natCast, w64_succ (show k < 9223372036854775807 by omega)]
    exact g
  · simp [h]
theorem laws_eqBook_ok {n : Nat} (a : SBook) (h : w_SBook a ≤ 100000000) (hn : 1000000000 < n) : laws_eqBook n a a = some true := by
  have hw : w_SBook a = w_LSBill a.Bills + w_LInt a.Freed := rfl
  simp [laws_eqBook, laws_eqBillS_ok (n := n) a.Bills (by omega) hn, laws_eqIntS_ok (n := n) a.Freed (by omega) hn]
theorem laws_eqBillOp_ok {n : Nat} (a : SBillOp) (h : w_SBillOp a ≤ 100000000) (hn : 1000000000 < n) : laws_eqBillOp n a a = some true := by
  have hw : w_SBillOp a = a.Who.size + a.To.size := rfl
  simp [laws_eqBillOp, laws_eqBillOp_k0]
theorem laws_eqBillOpS_ok {n : Nat} (a : List SBillOp) (hb : w_LSBillOp a ≤ 100000000) (hn : 1000000000 < n) : laws_eqBillOpS n a a = some true := by
  have hw0 : a.length ≤ 100000000 := by have hw : w_LSBillOp a = a.length + sumOf (fun y => w_SBillOp y) a := rfl; omega
  unfold laws_eqBillOpS
  simp only [decide_true, Bool.not_true, cond_false]
  refine loopN_ind (fun x => a.length - x.toNat) (fun x => ∃ k : Nat, k ≤ a.length ∧ x = (k : Int)) (fun x r => r = some true) ?_ n _ ⟨0, by omega, rfl⟩ (by simp; omega)
  rintro _ J ⟨k, hk, rfl⟩ ih
  unfold laws_eqBillOpS_L4
  by_cases h : k < a.length
  · have g := ih ((k + 1 : Nat) : Int) ⟨k + 1, h, rfl⟩ (by simp; omega)
    have s1 := sumOf_mem (f := fun y => w_SBillOp y) (d := dSBillOp) h
    have hw : w_LSBillOp a = a.length + sumOf (fun y => w_SBillOp y) a := rfl
    try simp only at s1
    simp only [Int.ofNat_lt, h, decide_true, cond_true, ix_nat h, Bool.not_true, cond_false, bd_eq, Option.bind_some, beq_self_eq_true, Int.toNat_natCast, w64_succ (show k < 9223372036854775807 by omega), laws_eqBillOp_ok (n := n) (a.getD k dSBillOp) (by omega) hn]
    exact g
  · simp [h]
def Mk_LBA (n : Nat) (k : Int) (a x : ByteArray) : Prop := laws_markText n (k) = some x
def n_LBA (a : List ByteArray) : Nat := sumOf (fun y => 1) a
theorem n_LBA_eq (a : List ByteArray) : n_LBA a = 1 * a.length := sumOf_const 1 a
theorem n_LBA_le (a : List ByteArray) : n_LBA a ≤ 1 * w_LBA a := by
  have h := n_LBA_eq a
  have h2 : w_LBA a = a.length + sumOf (fun y : ByteArray => y.size) a := rfl
  omega
theorem laws_markStringS_i {n : Nat} (a : List ByteArray) (k0 : Int) (hk0 : 0 ≤ k0) (hb : k0 + ((n_LBA a : Nat) : Int) ≤ 900000000) (hw : w_LBA a ≤ 100000000) (hn : 1000000000 < n) :
    ∃ p : List ByteArray, laws_markStringS n a k0 = some (k0 + ((n_LBA a : Nat) : Int), p) ∧ p.length = a.length ∧ ∀ i, i < a.length → Mk_LBA n (k0 + ((sumOf (fun y => 1) (a.take i) : Nat) : Int)) (a.getD i (str [])) (p.getD i (str [])) := by
  have hw0 : a.length ≤ 100000000 := by have hw : w_LBA a = a.length + sumOf (fun y => y.size) a := rfl; omega
  have hnA : n_LBA a = sumOf (fun y => 1) a := rfl
  unfold laws_markStringS
  refine loopN_ind (fun x => a.length - x.2.1.toNat) (fun x => ∃ (k : Nat) (p : List ByteArray), k ≤ a.length ∧ x = (k0 + ((sumOf (fun y => 1) (a.take k) : Nat) : Int), (k : Int), p) ∧ p.length = a.length ∧
      (∀ i, i < k → Mk_LBA n (k0 + ((sumOf (fun y => 1) (a.take i) : Nat) : Int)) (a.getD i (str [])) (p.getD i (str []))) ∧ ∀ i, k ≤ i → p.getD i (str []) = a.getD i (str []))
    (fun x r => ∃ p : List ByteArray, r = some (k0 + ((n_LBA a : Nat) : Int), p) ∧ p.length = a.length ∧ ∀ i, i < a.length → Mk_LBA n (k0 + ((sumOf (fun y => 1) (a.take i) : Nat) : Int)) (a.getD i (str [])) (p.getD i (str []))) ?_ n _ ⟨0, a, by omega, by simp [sumOf], rfl, by omega, fun _ _ => rfl⟩ (by simp; omega)
  rintro _ J ⟨k, p, hk, rfl, hp, hm, hrest⟩ ih
  by_cases h : k < a.length
  · have h' : k < p.length := by omega
    have s1 := sumOf_take_succ (f := fun y => 1) (d := (str [])) h
    have s2 := sumOf_take_le (fun y => 1) a (k + 1)
    try simp only at s1
    obtain ⟨kk, hkk⟩ : ∃ kk : Int, kk = k0 + ((sumOf (fun y => 1) (a.take k) : Nat) : Int) := ⟨_, rfl⟩
    have hpk := hrest k (Nat.le_refl _)
    have s3 := sumOf_mem (f := fun y => y.size) (d := (str [])) h
    have hwx : w_LBA a = a.length + sumOf (fun y => y.size) a := rfl
    try simp only at s3

    obtain ⟨t0, ht0⟩ := laws_markText_ok (n := n) (kk) (by omega) hn
    have step : ∀ (K : Int → List ByteArray → Option (Int × List ByteArray)) (J : Int → Int → List ByteArray → Option (Int × List ByteArray)), laws_markStringS_L2 n K J kk (k : Int) p = J (kk + 1) ((k : Int) + 1) (p.set k (t0)) := fun K J => by
      unfold laws_markStringS_L2
      simp (disch := omega) only [Int.ofNat_lt, h', decide_true, cond_true, ix_nat h', List.length_set, chk_of, chk_true, bd_eq, getD_set h', List.set_set, hpk, Int.toNat_natCast, w64_id, Int.add_assoc, Int.reduceAdd, Option.bind_some, ht0]
    dsimp only
    rw [← hkk]
    refine (congrArg (fun z => ∃ q : List ByteArray, z = some (k0 + ((n_LBA a : Nat) : Int), q) ∧ q.length = a.length ∧ ∀ i, i < a.length → Mk_LBA n (k0 + ((sumOf (fun y => 1) (a.take i) : Nat) : Int)) (a.getD i (str [])) (q.getD i (str []))) (step _ _)).mpr ?_
    refine ih _ ⟨k + 1, _, h, Prod.ext (by dsimp only; omega) (Prod.ext (by dsimp only; omega) rfl), by simpa using hp, fun i hi => ?_, fun i hi => ?_⟩ (by dsimp only; omega)
    · by_cases e : i = k
      · subst e
        rw [getD_set h', ← hkk]
        unfold Mk_LBA
        exact ht0
      · rw [getD_set_ne e]
        exact hm i (by omega)
    · rw [getD_set_ne (by omega)]
      exact hrest i (by omega)
  · have : k = a.length := by omega
    subst this
    unfold laws_markStringS_L2
    simp only [hp, Int.lt_irrefl, decide_false, cond_false]
    rw [List.take_length]
    exact ⟨p, rfl, hp, hm⟩
theorem laws_heldStringS_i {n : Nat} (a p : List ByteArray) (hp : p.length = a.length) (k0 : Int) (hk0 : 0 ≤ k0) (hb : k0 + ((n_LBA a : Nat) : Int) ≤ 900000000) (hw : w_LBA a ≤ 100000000) (hn : 1000000000 < n)
    (hm : ∀ i, i < a.length → Mk_LBA n (k0 + ((sumOf (fun y => 1) (a.take i) : Nat) : Int)) (a.getD i (str [])) (p.getD i (str []))) : laws_heldStringS n p k0 = some (k0 + ((n_LBA a : Nat) : Int)) := by
  have hw0 : a.length ≤ 100000000 := by have hw : w_LBA a = a.length + sumOf (fun y => y.size) a := rfl; omega
  have hnA : n_LBA a = sumOf (fun y => 1) a := rfl
  unfold laws_heldStringS
  refine loopN_ind (fun x => a.length - x.2.toNat) (fun x => ∃ (k : Nat), k ≤ a.length ∧ x = (k0 + ((sumOf (fun y => 1) (a.take k) : Nat) : Int), (k : Int)))
    (fun x r => r = some (k0 + ((n_LBA a : Nat) : Int))) ?_ n _ ⟨0, by omega, by simp [sumOf]⟩ (by simp; omega)
  rintro _ J ⟨k, hk, rfl⟩ ih
  by_cases h : k < a.length
  · have h' : k < p.length := by omega
    have s1 := sumOf_take_succ (f := fun y => 1) (d := (str [])) h
    have s2 := sumOf_take_le (fun y => 1) a (k + 1)
    try simp only at s1
    have hmk := hm k h
    unfold Mk_LBA at hmk
    obtain ⟨kk, hkk⟩ : ∃ kk : Int, kk = k0 + ((sumOf (fun y => 1) (a.take k) : Nat) : Int) := ⟨_, rfl⟩
    rw [← hkk] at hmk
    try simp (disch := omega) only [Int.add_assoc, Int.reduceAdd] at hmk
    have e0 := hmk
    have step : ∀ (K K2 : Int → Option Int) (J : Int → Int → Option Int), laws_heldStringS_L2 n K K2 J p kk (k : Int) = J (kk + 1) ((k : Int) + 1) := fun K K2 J => by
      unfold laws_heldStringS_L2
      simp (disch := omega) only [Int.ofNat_lt, h', decide_true, cond_true, ix_nat h', bd_eq, Int.toNat_natCast, w64_id, Int.add_assoc, Int.reduceAdd, Option.bind_some, Bool.not_true, cond_false, beq_self_eq_true, decide_eq_false_iff_not, Int.not_lt, bif_dec, if_neg, e0]
    dsimp only
    rw [← hkk]
    refine (step _ _ _).trans ?_
    exact ih (_, _) ⟨k + 1, h, Prod.ext (by dsimp only; omega) (by dsimp only; omega)⟩ (by dsimp only; omega)
  · have : k = a.length := by omega
    subst this
    unfold laws_heldStringS_L2
    simp only [hp, Int.lt_irrefl, decide_false, cond_false]
    rw [List.take_length]
    rfl
theorem laws_markStringS_ok {n : Nat} (a : List ByteArray) (k0 : Int) (hk0 : 0 ≤ k0) (hb : k0 + ((n_LBA a : Nat) : Int) ≤ 900000000) (hw : w_LBA a ≤ 100000000) (hn : 1000000000 < n) : ∃ p : List ByteArray, laws_markStringS n a k0 = some (k0 + ((n_LBA a : Nat) : Int), p) ∧ laws_heldStringS n p k0 = some (k0 + ((n_LBA a : Nat) : Int)) := by
  obtain ⟨p, h1, h2, h3⟩ := laws_markStringS_i (n := n) a k0 hk0 hb hw hn
  exact ⟨p, h1, laws_heldStringS_i a p h2 k0 hk0 hb hw hn h3⟩
def Mk_LSBill (n : Nat) (k : Int) (a x : SBill) : Prop := x.Id = k ∧ laws_markText n (k + 1) = some x.Shipper ∧ laws_markText n (k + 2) = some x.Order ∧ x.Many = k + 3 ∧ laws_heldStringS n x.Held (k + 4) = some (k + 4 + ((n_LBA a.Held : Nat) : Int))
def n_LSBill (a : List SBill) : Nat := sumOf (fun y => 4 + n_LBA y.Held) a
theorem n_LSBill_le (a : List SBill) : n_LSBill a ≤ 4 * w_LSBill a := by
  have h := sumOf_lin (f := fun y : SBill => 4 + n_LBA y.Held) (g := fun y : SBill => w_SBill y) (c := 1) (s := 4) (fun y => by have q0 := n_LBA_le y.Held; have hw : w_SBill y = y.Shipper.size + y.Order.size + w_LBA y.Held := rfl; show 4 + n_LBA y.Held ≤ 1 * (w_SBill y) + 4; omega) a
  have h1 : n_LSBill a = sumOf (fun y : SBill => 4 + n_LBA y.Held) a := rfl
  have h2 : w_LSBill a = a.length + sumOf (fun y : SBill => w_SBill y) a := rfl
  omega
theorem laws_markBillS_i {n : Nat} (a : List SBill) (k0 : Int) (hk0 : 0 ≤ k0) (hb : k0 + ((n_LSBill a : Nat) : Int) ≤ 900000000) (hw : w_LSBill a ≤ 100000000) (hn : 1000000000 < n) :
    ∃ p : List SBill, laws_markBillS n a k0 = some (k0 + ((n_LSBill a : Nat) : Int), p) ∧ p.length = a.length ∧ ∀ i, i < a.length → Mk_LSBill n (k0 + ((sumOf (fun y => 4 + n_LBA y.Held) (a.take i) : Nat) : Int)) (a.getD i dSBill) (p.getD i dSBill) := by
  have hw0 : a.length ≤ 100000000 := by have hw : w_LSBill a = a.length + sumOf (fun y => w_SBill y) a := rfl; omega
  have hnA : n_LSBill a = sumOf (fun y => 4 + n_LBA y.Held) a := rfl
  unfold laws_markBillS
  refine loopN_ind (fun x => a.length - x.2.1.toNat) (fun x => ∃ (k : Nat) (p : List SBill), k ≤ a.length ∧ x = (k0 + ((sumOf (fun y => 4 + n_LBA y.Held) (a.take k) : Nat) : Int), (k : Int), p) ∧ p.length = a.length ∧
      (∀ i, i < k → Mk_LSBill n (k0 + ((sumOf (fun y => 4 + n_LBA y.Held) (a.take i) : Nat) : Int)) (a.getD i dSBill) (p.getD i dSBill)) ∧ ∀ i, k ≤ i → p.getD i dSBill = a.getD i dSBill)
    (fun x r => ∃ p : List SBill, r = some (k0 + ((n_LSBill a : Nat) : Int), p) ∧ p.length = a.length ∧ ∀ i, i < a.length → Mk_LSBill n (k0 + ((sumOf (fun y => 4 + n_LBA y.Held) (a.take i) : Nat) : Int)) (a.getD i dSBill) (p.getD i dSBill)) ?_ n _ ⟨0, a, by omega, by simp [sumOf], rfl, by omega, fun _ _ => rfl⟩ (by simp; omega)
  rintro _ J ⟨k, p, hk, rfl, hp, hm, hrest⟩ ih
  by_cases h : k < a.length
  · have h' : k < p.length := by omega
    have s1 := sumOf_take_succ (f := fun y => 4 + n_LBA y.Held) (d := dSBill) h
    have s2 := sumOf_take_le (fun y => 4 + n_LBA y.Held) a (k + 1)
    try simp only at s1
    obtain ⟨kk, hkk⟩ : ∃ kk : Int, kk = k0 + ((sumOf (fun y => 4 + n_LBA y.Held) (a.take k) : Nat) : Int) := ⟨_, rfl⟩
    have hpk := hrest k (Nat.le_refl _)
    have s3 := sumOf_mem (f := fun y => w_SBill y) (d := dSBill) h
    have hwx : w_LSBill a = a.length + sumOf (fun y => w_SBill y) a := rfl
    try simp only at s3
    have hwy : w_SBill (a.getD k dSBill) = ((a.getD k dSBill).Shipper).size + ((a.getD k dSBill).Order).size + w_LBA ((a.getD k dSBill).Held) := rfl
    obtain ⟨t0, ht0⟩ := laws_markText_ok (n := n) (kk + 1) (by omega) hn
    obtain ⟨t1, ht1⟩ := laws_markText_ok (n := n) (kk + 2) (by omega) hn
    obtain ⟨t2, ht2, hh2⟩ := laws_markStringS_ok (n := n) (a.getD k dSBill).Held (kk + 4) (by omega) (by omega) (by omega) hn
    have step : ∀ (K : Int → List SBill → Option (Int × List SBill)) (J : Int → Int → List SBill → Option (Int × List SBill)), laws_markBillS_L2 n K J kk (k : Int) p = J (kk + 4 + ((n_LBA ((a.getD k dSBill).Held) : Nat) : Int)) ((k : Int) + 1) (p.set k (⟨(kk), (t0), (t1), (kk + 3), (t2)⟩ : SBill)) := fun K J => by
      unfold laws_markBillS_L2
      simp (disch := omega) only [laws_markBillS_k0, Int.ofNat_lt, h', decide_true, cond_true, ix_nat h', List.length_set, chk_of, chk_true, bd_eq, getD_set h', List.set_set, hpk, Int.toNat_natCast, w64_id, Int.add_assoc, Int.reduceAdd, Option.bind_some, ht0, ht1, ht2]
    dsimp only
    rw [← hkk]
    refine (congrArg (fun z => ∃ q : List SBill, z = some (k0 + ((n_LSBill a : Nat) : Int), q) ∧ q.length = a.length ∧ ∀ i, i < a.length → Mk_LSBill n (k0 + ((sumOf (fun y => 4 + n_LBA y.Held) (a.take i) : Nat) : Int)) (a.getD i dSBill) (q.getD i dSBill)) (step _ _)).mpr ?_
    refine ih _ ⟨k + 1, _, h, Prod.ext (by dsimp only; omega) (Prod.ext (by dsimp only; omega) rfl), by simpa using hp, fun i hi => ?_, fun i hi => ?_⟩ (by dsimp only; omega)
    · by_cases e : i = k
      · subst e
        rw [getD_set h', ← hkk]
        unfold Mk_LSBill
        exact ⟨rfl, ht0, ht1, rfl, hh2⟩
      · rw [getD_set_ne e]
        exact hm i (by omega)
    · rw [getD_set_ne (by omega)]
      exact hrest i (by omega)
  · have : k = a.length := by omega
    subst this
    unfold laws_markBillS_L2
    simp only [hp, Int.lt_irrefl, decide_false, cond_false]
    rw [List.take_length]
    exact ⟨p, rfl, hp, hm⟩
theorem laws_heldBillS_i {n : Nat} (a p : List SBill) (hp : p.length = a.length) (k0 : Int) (hk0 : 0 ≤ k0) (hb : k0 + ((n_LSBill a : Nat) : Int) ≤ 900000000) (hw : w_LSBill a ≤ 100000000) (hn : 1000000000 < n)
    (hm : ∀ i, i < a.length → Mk_LSBill n (k0 + ((sumOf (fun y => 4 + n_LBA y.Held) (a.take i) : Nat) : Int)) (a.getD i dSBill) (p.getD i dSBill)) : laws_heldBillS n p k0 = some (k0 + ((n_LSBill a : Nat) : Int)) := by
  have hw0 : a.length ≤ 100000000 := by have hw : w_LSBill a = a.length + sumOf (fun y => w_SBill y) a := rfl; omega
  have hnA : n_LSBill a = sumOf (fun y => 4 + n_LBA y.Held) a := rfl
  unfold laws_heldBillS
  refine loopN_ind (fun x => a.length - x.2.toNat) (fun x => ∃ (k : Nat), k ≤ a.length ∧ x = (k0 + ((sumOf (fun y => 4 + n_LBA y.Held) (a.take k) : Nat) : Int), (k : Int)))
    (fun x r => r = some (k0 + ((n_LSBill a : Nat) : Int))) ?_ n _ ⟨0, by omega, by simp [sumOf]⟩ (by simp; omega)
  rintro _ J ⟨k, hk, rfl⟩ ih
  by_cases h : k < a.length
  · have h' : k < p.length := by omega
    have s1 := sumOf_take_succ (f := fun y => 4 + n_LBA y.Held) (d := dSBill) h
    have s2 := sumOf_take_le (fun y => 4 + n_LBA y.Held) a (k + 1)
    try simp only at s1
    have hmk := hm k h
    unfold Mk_LSBill at hmk
    obtain ⟨kk, hkk⟩ : ∃ kk : Int, kk = k0 + ((sumOf (fun y => 4 + n_LBA y.Held) (a.take k) : Nat) : Int) := ⟨_, rfl⟩
    rw [← hkk] at hmk
    try simp (disch := omega) only [Int.add_assoc, Int.reduceAdd] at hmk
    obtain ⟨e0, e1, e2, e3, e4⟩ := hmk
    have step : ∀ (K K2 : Int → Option Int) (J : Int → Int → Option Int), laws_heldBillS_L2 n K K2 J p kk (k : Int) = J (kk + 4 + ((n_LBA ((a.getD k dSBill).Held) : Nat) : Int)) ((k : Int) + 1) := fun K K2 J => by
      unfold laws_heldBillS_L2
      simp (disch := omega) only [laws_heldBillS_k1, laws_heldBillS_k0, Int.ofNat_lt, h', decide_true, cond_true, ix_nat h', bd_eq, Int.toNat_natCast, w64_id, Int.add_assoc, Int.reduceAdd, Option.bind_some, Bool.not_true, cond_false, beq_self_eq_true, decide_eq_false_iff_not, Int.not_lt, bif_dec, if_neg, e0, e1, e2, e3, e4]
    dsimp only
    rw [← hkk]
    refine (step _ _ _).trans ?_
    exact ih (_, _) ⟨k + 1, h, Prod.ext (by dsimp only; omega) (by dsimp only; omega)⟩ (by dsimp only; omega)
  · have : k = a.length := by omega
    subst this
    unfold laws_heldBillS_L2
    simp only [hp, Int.lt_irrefl, decide_false, cond_false]
    rw [List.take_length]
    rfl
theorem laws_markBillS_ok {n : Nat} (a : List SBill) (k0 : Int) (hk0 : 0 ≤ k0) (hb : k0 + ((n_LSBill a : Nat) : Int) ≤ 900000000) (hw : w_LSBill a ≤ 100000000) (hn : 1000000000 < n) : ∃ p : List SBill, laws_markBillS n a k0 = some (k0 + ((n_LSBill a : Nat) : Int), p) ∧ laws_heldBillS n p k0 = some (k0 + ((n_LSBill a : Nat) : Int)) := by
  obtain ⟨p, h1, h2, h3⟩ := laws_markBillS_i (n := n) a k0 hk0 hb hw hn
  exact ⟨p, h1, laws_heldBillS_i a p h2 k0 hk0 hb hw hn h3⟩
def Mk_LInt (n : Nat) (k : Int) (a x : Int) : Prop := x = k
def n_LInt (a : List Int) : Nat := sumOf (fun y => 1) a
theorem n_LInt_eq (a : List Int) : n_LInt a = 1 * a.length := sumOf_const 1 a
theorem n_LInt_le (a : List Int) : n_LInt a ≤ 1 * w_LInt a := by
  have h := n_LInt_eq a
  have h2 : w_LInt a = a.length := rfl
  omega
theorem laws_markIntS_i {n : Nat} (a : List Int) (k0 : Int) (hk0 : 0 ≤ k0) (hb : k0 + ((n_LInt a : Nat) : Int) ≤ 900000000) (hw : w_LInt a ≤ 100000000) (hn : 1000000000 < n) :
    ∃ p : List Int, laws_markIntS n a k0 = some (k0 + ((n_LInt a : Nat) : Int), p) ∧ p.length = a.length ∧ ∀ i, i < a.length → Mk_LInt n (k0 + ((sumOf (fun y => 1) (a.take i) : Nat) : Int)) (a.getD i (0 : Int)) (p.getD i (0 : Int)) := by
  have hw0 : a.length ≤ 100000000 := by have hw : w_LInt a = a.length := rfl; omega
  have hnA : n_LInt a = sumOf (fun y => 1) a := rfl
  unfold laws_markIntS
  refine loopN_ind (fun x => a.length - x.2.1.toNat) (fun x => ∃ (k : Nat) (p : List Int), k ≤ a.length ∧ x = (k0 + ((sumOf (fun y => 1) (a.take k) : Nat) : Int), (k : Int), p) ∧ p.length = a.length ∧
      (∀ i, i < k → Mk_LInt n (k0 + ((sumOf (fun y => 1) (a.take i) : Nat) : Int)) (a.getD i (0 : Int)) (p.getD i (0 : Int))) ∧ ∀ i, k ≤ i → p.getD i (0 : Int) = a.getD i (0 : Int))
    (fun x r => ∃ p : List Int, r = some (k0 + ((n_LInt a : Nat) : Int), p) ∧ p.length = a.length ∧ ∀ i, i < a.length → Mk_LInt n (k0 + ((sumOf (fun y => 1) (a.take i) : Nat) : Int)) (a.getD i (0 : Int)) (p.getD i (0 : Int))) ?_ n _ ⟨0, a, by omega, by simp [sumOf], rfl, by omega, fun _ _ => rfl⟩ (by simp; omega)
  rintro _ J ⟨k, p, hk, rfl, hp, hm, hrest⟩ ih
  by_cases h : k < a.length
  · have h' : k < p.length := by omega
    have s1 := sumOf_take_succ (f := fun y => 1) (d := (0 : Int)) h
    have s2 := sumOf_take_le (fun y => 1) a (k + 1)
    try simp only at s1
    obtain ⟨kk, hkk⟩ : ∃ kk : Int, kk = k0 + ((sumOf (fun y => 1) (a.take k) : Nat) : Int) := ⟨_, rfl⟩
    have hpk := hrest k (Nat.le_refl _)
    have step : ∀ (K : Int → List Int → Option (Int × List Int)) (J : Int → Int → List Int → Option (Int × List Int)), laws_markIntS_L2 n K J kk (k : Int) p = J (kk + 1) ((k : Int) + 1) (p.set k (kk)) := fun K J => by
      unfold laws_markIntS_L2
      simp (disch := omega) only [Int.ofNat_lt, h', decide_true, cond_true, ix_nat h', List.length_set, chk_of, chk_true, bd_eq, getD_set h', List.set_set, hpk, Int.toNat_natCast, w64_id, Int.add_assoc, Int.reduceAdd, Option.bind_some]
    dsimp only
    rw [← hkk]
    refine (congrArg (fun z => ∃ q : List Int, z = some (k0 + ((n_LInt a : Nat) : Int), q) ∧ q.length = a.length ∧ ∀ i, i < a.length → Mk_LInt n (k0 + ((sumOf (fun y => 1) (a.take i) : Nat) : Int)) (a.getD i (0 : Int)) (q.getD i (0 : Int))) (step _ _)).mpr ?_
    refine ih _ ⟨k + 1, _, h, Prod.ext (by dsimp only; omega) (Prod.ext (by dsimp only; omega) rfl), by simpa using hp, fun i hi => ?_, fun i hi => ?_⟩ (by dsimp only; omega)
    · by_cases e : i = k
      · subst e
        rw [getD_set h', ← hkk]
        unfold Mk_LInt
        exact rfl
      · rw [getD_set_ne e]
        exact hm i (by omega)
    · rw [getD_set_ne (by omega)]
      exact hrest i (by omega)
  · have : k = a.length := by omega
    subst this
    unfold laws_markIntS_L2
    simp only [hp, Int.lt_irrefl, decide_false, cond_false]
    rw [List.take_length]
    exact ⟨p, rfl, hp, hm⟩
theorem laws_heldIntS_i {n : Nat} (a p : List Int) (hp : p.length = a.length) (k0 : Int) (hk0 : 0 ≤ k0) (hb : k0 + ((n_LInt a : Nat) : Int) ≤ 900000000) (hw : w_LInt a ≤ 100000000) (hn : 1000000000 < n)
    (hm : ∀ i, i < a.length → Mk_LInt n (k0 + ((sumOf (fun y => 1) (a.take i) : Nat) : Int)) (a.getD i (0 : Int)) (p.getD i (0 : Int))) : laws_heldIntS n p k0 = some (k0 + ((n_LInt a : Nat) : Int)) := by
  have hw0 : a.length ≤ 100000000 := by have hw : w_LInt a = a.length := rfl; omega
  have hnA : n_LInt a = sumOf (fun y => 1) a := rfl
  unfold laws_heldIntS
  refine loopN_ind (fun x => a.length - x.2.toNat) (fun x => ∃ (k : Nat), k ≤ a.length ∧ x = (k0 + ((sumOf (fun y => 1) (a.take k) : Nat) : Int), (k : Int)))
    (fun x r => r = some (k0 + ((n_LInt a : Nat) : Int))) ?_ n _ ⟨0, by omega, by simp [sumOf]⟩ (by simp; omega)
  rintro _ J ⟨k, hk, rfl⟩ ih
  by_cases h : k < a.length
  · have h' : k < p.length := by omega
    have s1 := sumOf_take_succ (f := fun y => 1) (d := (0 : Int)) h
    have s2 := sumOf_take_le (fun y => 1) a (k + 1)
    try simp only at s1
    have hmk := hm k h
    unfold Mk_LInt at hmk
    obtain ⟨kk, hkk⟩ : ∃ kk : Int, kk = k0 + ((sumOf (fun y => 1) (a.take k) : Nat) : Int) := ⟨_, rfl⟩
    rw [← hkk] at hmk
    try simp (disch := omega) only [Int.add_assoc, Int.reduceAdd] at hmk
    have e0 := hmk
    have step : ∀ (K K2 : Int → Option Int) (J : Int → Int → Option Int), laws_heldIntS_L2 n K K2 J p kk (k : Int) = J (kk + 1) ((k : Int) + 1) := fun K K2 J => by
      unfold laws_heldIntS_L2
      simp (disch := omega) only [Int.ofNat_lt, h', decide_true, cond_true, ix_nat h', bd_eq, Int.toNat_natCast, w64_id, Int.add_assoc, Int.reduceAdd, Option.bind_some, Bool.not_true, cond_false, beq_self_eq_true, decide_eq_false_iff_not, Int.not_lt, bif_dec, if_neg, e0]
    dsimp only
    rw [← hkk]
    refine (step _ _ _).trans ?_
    exact ih (_, _) ⟨k + 1, h, Prod.ext (by dsimp only; omega) (by dsimp only; omega)⟩ (by dsimp only; omega)
  · have : k = a.length := by omega
    subst this
    unfold laws_heldIntS_L2
    simp only [hp, Int.lt_irrefl, decide_false, cond_false]
    rw [List.take_length]
    rfl
theorem laws_markIntS_ok {n : Nat} (a : List Int) (k0 : Int) (hk0 : 0 ≤ k0) (hb : k0 + ((n_LInt a : Nat) : Int) ≤ 900000000) (hw : w_LInt a ≤ 100000000) (hn : 1000000000 < n) : ∃ p : List Int, laws_markIntS n a k0 = some (k0 + ((n_LInt a : Nat) : Int), p) ∧ laws_heldIntS n p k0 = some (k0 + ((n_LInt a : Nat) : Int)) := by
  obtain ⟨p, h1, h2, h3⟩ := laws_markIntS_i (n := n) a k0 hk0 hb hw hn
  exact ⟨p, h1, laws_heldIntS_i a p h2 k0 hk0 hb hw hn h3⟩
theorem laws_markBook_ok {n : Nat} (a : SBook) (k0 : Int) (hk0 : 0 ≤ k0) (hb : k0 + ((n_LSBill a.Bills + n_LInt a.Freed : Nat) : Int) ≤ 900000000) (hw : w_SBook a ≤ 100000000) (hn : 1000000000 < n) : ∃ w0 w1, laws_markBook n a k0 = some (k0 + ((n_LSBill a.Bills + n_LInt a.Freed : Nat) : Int), w0, w1) ∧ ∀ b : SBook, b.Bills = w0 → b.Freed = w1 → laws_heldBook n b k0 = some (k0 + ((n_LSBill a.Bills + n_LInt a.Freed : Nat) : Int)) := by
  have hww : w_SBook a = w_LSBill a.Bills + w_LInt a.Freed := rfl
  obtain ⟨w0, x0, y0⟩ := laws_markBillS_ok (n := n) a.Bills (k0) (by omega) (by omega) (by omega) hn
  obtain ⟨w1, x1, y1⟩ := laws_markIntS_ok (n := n) a.Freed (k0 + (n_LSBill a.Bills : Int)) (by omega) (by omega) (by omega) hn
  refine ⟨w0, w1, ?_, fun b g0 g1 => ?_⟩
  · unfold laws_markBook
    simp only [x0, x1, Option.bind_some]
    first | done | (congr 2; omega)
  · unfold laws_heldBook
    rw [g0, y0, Option.bind_some, bif_dec, if_neg (by omega)]
    rw [g1, y1, Option.bind_some, bif_dec, if_neg (by omega)]
    first | done | (congr 1; omega)
def Mk_LSBillOp (n : Nat) (k : Int) (a x : SBillOp) : Prop := x.Kind = k ∧ x.Id = k + 1 ∧ laws_markText n (k + 2) = some x.Who ∧ laws_markText n (k + 3) = some x.To ∧ x.Number = k + 4 ∧ x.Many = k + 5
def n_LSBillOp (a : List SBillOp) : Nat := sumOf (fun y => 6) a
theorem n_LSBillOp_eq (a : List SBillOp) : n_LSBillOp a = 6 * a.length := sumOf_const 6 a
theorem n_LSBillOp_le (a : List SBillOp) : n_LSBillOp a ≤ 6 * w_LSBillOp a := by
  have h := n_LSBillOp_eq a
  have h2 : w_LSBillOp a = a.length + sumOf (fun y : SBillOp => w_SBillOp y) a := rfl
  omega
theorem laws_markBillOpS_i {n : Nat} (a : List SBillOp) (k0 : Int) (hk0 : 0 ≤ k0) (hb : k0 + ((n_LSBillOp a : Nat) : Int) ≤ 900000000) (hw : w_LSBillOp a ≤ 100000000) (hn : 1000000000 < n) :
    ∃ p : List SBillOp, laws_markBillOpS n a k0 = some (k0 + ((n_LSBillOp a : Nat) : Int), p) ∧ p.length = a.length ∧ ∀ i, i < a.length → Mk_LSBillOp n (k0 + ((sumOf (fun y => 6) (a.take i) : Nat) : Int)) (a.getD i dSBillOp) (p.getD i dSBillOp) := by
  have hw0 : a.length ≤ 100000000 := by have hw : w_LSBillOp a = a.length + sumOf (fun y => w_SBillOp y) a := rfl; omega
  have hnA : n_LSBillOp a = sumOf (fun y => 6) a := rfl
  unfold laws_markBillOpS
  refine loopN_ind (fun x => a.length - x.2.1.toNat) (fun x => ∃ (k : Nat) (p : List SBillOp), k ≤ a.length ∧ x = (k0 + ((sumOf (fun y => 6) (a.take k) : Nat) : Int), (k : Int), p) ∧ p.length = a.length ∧
      (∀ i, i < k → Mk_LSBillOp n (k0 + ((sumOf (fun y => 6) (a.take i) : Nat) : Int)) (a.getD i dSBillOp) (p.getD i dSBillOp)) ∧ ∀ i, k ≤ i → p.getD i dSBillOp = a.getD i dSBillOp)
    (fun x r => ∃ p : List SBillOp, r = some (k0 + ((n_LSBillOp a : Nat) : Int), p) ∧ p.length = a.length ∧ ∀ i, i < a.length → Mk_LSBillOp n (k0 + ((sumOf (fun y => 6) (a.take i) : Nat) : Int)) (a.getD i dSBillOp) (p.getD i dSBillOp)) ?_ n _ ⟨0, a, by omega, by simp [sumOf], rfl, by omega, fun _ _ => rfl⟩ (by simp; omega)
  rintro _ J ⟨k, p, hk, rfl, hp, hm, hrest⟩ ih
  by_cases h : k < a.length
  · have h' : k < p.length := by omega
    have s1 := sumOf_take_succ (f := fun y => 6) (d := dSBillOp) h
    have s2 := sumOf_take_le (fun y => 6) a (k + 1)
    try simp only at s1
    obtain ⟨kk, hkk⟩ : ∃ kk : Int, kk = k0 + ((sumOf (fun y => 6) (a.take k) : Nat) : Int) := ⟨_, rfl⟩
    have hpk := hrest k (Nat.le_refl _)
    have s3 := sumOf_mem (f := fun y => w_SBillOp y) (d := dSBillOp) h
    have hwx : w_LSBillOp a = a.length + sumOf (fun y => w_SBillOp y) a := rfl
    try simp only at s3
    have hwy : w_SBillOp (a.getD k dSBillOp) = ((a.getD k dSBillOp).Who).size + ((a.getD k dSBillOp).To).size := rfl
    obtain ⟨t0, ht0⟩ := laws_markText_ok (n := n) (kk + 2) (by omega) hn
    obtain ⟨t1, ht1⟩ := laws_markText_ok (n := n) (kk + 3) (by omega) hn
    have step : ∀ (K : Int → List SBillOp → Option (Int × List SBillOp)) (J : Int → Int → List SBillOp → Option (Int × List SBillOp)), laws_markBillOpS_L2 n K J kk (k : Int) p = J (kk + 6) ((k : Int) + 1) (p.set k (⟨(kk), (kk + 1), (t0), (t1), (kk + 4), (kk + 5)⟩ : SBillOp)) := fun K J => by
      unfold laws_markBillOpS_L2
      simp (disch := omega) only [laws_markBillOpS_k0, Int.ofNat_lt, h', decide_true, cond_true, ix_nat h', List.length_set, chk_of, chk_true, bd_eq, getD_set h', List.set_set, hpk, Int.toNat_natCast, w64_id, Int.add_assoc, Int.reduceAdd, Option.bind_some, ht0, ht1]
    dsimp only
    rw [← hkk]
    refine (congrArg (fun z => ∃ q : List SBillOp, z = some (k0 + ((n_LSBillOp a : Nat) : Int), q) ∧ q.length = a.length ∧ ∀ i, i < a.length → Mk_LSBillOp n (k0 + ((sumOf (fun y => 6) (a.take i) : Nat) : Int)) (a.getD i dSBillOp) (q.getD i dSBillOp)) (step _ _)).mpr ?_
    refine ih _ ⟨k + 1, _, h, Prod.ext (by dsimp only; omega) (Prod.ext (by dsimp only; omega) rfl), by simpa using hp, fun i hi => ?_, fun i hi => ?_⟩ (by dsimp only; omega)
    · by_cases e : i = k
      · subst e
        rw [getD_set h', ← hkk]
        unfold Mk_LSBillOp
        exact ⟨rfl, rfl, ht0, ht1, rfl, rfl⟩
      · rw [getD_set_ne e]
        exact hm i (by omega)
    · rw [getD_set_ne (by omega)]
      exact hrest i (by omega)
  · have : k = a.length := by omega
    subst this
    unfold laws_markBillOpS_L2
    simp only [hp, Int.lt_irrefl, decide_false, cond_false]
    rw [List.take_length]
    exact ⟨p, rfl, hp, hm⟩
theorem laws_markBillOpS_ok {n : Nat} (a : List SBillOp) (k0 : Int) (hk0 : 0 ≤ k0) (hb : k0 + ((n_LSBillOp a : Nat) : Int) ≤ 900000000) (hw : w_LSBillOp a ≤ 100000000) (hn : 1000000000 < n) : ∃ p : List SBillOp, laws_markBillOpS n a k0 = some (k0 + ((n_LSBillOp a : Nat) : Int), p) := by
  obtain ⟨p, h1, h2, h3⟩ := laws_markBillOpS_i (n := n) a k0 hk0 hb hw hn
  exact ⟨p, h1⟩
end Go.Sm
end

section
set_option linter.unusedSimpArgs false
set_option linter.deprecated false
set_option linter.unusedSectionVars false
set_option linter.unusedVariables false
set_option linter.unusedSimpArgs false
namespace Go.Sm
attribute [local irreducible] bd chk ix loopN
theorem in_spec (n : Nat) (x a b : Int) : spec_l1In n x a b = some (decide (a ≤ x ∧ x ≤ b)) := by
  unfold spec_l1In
  by_cases h0 : a ≤ x <;> by_cases h1 : x ≤ b <;> simp [h0, h1]
theorem in_impl (n : Nat) (x a b : Int) : impl_in n x a b = some (decide (a ≤ x ∧ x ≤ b)) := by
  unfold impl_in
  by_cases h0 : a ≤ x <;> by_cases h1 : x ≤ b <;> simp [h0, h1]
/-! ### Names -/
def charOk (c : Int) : Bool := decide (97 ≤ c ∧ c ≤ 122) || (decide (65 ≤ c ∧ c ≤ 90) || (decide (48 ≤ c ∧ c ≤ 57) || decide (c = 45)))
def nameB (s : ByteArray) : Bool := decide (1 ≤ (s.size : Int) ∧ (s.size : Int) ≤ 20) && (List.range s.size).all fun k => charOk (byteAt s k)
theorem char_spec {α : Type} (c : Int) (x y : α) : (bif !decide (97 ≤ c ∧ c ≤ 122) then (bif !decide (65 ≤ c ∧ c ≤ 90) then (bif !decide (48 ≤ c ∧ c ≤ 57) then (bif !decide (c = 45) then x else y) else y) else y) else y) = bif charOk c then y else x := by
  unfold charOk
  cases decide (97 ≤ c ∧ c ≤ 122) <;> cases decide (65 ≤ c ∧ c ≤ 90) <;> cases decide (48 ≤ c ∧ c ≤ 57) <;> cases decide (c = 45) <;> rfl
theorem char_impl {α : Type} (c : Int) (x y : α) : (bif (decide (c < (97 : Int))) then (bif (decide (c < (65 : Int))) then (bif (decide (c < (48 : Int))) then (bif (!(decide (c = (45 : Int)))) then x else y) else (bif (decide (c > (57 : Int))) then (bif (!(decide (c = (45 : Int)))) then x else y) else y)) else (bif (decide (c > (90 : Int))) then (bif (decide (c < (48 : Int))) then (bif (!(decide (c = (45 : Int)))) then x else y) else (bif (decide (c > (57 : Int))) then (bif (!(decide (c = (45 : Int)))) then x else y) else y)) else y)) else (bif (decide (c > (122 : Int))) then (bif (decide (c < (65 : Int))) then (bif (decide (c < (48 : Int))) then (bif (!(decide (c = (45 : Int)))) then x else y) else (bif (decide (c > (57 : Int))) then (bif (!(decide (c = (45 : Int)))) then x else y) else y)) else (bif (decide (c > (90 : Int))) then (bif (decide (c < (48 : Int))) then (bif (!(decide (c = (45 : Int)))) then x else y) else (bif (decide (c > (57 : Int))) then (bif (!(decide (c = (45 : Int)))) then x else y) else y)) else y)) else y)) = bif charOk c then y else x := by
  unfold charOk
  have hc : c < 45 ∨ c = 45 ∨ (45 < c ∧ c < 48) ∨ (48 ≤ c ∧ c ≤ 57) ∨ (57 < c ∧ c < 65) ∨ (65 ≤ c ∧ c ≤ 90) ∨ (90 < c ∧ c < 97) ∨ (97 ≤ c ∧ c ≤ 122) ∨ 122 < c := by omega
  rcases hc with h | h | h | h | h | h | h | h | h
  · simp only [decide_eq_true (show (c : Int) < 97 by omega), decide_eq_true (show (c : Int) < 65 by omega), decide_eq_true (show (c : Int) < 48 by omega), decide_eq_false (show ¬ (c : Int) > 57 by omega), decide_eq_false (show ¬ (c : Int) > 90 by omega), decide_eq_false (show ¬ (c : Int) > 122 by omega), decide_eq_false (show ¬ (c : Int) = 45 by omega), decide_eq_false (show ¬ (97 ≤ c ∧ c ≤ 122) by omega), decide_eq_false (show ¬ (65 ≤ c ∧ c ≤ 90) by omega), decide_eq_false (show ¬ (48 ≤ c ∧ c ≤ 57) by omega), cond_true, cond_false, Bool.not_true, Bool.not_false, Bool.true_or, Bool.false_or]
  · simp only [decide_eq_true (show (c : Int) < 97 by omega), decide_eq_true (show (c : Int) < 65 by omega), decide_eq_true (show (c : Int) < 48 by omega), decide_eq_false (show ¬ (c : Int) > 57 by omega), decide_eq_false (show ¬ (c : Int) > 90 by omega), decide_eq_false (show ¬ (c : Int) > 122 by omega), decide_eq_true (show (c : Int) = 45 by omega), decide_eq_false (show ¬ (97 ≤ c ∧ c ≤ 122) by omega), decide_eq_false (show ¬ (65 ≤ c ∧ c ≤ 90) by omega), decide_eq_false (show ¬ (48 ≤ c ∧ c ≤ 57) by omega), cond_true, cond_false, Bool.not_true, Bool.not_false, Bool.true_or, Bool.false_or]
  · simp only [decide_eq_true (show (c : Int) < 97 by omega), decide_eq_true (show (c : Int) < 65 by omega), decide_eq_true (show (c : Int) < 48 by omega), decide_eq_false (show ¬ (c : Int) > 57 by omega), decide_eq_false (show ¬ (c : Int) > 90 by omega), decide_eq_false (show ¬ (c : Int) > 122 by omega), decide_eq_false (show ¬ (c : Int) = 45 by omega), decide_eq_false (show ¬ (97 ≤ c ∧ c ≤ 122) by omega), decide_eq_false (show ¬ (65 ≤ c ∧ c ≤ 90) by omega), decide_eq_false (show ¬ (48 ≤ c ∧ c ≤ 57) by omega), cond_true, cond_false, Bool.not_true, Bool.not_false, Bool.true_or, Bool.false_or]
  · simp only [decide_eq_true (show (c : Int) < 97 by omega), decide_eq_true (show (c : Int) < 65 by omega), decide_eq_false (show ¬ (c : Int) < 48 by omega), decide_eq_false (show ¬ (c : Int) > 57 by omega), decide_eq_false (show ¬ (c : Int) > 90 by omega), decide_eq_false (show ¬ (c : Int) > 122 by omega), decide_eq_false (show ¬ (c : Int) = 45 by omega), decide_eq_false (show ¬ (97 ≤ c ∧ c ≤ 122) by omega), decide_eq_false (show ¬ (65 ≤ c ∧ c ≤ 90) by omega), decide_eq_true (show 48 ≤ c ∧ c ≤ 57 by omega), cond_true, cond_false, Bool.not_true, Bool.not_false, Bool.true_or, Bool.false_or]
  · simp only [decide_eq_true (show (c : Int) < 97 by omega), decide_eq_true (show (c : Int) < 65 by omega), decide_eq_false (show ¬ (c : Int) < 48 by omega), decide_eq_true (show (c : Int) > 57 by omega), decide_eq_false (show ¬ (c : Int) > 90 by omega), decide_eq_false (show ¬ (c : Int) > 122 by omega), decide_eq_false (show ¬ (c : Int) = 45 by omega), decide_eq_false (show ¬ (97 ≤ c ∧ c ≤ 122) by omega), decide_eq_false (show ¬ (65 ≤ c ∧ c ≤ 90) by omega), decide_eq_false (show ¬ (48 ≤ c ∧ c ≤ 57) by omega), cond_true, cond_false, Bool.not_true, Bool.not_false, Bool.true_or, Bool.false_or]
  · simp only [decide_eq_true (show (c : Int) < 97 by omega), decide_eq_false (show ¬ (c : Int) < 65 by omega), decide_eq_false (show ¬ (c : Int) < 48 by omega), decide_eq_true (show (c : Int) > 57 by omega), decide_eq_false (show ¬ (c : Int) > 90 by omega), decide_eq_false (show ¬ (c : Int) > 122 by omega), decide_eq_false (show ¬ (c : Int) = 45 by omega), decide_eq_false (show ¬ (97 ≤ c ∧ c ≤ 122) by omega), decide_eq_true (show 65 ≤ c ∧ c ≤ 90 by omega), decide_eq_false (show ¬ (48 ≤ c ∧ c ≤ 57) by omega), cond_true, cond_false, Bool.not_true, Bool.not_false, Bool.true_or, Bool.false_or]
  · simp only [decide_eq_true (show (c : Int) < 97 by omega), decide_eq_false (show ¬ (c : Int) < 65 by omega), decide_eq_false (show ¬ (c : Int) < 48 by omega), decide_eq_true (show (c : Int) > 57 by omega), decide_eq_true (show (c : Int) > 90 by omega), decide_eq_false (show ¬ (c : Int) > 122 by omega), decide_eq_false (show ¬ (c : Int) = 45 by omega), decide_eq_false (show ¬ (97 ≤ c ∧ c ≤ 122) by omega), decide_eq_false (show ¬ (65 ≤ c ∧ c ≤ 90) by omega), decide_eq_false (show ¬ (48 ≤ c ∧ c ≤ 57) by omega), cond_true, cond_false, Bool.not_true, Bool.not_false, Bool.true_or, Bool.false_or]
  · simp only [decide_eq_false (show ¬ (c : Int) < 97 by omega), decide_eq_false (show ¬ (c : Int) < 65 by omega), decide_eq_false (show ¬ (c : Int) < 48 by omega), decide_eq_true (show (c : Int) > 57 by omega), decide_eq_true (show (c : Int) > 90 by omega), decide_eq_false (show ¬ (c : Int) > 122 by omega), decide_eq_false (show ¬ (c : Int) = 45 by omega), decide_eq_true (show 97 ≤ c ∧ c ≤ 122 by omega), decide_eq_false (show ¬ (65 ≤ c ∧ c ≤ 90) by omega), decide_eq_false (show ¬ (48 ≤ c ∧ c ≤ 57) by omega), cond_true, cond_false, Bool.not_true, Bool.not_false, Bool.true_or, Bool.false_or]
  · simp only [decide_eq_false (show ¬ (c : Int) < 97 by omega), decide_eq_false (show ¬ (c : Int) < 65 by omega), decide_eq_false (show ¬ (c : Int) < 48 by omega), decide_eq_true (show (c : Int) > 57 by omega), decide_eq_true (show (c : Int) > 90 by omega), decide_eq_true (show (c : Int) > 122 by omega), decide_eq_false (show ¬ (c : Int) = 45 by omega), decide_eq_false (show ¬ (97 ≤ c ∧ c ≤ 122) by omega), decide_eq_false (show ¬ (65 ≤ c ∧ c ≤ 90) by omega), decide_eq_false (show ¬ (48 ≤ c ∧ c ≤ 57) by omega), cond_true, cond_false, Bool.not_true, Bool.not_false, Bool.true_or, Bool.false_or]
theorem name_spec {n : Nat} (s : ByteArray) (hs : s.size ≤ 100000000) (hn : 1000000000 < n) : spec_l1Name n s = some (nameB s) := by
  unfold spec_l1Name
  rw [loop_all (p := fun k => charOk (byteAt s k)) (len := s.size) (no := some false) (yes := some (decide (1 ≤ (s.size : Int) ∧ (s.size : Int) ≤ 20))) (by omega) (fun k J h _ => ?_) (fun J _ => ?_) (by omega)]
  · rw [bif_sf, nameB, Bool.and_comm]
  · unfold spec_l1Name_L2 spec_l1Name_k0
    have hb := byteAt_rng s k
    have e : w64 (byteAt s k) = byteAt s k := w64_id (by omega) (by omega)
    simp only [Int.ofNat_lt, h, decide_true, cond_true, ix_nat h, Int.toNat_natCast, e, in_spec, Option.bind_some, w64_succ (show k < 9223372036854775807 by omega)]
    exact char_spec _ _ _
  · unfold spec_l1Name_L2
    simp only [Int.lt_irrefl, decide_false, cond_false, in_spec, Option.bind_some]
theorem name_impl {n : Nat} (s : ByteArray) (hs : s.size ≤ 100000000) (hn : 1000000000 < n) : impl_nameOk n s = some (nameB s) := by
  unfold impl_nameOk nameB
  by_cases h1 : s.size < 1
  · rw [decide_eq_true (show (s.size : Int) < 1 by omega), cond_true, decide_eq_false (by omega)]; rfl
  · by_cases h2 : s.size > 20
    · rw [decide_eq_false (show ¬ (s.size : Int) < 1 by omega), cond_false, decide_eq_true (show (s.size : Int) > 20 by omega), cond_true, decide_eq_false (by omega)]; rfl
    · rw [decide_eq_false (show ¬ (s.size : Int) < 1 by omega), cond_false, decide_eq_false (show ¬ (s.size : Int) > 20 by omega), cond_false, decide_eq_true (show 1 ≤ (s.size : Int) ∧ (s.size : Int) ≤ 20 by omega)]
      rw [loop_all (p := fun k => charOk (byteAt s k)) (len := s.size) (no := some false) (yes := some true) (by omega) (fun k J h _ => ?_) (fun J _ => ?_) (by omega)]
      · rw [bif_tf, Bool.true_and]
      · unfold impl_nameOk_L4 impl_nameOk_k0
        simp only [Int.ofNat_lt, h, decide_true, cond_true, ix_nat h, Int.toNat_natCast, w64_succ (show k < 9223372036854775807 by omega)]
        exact char_impl _ _ _
      · unfold impl_nameOk_L4
        simp only [Int.lt_irrefl, decide_false, cond_false]
def emptyB (s : ByteArray) : Bool := decide (s = str []) || nameB s
theorem empty_impl {n : Nat} (s : ByteArray) (hs : s.size ≤ 100000000) (hn : 1000000000 < n) : impl_emptyOrName n s = some (emptyB s) := by
  unfold impl_emptyOrName emptyB
  rw [name_impl s hs hn]
  cases decide (s = str []) <;> rfl
/-! ### Books -/
def heldAll (l : List ByteArray) : Bool := (List.range l.length).all fun k => emptyB (l.getD k (str []))
def billBase (x : SBill) : Bool := nameB x.Shipper && (emptyB x.Order && (decide (1 ≤ x.Many ∧ x.Many ≤ 5) && (decide ((x.Held.length : Int) = x.Many) && heldAll x.Held)))
def billOk (l : List SBill) (k : Nat) : Bool := decide (1 ≤ (l.getD k dSBill).Id ∧ (l.getD k dSBill).Id ≤ 1000000) && ((decide (k = 0) || !decide ((l.getD (k - 1) dSBill).Id ≥ (l.getD k dSBill).Id)) && billBase (l.getD k dSBill))
def hasBill (l : List SBill) (m : Nat) (q : Int) : Bool := (List.range m).any fun j => decide ((l.getD j dSBill).Id = q)
def freedOk (b : SBook) (k : Nat) : Bool := hasBill b.Bills b.Bills.length (b.Freed.getD k 0) && (decide (k = 0) || !decide (b.Freed.getD (k - 1) 0 ≥ b.Freed.getD k 0))
def bookB (b : SBook) : Bool := decide (b.Bills.length ≤ 30) && ((List.range b.Bills.length).all (billOk b.Bills) && (List.range b.Freed.length).all (freedOk b))
theorem hasBill_succ (l : List SBill) (m : Nat) (q : Int) : hasBill l (m + 1) q = (hasBill l m q || decide ((l.getD m dSBill).Id = q)) := by
  unfold hasBill
  rw [any_range_succ]
/-- What is known of a book's sizes. -/
structure BookSz (b : SBook) : Prop where
  bills : b.Bills.length ≤ 100000000
  freed : b.Freed.length ≤ 100000000
  each : ∀ k, k < b.Bills.length → (b.Bills.getD k dSBill).Shipper.size ≤ 100000000 ∧ (b.Bills.getD k dSBill).Order.size ≤ 100000000 ∧ (b.Bills.getD k dSBill).Held.length ≤ 100000000 ∧ ∀ j, j < (b.Bills.getD k dSBill).Held.length → ((b.Bills.getD k dSBill).Held.getD j (str [])).size ≤ 100000000
theorem bookSz (b : SBook) (h : w_SBook b ≤ 100000000) : BookSz b := by
  have h1 : w_SBook b = w_LSBill b.Bills + w_LInt b.Freed := rfl
  have h2 : w_LSBill b.Bills = b.Bills.length + sumOf (fun y => w_SBill y) b.Bills := rfl
  have h3 : w_LInt b.Freed = b.Freed.length := rfl
  refine ⟨by omega, by omega, fun k hk => ?_⟩
  have s := sumOf_mem (f := fun y => w_SBill y) (d := dSBill) hk
  have h4 : w_SBill (b.Bills.getD k dSBill) = (b.Bills.getD k dSBill).Shipper.size + (b.Bills.getD k dSBill).Order.size + w_LBA (b.Bills.getD k dSBill).Held := rfl
  have h5 : w_LBA (b.Bills.getD k dSBill).Held = (b.Bills.getD k dSBill).Held.length + sumOf (fun y => y.size) (b.Bills.getD k dSBill).Held := rfl
  refine ⟨by omega, by omega, by omega, fun j hj => ?_⟩
  have s2 := sumOf_mem (f := fun y : ByteArray => y.size) (d := str []) hj
  try simp only at s2
  omega
theorem held_spec {R : Type} {n : Nat} (kx : Option R) (kxr : Bool → Option R) (i : Int) (b : SBook) (x : SBill) (hl : x.Held.length ≤ 100000000) (hh : ∀ j, j < x.Held.length → (x.Held.getD j (str [])).size ≤ 100000000) (hn : 1000000000 < n) :
    loopN (fun (y : Int) J' => spec_BookOk_L8 n kx (fun t => kxr t) J' i y b x) n (0 : Int) = bif heldAll x.Held then kx else kxr false := by
  rw [loop_all (p := fun k => emptyB (x.Held.getD k (str []))) (len := x.Held.length) (no := kxr false) (yes := kx) (by omega) (fun k J h _ => ?_) (fun J _ => ?_) (by omega)]
  · rfl
  · unfold spec_BookOk_L8 spec_BookOk_k0
    simp only [Int.ofNat_lt, h, decide_true, cond_true, ix_nat h, Int.toNat_natCast, name_spec _ (hh k h) hn, Option.bind_some, w64_succ (show k < 9223372036854775807 by omega), emptyB]
    cases decide (x.Held.getD k (str []) = str []) <;> cases nameB (x.Held.getD k (str [])) <;> rfl
  · unfold spec_BookOk_L8
    simp only [Int.lt_irrefl, decide_false, cond_false]
theorem order_spec {α : Type} {c d : Bool} {x y : α} : (bif !c then (bif !d then x else y) else y) = bif c || d then y else x := by cases c <;> cases d <;> rfl
theorem find_spec {n : Nat} (b : SBook) (id : Int) (h : b.Bills.length ≤ 100000000) (hn : 1000000000 < n) : spec_l14Find n b id = some (idxOf (fun j => decide ((b.Bills.getD j dSBill).Id = id)) b.Bills.length) := by
  unfold spec_l14Find
  refine loop_idx (by omega) (fun k J h2 _ => ?_) (fun J _ => ?_) (by omega)
  · unfold spec_l14Find_L2
    simp only [Int.ofNat_lt, h2, decide_true, cond_true, ix_nat h2, bd_eq, Int.toNat_natCast, w64_succ (show k < 9223372036854775807 by omega)]
  · unfold spec_l14Find_L2
    simp only [Int.lt_irrefl, decide_false, cond_false]
theorem book_spec {n : Nat} (b : SBook) (hz : BookSz b) (hn : 1000000000 < n) : spec_BookOk n b = some (bookB b) := by
  have hl := hz.bills
  have hf := hz.freed
  unfold spec_BookOk
  rw [loop_all (p := billOk b.Bills) (len := b.Bills.length) (no := some false) (yes := some ((List.range b.Freed.length).all (freedOk b) && decide (b.Bills.length ≤ 30))) (by omega) (fun k J h _ => ?_) (fun J _ => ?_) (by omega)]
  · rw [bif_sf, bookB]
    cases (List.range b.Bills.length).all (billOk b.Bills) <;> cases (List.range b.Freed.length).all (freedOk b) <;> cases decide (b.Bills.length ≤ 30) <;> rfl
  · obtain ⟨z1, z2, z3, z4⟩ := hz.each k h
    have hh := fun kx => held_spec (n := n) kx (fun t => some t) (k : Int) b (b.Bills.getD k dSBill) z3 z4 hn
    unfold spec_BookOk_L2 spec_BookOk_k1
    cases k with
    | zero =>
      simp only [Int.ofNat_lt, h, decide_true, cond_true, ix_nat h, bd_eq, Int.toNat_natCast, in_spec, Option.bind_some, w64_succ (show 0 < 9223372036854775807 by omega), show ¬ ((0 : Nat) : Int) > 0 by omega, decide_false, cond_false, name_spec _ z1 hn, name_spec _ z2 hn, hh]
      unfold billOk billBase emptyB
      cases decide ((b.Bills.getD 0 dSBill).Order = str []) <;> simp only [decide_true, Bool.true_or, Bool.false_or, bif_not, bif_and', bif_or', bif_and2, bif_or2, Bool.not_not, Bool.and_assoc, Bool.and_true, Bool.true_and, Bool.false_and, Bool.not_false, Bool.not_true, cond_true, cond_false]
    | succ k =>
      have e3 : w64 (((k + 1 : Nat) : Int) - 1) = (k : Int) := by rw [w64_id (by omega) (by omega)]; omega
      simp only [Int.ofNat_lt, h, decide_true, cond_true, ix_nat h, bd_eq, Int.toNat_natCast, in_spec, Option.bind_some, w64_succ (show k + 1 < 9223372036854775807 by omega), show ((k + 1 : Nat) : Int) > 0 by omega, e3, ix_nat (show k < b.Bills.length by omega), name_spec _ z1 hn, name_spec _ z2 hn, hh]
      unfold billOk billBase emptyB
      cases decide ((b.Bills.getD (k + 1) dSBill).Order = str []) <;> simp only [decide_true, decide_false, Nat.succ_ne_zero, Nat.add_sub_cancel, Bool.true_or, Bool.false_or, bif_not, bif_and', bif_or', bif_and2, bif_or2, Bool.not_not, Bool.and_assoc, Bool.and_true, Bool.true_and, Bool.false_and, Bool.not_false, Bool.not_true, cond_true, cond_false]
  · unfold spec_BookOk_L2
    simp only [Int.lt_irrefl, decide_false, cond_false]
    rw [loop_all (p := freedOk b) (len := b.Freed.length) (no := some false) (yes := some (decide (b.Bills.length ≤ 30))) (by omega) (fun k J h _ => ?_) (fun J _ => ?_) (by omega)]
    · rw [bif_sf]
    · unfold spec_BookOk_L13 spec_BookOk_k2
      have hlt := idxOf_lt (fun j => decide ((b.Bills.getD j dSBill).Id = b.Freed.getD k 0)) b.Bills.length
      cases k with
      | zero =>
        simp only [Int.ofNat_lt, h, decide_true, cond_true, ix_nat h, Int.toNat_natCast, find_spec b _ hl hn, Option.bind_some, hlt, show ¬ ((0 : Nat) : Int) > 0 by omega, decide_false, cond_false, w64_succ (show 0 < 9223372036854775807 by omega)]
        unfold freedOk hasBill
        simp only [decide_true, Bool.true_or, bif_not, bif_and', bif_or', bif_and2, bif_or2, Bool.not_not, Bool.and_assoc, Bool.and_true, Bool.true_and, Bool.false_and, Bool.not_false, Bool.not_true, cond_true, cond_false]
      | succ k =>
        have e3 : w64 (((k + 1 : Nat) : Int) - 1) = (k : Int) := by rw [w64_id (by omega) (by omega)]; omega
        simp only [Int.ofNat_lt, h, decide_true, cond_true, ix_nat h, Int.toNat_natCast, find_spec b _ hl hn, Option.bind_some, hlt, show ((k + 1 : Nat) : Int) > 0 by omega, e3, ix_nat (show k < b.Freed.length by omega), w64_succ (show k + 1 < 9223372036854775807 by omega)]
        unfold freedOk hasBill
        simp only [decide_false, Nat.succ_ne_zero, Nat.add_sub_cancel, Bool.false_or, bif_not, bif_and', bif_or', bif_and2, bif_or2, Bool.not_not, Bool.and_assoc, Bool.and_true, Bool.true_and, Bool.false_and, Bool.not_false, Bool.not_true, cond_true, cond_false]
    · unfold spec_BookOk_L13
      simp only [Int.lt_irrefl, decide_false, cond_false]
      congr 1
      simp only [decide_eq_decide]
      omega
theorem held_impl {n : Nat} (l : List ByteArray) (hl : l.length ≤ 100000000) (hh : ∀ j, j < l.length → (l.getD j (str [])).size ≤ 100000000) (hn : 1000000000 < n) : slices_ContainsFunc_string_string__impl_BookOk_1 n l = some (!heldAll l) := by
  unfold slices_ContainsFunc_string_string__impl_BookOk_1 slices_IndexFunc_string_string__impl_BookOk_1
  rw [loop_idx (p := fun k => !emptyB (l.getD k (str []))) (len := l.length) (by omega) (fun k J h _ => ?_) (fun J _ => ?_) (by omega)]
  · rw [Option.bind_some, idxOf_ge]
    congr 1
    unfold heldAll
    rw [List.not_all_eq_any_not]
  · unfold slices_IndexFunc_string_string__impl_BookOk_1_L2 impl_BookOk_1
    simp only [Int.ofNat_lt, h, decide_true, cond_true, ix_nat h, Int.toNat_natCast, empty_impl _ (hh k h) hn, Option.bind_some, w64_succ (show k < 9223372036854775807 by omega)]
  · unfold slices_IndexFunc_string_string__impl_BookOk_1_L2
    simp only [Int.lt_irrefl, decide_false, cond_false]
theorem book_impl {n : Nat} (b : SBook) (hz : BookSz b) (hn : 1000000000 < n) : impl_BookOk n b = some (bookB b) := by
  have hl := hz.bills
  have hf := hz.freed
  unfold impl_BookOk bookB
  by_cases h30 : b.Bills.length ≤ 30
  · rw [decide_eq_false (show ¬ (b.Bills.length : Int) > 30 by omega), cond_false, decide_eq_true h30, Bool.true_and]
    unfold impl_BookOk_k2
    have := loop_allS (S := List (Int × Bool)) (X := Int × List (Int × Bool)) (enc := fun k s => (k, s)) (b := fun x J' => impl_BookOk_L5 n (fun t74 => loopN (fun (x : Int) J' => impl_BookOk_L12 n (some (true)) (fun t90 => some (t90)) J' b.Freed (b.Freed.length : Int) x b t74) n ((0 : Int))) (fun t92 => some (t92)) (fun t93 t94 => J' (t93, t94)) b.Bills (b.Bills.length : Int) x.1 b x.2) (len := b.Bills.length) (p := billOk b.Bills)
      (I := fun k s => ∀ q, (mgetI s q).getD false = hasBill b.Bills k q) (no := some false) (yes := some ((List.range b.Freed.length).all (freedOk b))) (fun k s J h hi _ => ?_) (fun s J hi _ => ?_) (n := n) (by omega) (s0 := []) (fun q => by simp [mgetI, hasBill])
    · refine this.trans ?_
      rw [bif_sf]
    · obtain ⟨z1, z2, z3, z4⟩ := hz.each k h
      refine ⟨mputI s (b.Bills.getD k dSBill).Id true, fun _ q => ?_, ?_⟩
      · rw [mgetI_mputI, hasBill_succ, ← hi q]
        by_cases hq : q = (b.Bills.getD k dSBill).Id
        · rw [if_pos hq, decide_eq_true hq.symm, Bool.or_true]; rfl
        · rw [if_neg hq, decide_eq_false (Ne.symm hq), Bool.or_false]
      · unfold impl_BookOk_L5 impl_BookOk_k0 impl_idRight
        cases k with
        | zero =>
          simp only [Int.ofNat_lt, h, decide_true, cond_true, ix_nat h, bd_eq, Int.toNat_natCast, in_impl, Option.bind_some, w64_succ (show 0 < 9223372036854775807 by omega), show ¬ ((0 : Nat) : Int) > 0 by omega, decide_false, cond_false, name_impl _ z1 hn, empty_impl _ z2 hn, held_impl _ z3 z4 hn]
          unfold billOk billBase
          simp only [decide_true, Bool.true_or, bif_not, bif_and', bif_or', bif_and2, bif_or2, Bool.not_not, Bool.and_assoc, Bool.and_true, Bool.true_and, Bool.false_and, Bool.not_false, Bool.not_true, cond_true, cond_false]
        | succ k =>
          have e3 : w64 (((k + 1 : Nat) : Int) - 1) = (k : Int) := by rw [w64_id (by omega) (by omega)]; omega
          simp only [Int.ofNat_lt, h, decide_true, cond_true, ix_nat h, bd_eq, Int.toNat_natCast, in_impl, Option.bind_some, w64_succ (show k + 1 < 9223372036854775807 by omega), show ((k + 1 : Nat) : Int) > 0 by omega, e3, ix_nat (show k < b.Bills.length by omega), name_impl _ z1 hn, empty_impl _ z2 hn, held_impl _ z3 z4 hn]
          unfold billOk billBase
          simp only [decide_false, Nat.succ_ne_zero, Nat.add_sub_cancel, Bool.false_or, bif_not, bif_and', bif_or', bif_and2, bif_or2, Bool.not_not, Bool.and_assoc, Bool.and_true, Bool.true_and, Bool.false_and, Bool.not_false, Bool.not_true, cond_true, cond_false]
    · unfold impl_BookOk_L5
      simp only [Int.lt_irrefl, decide_false, cond_false]
      rw [loop_all (p := freedOk b) (len := b.Freed.length) (no := some false) (yes := some true) (by omega) (fun k J h _ => ?_) (fun J _ => ?_) (by omega)]
      · rw [bif_tf]
      · unfold impl_BookOk_L12 impl_BookOk_k1
        cases k with
        | zero =>
          simp only [Int.ofNat_lt, h, decide_true, cond_true, ix_nat h, bd_eq, Int.toNat_natCast, hi, show ¬ ((0 : Nat) : Int) > 0 by omega, decide_false, cond_false, w64_succ (show 0 < 9223372036854775807 by omega)]
          unfold freedOk
          simp only [decide_true, Bool.true_or, bif_not, bif_and', bif_or', bif_and2, bif_or2, Bool.not_not, Bool.and_assoc, Bool.and_true, Bool.true_and, Bool.false_and, Bool.not_false, Bool.not_true, cond_true, cond_false]
        | succ k =>
          have e3 : w64 (((k + 1 : Nat) : Int) - 1) = (k : Int) := by rw [w64_id (by omega) (by omega)]; omega
          simp only [Int.ofNat_lt, h, decide_true, cond_true, ix_nat h, bd_eq, Int.toNat_natCast, hi, show ((k + 1 : Nat) : Int) > 0 by omega, e3, ix_nat (show k < b.Freed.length by omega), w64_succ (show k + 1 < 9223372036854775807 by omega)]
          unfold freedOk
          simp only [decide_false, Nat.succ_ne_zero, Nat.add_sub_cancel, Bool.false_or, bif_not, bif_and', bif_or', bif_and2, bif_or2, Bool.not_not, Bool.and_assoc, Bool.and_true, Bool.true_and, Bool.false_and, Bool.not_false, Bool.not_true, cond_true, cond_false]
      · unfold impl_BookOk_L12
        simp only [Int.lt_irrefl, decide_false, cond_false]
  · rw [decide_eq_true (show (b.Bills.length : Int) > 30 by omega), cond_true, decide_eq_false h30]
    rfl
def firstHeld (l : List ByteArray) : ByteArray := match (List.range l.length).find? (fun k => !decide (l.getD k (str []) = str [])) with
  | some k => l.getD k (str [])
  | none => str []
def titleAt (x : SBill) : ByteArray × Bool := bif !decide (x.Order = str []) then (x.Order, true) else (firstHeld x.Held, true)
def isFreed (b : SBook) (id : Int) : Bool := (List.range b.Freed.length).any fun k => decide (b.Freed.getD k 0 = id)
def titleR (b : SBook) (id : Int) : ByteArray × Bool :=
  bif bookB b && (hasBill b.Bills b.Bills.length id && !isFreed b id) then titleAt (b.Bills.getD (idxOf (fun j => decide ((b.Bills.getD j dSBill).Id = id)) b.Bills.length).toNat dSBill) else (str [], false)
theorem has_spec {n : Nat} (l : List Int) (x : Int) (hl : l.length ≤ 100000000) (hn : 1000000000 < n) : spec_l9Has n l x = some ((List.range l.length).any fun k => decide (l.getD k 0 = x)) := by
  unfold spec_l9Has
  rw [loop_find (p := fun k => decide (l.getD k 0 = x)) (len := l.length) (yes := fun _ => some true) (no := some false) (by omega) (fun k J h _ => ?_) (fun J _ => ?_) (by omega)]
  · rcases find_range (fun k => decide (l.getD k 0 = x)) l.length with ⟨h1, h2⟩ | ⟨k, h1, h2, h3, h4⟩
    · rw [h1, show (List.range l.length).any (fun k => decide (l.getD k 0 = x)) = false from by rw [List.any_eq_false]; intro y hy; rw [h2 y (List.mem_range.1 hy)]; simp]
    · rw [h1, any_range_of h2 h3]
  · unfold spec_l9Has_L2
    simp only [Int.ofNat_lt, h, decide_true, cond_true, ix_nat h, Int.toNat_natCast, w64_succ (show k < 9223372036854775807 by omega)]
  · unfold spec_l9Has_L2
    simp only [Int.lt_irrefl, decide_false, cond_false]
theorem contains_impl {n : Nat} (l : List Int) (x : Int) (hl : l.length ≤ 100000000) (hn : 1000000000 < n) : slices_Contains_int_int n l x = some ((List.range l.length).any fun k => decide (l.getD k 0 = x)) := by
  unfold slices_Contains_int_int slices_Index_int_int
  rw [loop_idx (p := fun k => decide (l.getD k 0 = x)) (len := l.length) (by omega) (fun k J h _ => ?_) (fun J _ => ?_) (by omega)]
  · rw [Option.bind_some, idxOf_ge]
  · unfold slices_Index_int_int_L2
    simp only [Int.ofNat_lt, h, decide_true, cond_true, ix_nat h, Int.toNat_natCast, w64_succ (show k < 9223372036854775807 by omega)]
    rw [show decide (x = l.getD k 0) = decide (l.getD k 0 = x) from by simp only [decide_eq_decide]; exact ⟨Eq.symm, Eq.symm⟩]
  · unfold slices_Index_int_int_L2
    simp only [Int.lt_irrefl, decide_false, cond_false]
theorem at_impl {n : Nat} (b : SBook) (id : Int) (h : b.Bills.length ≤ 100000000) (hn : 1000000000 < n) : impl_Book_at n b id = some (idxOf (fun j => decide ((b.Bills.getD j dSBill).Id = id)) b.Bills.length) := by
  unfold impl_Book_at slices_IndexFunc_impl_Bill_impl_Bill__impl_Book_at_1
  rw [loop_idx (p := fun j => decide ((b.Bills.getD j dSBill).Id = id)) (len := b.Bills.length) (by omega) (fun k J h _ => ?_) (fun J _ => ?_) (by omega)]
  · rfl
  · unfold slices_IndexFunc_impl_Bill_impl_Bill__impl_Book_at_1_L2 impl_Book_at_1
    simp only [Int.ofNat_lt, h, decide_true, cond_true, ix_nat h, bd_eq, Option.bind_some, Int.toNat_natCast, w64_succ (show k < 9223372036854775807 by omega)]
  · unfold slices_IndexFunc_impl_Bill_impl_Bill__impl_Book_at_1_L2
    simp only [Int.lt_irrefl, decide_false, cond_false]
theorem first_of {l : List ByteArray} : (match (List.range l.length).find? (fun k => !decide (l.getD k (str []) = str [])) with | some k => some (l.getD k (str []), true) | none => some (str [], true)) = some (firstHeld l, true) := by
  unfold firstHeld
  cases (List.range l.length).find? (fun k => !decide (l.getD k (str []) = str [])) <;> rfl
end Go.Sm
end

section
set_option linter.unusedSimpArgs false
set_option linter.deprecated false
set_option linter.unusedSectionVars false
set_option linter.unusedVariables false
set_option linter.unusedSimpArgs false
namespace Go.Sm
attribute [local irreducible] bd chk ix loopN
theorem loop_findS {S R X : Type} {enc : Nat → S → X} {b : X → (X → Option R) → Option R} {len : Nat} {p : Nat → Bool} {I : Nat → S → Prop} {yes : Nat → Option R} {no : Option R}
    (hstep : ∀ (k : Nat) (s : S) (J : X → Option R), k < len → I k s → ∃ s', I (k + 1) s' ∧ b (enc k s) J = bif p k then yes k else J (enc (k + 1) s')) (hfin : ∀ s J, I len s → b (enc len s) J = no) {n : Nat} (hn : len < n) {s0 : S} (h0 : I 0 s0) :
    loopN b n (enc 0 s0) = ((List.range len).find? p).elim no yes := by
  have key : ∀ m (k : Nat) (s : S) n, k + m = len → m < n → I k s → (∀ j, j < k → p j = false) → loopN b n (enc k s) = ((List.range len).find? p).elim no yes := by
    intro m
    induction m with
    | zero =>
      intro k s n hk hn hi hp
      have hk : k = len := by omega
      subst hk
      cases n with
      | zero => omega
      | succ n => rw [loopN_succ, hfin s _ hi, find_range_none hp]; rfl
    | succ m ih =>
      intro k s n hk hn hi hp
      cases n with
      | zero => omega
      | succ n =>
        rw [loopN_succ]
        obtain ⟨s', h1, h2⟩ := hstep k s (loopN b n) (by omega) hi
        rw [h2]
        cases hpk : p k with
        | true => rw [find_range_some (by omega) hpk hp]; rfl
        | false =>
          refine ih (k + 1) s' n (by omega) (by omega) h1 fun j hj => ?_
          by_cases e : j = k
          · rw [e]; exact hpk
          · exact hp j (by omega)
  exact key len 0 s0 n (by omega) hn h0 fun j hj => absurd hj (Nat.not_lt_zero _)
/-- The same, no state: what came before did not hold. -/
theorem loop_findE {R X : Type} {enc : Nat → X} {b : X → (X → Option R) → Option R} {len : Nat} {p : Nat → Bool} {yes : Nat → Option R} {no : Option R}
    (hstep : ∀ (k : Nat) (J : X → Option R), k < len → (∀ j, j < k → p j = false) → b (enc k) J = bif p k then yes k else J (enc (k + 1))) (hfin : ∀ J, b (enc len) J = no) {n : Nat} (hn : len < n) :
    loopN b n (enc 0) = ((List.range len).find? p).elim no yes := by
  have key : ∀ m (k : Nat) n, k + m = len → m < n → (∀ j, j < k → p j = false) → loopN b n (enc k) = ((List.range len).find? p).elim no yes := by
    intro m
    induction m with
    | zero =>
      intro k n hk hn hp
      have hk : k = len := by omega
      subst hk
      cases n with
      | zero => omega
      | succ n => rw [loopN_succ, hfin, find_range_none hp]; rfl
    | succ m ih =>
      intro k n hk hn hp
      cases n with
      | zero => omega
      | succ n =>
        rw [loopN_succ, hstep k (loopN b n) (by omega) hp]
        cases hpk : p k with
        | true => rw [find_range_some (by omega) hpk hp]; rfl
        | false =>
          refine ih (k + 1) n (by omega) (by omega) fun j hj => ?_
          by_cases e : j = k
          · rw [e]; exact hpk
          · exact hp j (by omega)
  exact key len 0 n (by omega) hn fun j hj => absurd hj (Nat.not_lt_zero _)
/-! ### Copies -/
theorem copy_spec {n : Nat} (b : SBook) (hz : BookSz b) (hl : b.Bills.length ≤ 100000000) (hf : b.Freed.length ≤ 100000000) (hh : ∀ k, k < b.Bills.length → (b.Bills.getD k dSBill).Held.length ≤ 100000000) (hn : 1000000000 < n) : spec_l14Copy n b = some b := by
  unfold spec_l14Copy
  rw [chk_dec (by omega)]
  refine loop_runS (enc := fun k (s : List SBill) => (k, s)) (I := fun k s => s = b.Bills.take k) (Q := fun r => r = some b) (len := b.Bills.length) (fun k s J hk hI => ?_) (fun s J hI => ?_) (by omega) rfl
  · have e : w64 ((k : Int) + 1) = ((k + 1 : Nat) : Int) := w64_succ (by omega)
    have hs : s.length ≤ 100000000 := by rw [hI, List.length_take]; omega
    refine ⟨s ++ [b.Bills.getD k dSBill], by rw [take_succ_getD (d := dSBill) hk, hI], ?_⟩
    show spec_l14Copy_L3 n _ (fun i12 c13 => J (i12, c13)) (k : Int) b [] [] s b.Freed = _
    unfold spec_l14Copy_L3
    have hk' := hh k hk
    rw [decide_eq_true (by omega), cond_true, ix_nat hk, bd_eq, Int.toNat_natCast, chk_dec (by omega), chk_dec (by rw [List.length_append]; simp; omega), e]
  · rw [List.take_length] at hI
    show spec_l14Copy_L3 n _ (fun i12 c13 => J (i12, c13)) (b.Bills.length : Int) b [] [] s b.Freed = _
    unfold spec_l14Copy_L3
    rw [decide_eq_false (by omega), cond_false, hI]
theorem set_same {α : Type} {l : List α} {i : Nat} {d : α} (h : i < l.length) : l.set i (l.getD i d) = l := by
  rw [getD_eq h]; exact List.set_getElem_self h
theorem copy_impl {n : Nat} (b : SBook) (hl : b.Bills.length ≤ 100000000) (hf : b.Freed.length ≤ 100000000) (hh : ∀ k, k < b.Bills.length → (b.Bills.getD k dSBill).Held.length ≤ 100000000) (hn : 1000000000 < n) : impl_Book_own n b = some b := by
  unfold impl_Book_own impl_own_impl_Bill
  rw [chk_dec (by omega), chk_dec (by omega), chk_dec (by omega), Option.bind_some]
  refine loop_runS (enc := fun k (s : List SBill × Nat) => (k, s)) (I := fun k s => s = (b.Bills, k)) (Q := fun r => r = some b) (len := b.Bills.length) (fun k s J hk hI => ⟨_, rfl, ?_⟩) (fun s J hI => ?_) (by omega) rfl
  · have e : w64 ((k : Int) + 1) = ((k + 1 : Nat) : Int) := w64_succ (by omega)
    have hk' := hh k hk
    subst hI
    show impl_Book_own_L3 n _ (fun t21 l22 => J (t21, l22)) (b.Bills.length : Int) (k : Int) b [] [] (b.Bills, k) = _
    unfold impl_Book_own_L3 impl_Book_own_k0 impl_own_string
    dsimp only
    rw [decide_eq_true (show (k : Int) < (b.Bills.length : Int) by omega), cond_true, ix_nat hk, Int.toNat_natCast, chk_dec hk, decide_eq_false (Nat.lt_irrefl k), cond_false, chk_dec (by omega), chk_dec (by omega), chk_dec (by omega), Option.bind_some, ix_nat hk, chk_dec hk, bd_eq, decide_eq_true rfl, cond_true, bd_eq, e]
    show J (_, (b.Bills.set k (b.Bills.getD k dSBill), k + 1)) = _
    rw [set_same hk]
  · subst hI
    show impl_Book_own_L3 n _ (fun t21 l22 => J (t21, l22)) (b.Bills.length : Int) (b.Bills.length : Int) b [] [] (b.Bills, b.Bills.length) = _
    unfold impl_Book_own_L3 impl_own_int
    rw [decide_eq_false (by omega), cond_false]
    dsimp only
    rw [chk_dec (by omega), chk_dec (by omega), chk_dec (by omega), Option.bind_some, chk_dec (Nat.le_refl _)]
/-! ### As many of one -/
theorem made_spec {n : Nat} (who : ByteArray) {many : Int} (hm : 0 ≤ many ∧ many ≤ 1000) (hn : 1000000000 < n) : spec_l14Made n who many = some (List.replicate many.toNat who) := by
  unfold spec_l14Made
  refine loop_runS (enc := fun k (s : List ByteArray) => (k, s)) (I := fun k s => s = List.replicate k who) (Q := fun r => r = some (List.replicate many.toNat who)) (len := many.toNat) (fun k s J hk hI => ?_) (fun s J hI => ?_) (by omega) rfl
  · have e : w64 ((k : Int) + 1) = ((k + 1 : Nat) : Int) := w64_succ (by omega)
    have hs : s.length ≤ 1000 := by rw [hI, List.length_replicate]; omega
    refine ⟨s ++ [who], by rw [hI, List.replicate_succ'], ?_⟩
    show spec_l14Made_L3 n _ (fun k8 out9 => J (k8, out9)) who many (k : Int) s = _
    unfold spec_l14Made_L3
    rw [decide_eq_true (by omega), cond_true, chk_dec (by rw [List.length_append]; simp; omega), e]
  · show spec_l14Made_L3 n _ (fun k8 out9 => J (k8, out9)) who many ((many.toNat : Nat) : Int) s = _
    unfold spec_l14Made_L3
    rw [decide_eq_false (by omega), cond_false, hI]
theorem made_impl {n : Nat} (who : ByteArray) {many : Int} (hm : 0 ≤ many ∧ many ≤ 1000) (hn : 1000000000 < n) : impl_heldBy n who many = some (List.replicate many.toNat who) := by
  unfold impl_heldBy
  rw [chk_dec hm.1, chk_dec (Int.le_refl _), chk_dec (by omega), List.length_replicate]
  refine loop_runS (enc := fun k (s : List ByteArray) => (k, s)) (I := fun k s => s.length = many.toNat ∧ ∀ j, j < k → s.getD j (str []) = who) (Q := fun r => r = some (List.replicate many.toNat who)) (len := many.toNat) (fun k s J hk hI => ?_) (fun s J hI => ?_) (by omega) ⟨List.length_replicate, fun j hj => absurd hj (Nat.not_lt_zero _)⟩
  · have e : w64 ((k : Int) + 1) = ((k + 1 : Nat) : Int) := w64_succ (by omega)
    have hks : k < s.length := by rw [hI.1]; exact hk
    refine ⟨s.set k who, ⟨by rw [List.length_set]; exact hI.1, fun j hj => ?_⟩, ?_⟩
    · by_cases ej : j = k
      · rw [ej, getD_set hks]
      · rw [getD_set_ne ej]; exact hI.2 j (by omega)
    · show impl_heldBy_L3 n _ (fun t8 l9 => J (t8, l9)) who ((many.toNat : Nat) : Int) (k : Int) s = _
      unfold impl_heldBy_L3
      rw [decide_eq_true (by omega), cond_true, ix_nat hks, Int.toNat_natCast, chk_dec hks, e]
  · show impl_heldBy_L3 n _ (fun t8 l9 => J (t8, l9)) who ((many.toNat : Nat) : Int) ((many.toNat : Nat) : Int) s = _
    unfold impl_heldBy_L3
    rw [decide_eq_false (by omega), cond_false]
    congr 1
    apply List.ext_getElem (by rw [hI.1, List.length_replicate])
    intro i h1 h2
    rw [List.getElem_replicate, ← getD_eq (d := str []) h1]
    exact hI.2 i (by omega)
/-! ### The op -/
def toB (op : SBillOp) : Bool := bif decide (op.Kind = 3) then nameB op.To else (bif decide (op.Kind = 1) || decide (op.Kind = 2) then emptyB op.To else true)
def manyB (op : SBillOp) : Bool := bif decide (op.Kind = 1) || decide (op.Kind = 5) then decide (1 ≤ op.Many ∧ op.Many ≤ 5) else true
def opB (op : SBillOp) : Bool := decide (1 ≤ op.Kind ∧ op.Kind ≤ 5) && (decide (1 ≤ op.Id ∧ op.Id ≤ 1000000) && (nameB op.Who && (toB op && manyB op)))
theorem op_spec {n : Nat} (op : SBillOp) (hw : op.Who.size ≤ 100000000) (ht : op.To.size ≤ 100000000) (hn : 1000000000 < n) : spec_l14Op n op = some (opB op) := by
  unfold spec_l14Op opB toB manyB spec_l14Op_k0 spec_l14Op_k1 emptyB
  simp only [in_spec, name_spec op.Who hw hn, name_spec op.To ht hn, Option.bind_some]
  generalize decide (1 ≤ op.Id ∧ op.Id ≤ 1000000) = a1
  generalize nameB op.Who = a2
  generalize nameB op.To = a3
  generalize decide (op.To = str []) = a4
  generalize decide (1 ≤ op.Many ∧ op.Many ≤ 5) = a5
  by_cases h1 : op.Kind = 1
  · rw [h1]; cases a1 <;> cases a2 <;> cases a3 <;> cases a4 <;> cases a5 <;> rfl
  by_cases h2 : op.Kind = 2
  · rw [h2]; cases a1 <;> cases a2 <;> cases a3 <;> cases a4 <;> cases a5 <;> rfl
  by_cases h3 : op.Kind = 3
  · rw [h3]; cases a1 <;> cases a2 <;> cases a3 <;> cases a4 <;> cases a5 <;> rfl
  by_cases h4 : op.Kind = 4
  · rw [h4]; cases a1 <;> cases a2 <;> cases a3 <;> cases a4 <;> cases a5 <;> rfl
  by_cases h5 : op.Kind = 5
  · rw [h5]; cases a1 <;> cases a2 <;> cases a3 <;> cases a4 <;> cases a5 <;> rfl
  rw [decide_eq_false (show ¬ (1 ≤ op.Kind ∧ op.Kind ≤ 5) by omega)]; rfl
end Go.Sm
end

section
set_option linter.unusedSimpArgs false
set_option linter.deprecated false
set_option linter.unusedSectionVars false
set_option linter.unusedVariables false
set_option linter.unusedSimpArgs false
namespace Go.Sm
attribute [local irreducible] bd chk ix loopN
/-! ### One more in its place -/
theorem sorted_uniK {α : Type} (key : α → Int) : ∀ (a b : List α), a.Pairwise (fun x y => key x < key y) → b.Pairwise (fun x y => key x < key y) → (∀ x, x ∈ a ↔ x ∈ b) → a = b
  | [], [], _, _, _ => rfl
  | [], y :: b, _, _, h => absurd ((h y).2 List.mem_cons_self) List.not_mem_nil
  | x :: a, [], _, _, h => absurd ((h x).1 List.mem_cons_self) List.not_mem_nil
  | x :: a, y :: b, ha, hb, h => by
    rw [List.pairwise_cons] at ha hb
    have hxy : x = y := by
      rcases List.mem_cons.1 ((h x).1 List.mem_cons_self) with e | e
      · exact e
      · rcases List.mem_cons.1 ((h y).2 List.mem_cons_self) with e2 | e2
        · exact e2.symm
        · have h1 := hb.1 x e
          have h2 := ha.1 y e2
          omega
    subst hxy
    rw [sorted_uniK key a b ha.2 hb.2 fun z => ?_]
    constructor
    · intro hz
      rcases List.mem_cons.1 ((h z).1 (List.mem_cons_of_mem _ hz)) with e | e
      · have := ha.1 z hz
        rw [e] at this; omega
      · exact e
    · intro hz
      rcases List.mem_cons.1 ((h z).2 (List.mem_cons_of_mem _ hz)) with e | e
      · have := hb.1 z hz
        rw [e] at this; omega
      · exact e
def insAt {α : Type} (l : List α) (K : Nat) (x : α) : List α := l.take K ++ ([x] ++ l.drop K)
theorem insAt_mem {α : Type} {l : List α} {K : Nat} {x y : α} : y ∈ insAt l K x ↔ y ∈ l ++ [x] := by
  unfold insAt
  have hl : y ∈ l ↔ y ∈ l.take K ∨ y ∈ l.drop K := by
    rw [← List.mem_append, List.take_append_drop]
  simp only [List.mem_append, List.mem_singleton, hl]
  constructor
  · rintro (h | h | h)
    · exact .inl (.inl h)
    · exact .inr h
    · exact .inl (.inr h)
  · rintro ((h | h) | h)
    · exact .inl h
    · exact .inr (.inr h)
    · exact .inr (.inl h)
theorem insAt_sorted {α : Type} (key : α → Int) {d : α} {l : List α} {K : Nat} {x : α} (hl : l.Pairwise fun a b => key a < key b) (hK : K ≤ l.length) (h1 : ∀ j, j < K → key (l.getD j d) < key x) (h2 : ∀ j, K ≤ j → j < l.length → key x < key (l.getD j d)) : (insAt l K x).Pairwise fun a b => key a < key b := by
  unfold insAt
  have ht : ∀ a ∈ l.take K, key a < key x := fun a ha => by
    obtain ⟨u, hu, he⟩ := List.getElem_of_mem ha
    have hu' : u < K ∧ u < l.length := by rw [List.length_take] at hu; omega
    rw [List.getElem_take] at he
    have := h1 u hu'.1
    rw [getD_eq hu'.2, he] at this; exact this
  have hd : ∀ a ∈ l.drop K, key x < key a := fun a ha => by
    obtain ⟨u, hu, he⟩ := List.getElem_of_mem ha
    have hu' : K + u < l.length := by rw [List.length_drop] at hu; omega
    rw [List.getElem_drop] at he
    have := h2 (K + u) (by omega) hu'
    rw [getD_eq hu', he] at this; exact this
  rw [List.pairwise_append]
  refine ⟨hl.sublist (List.take_sublist _ _), ?_, fun a ha b hb => ?_⟩
  · rw [List.pairwise_append]
    exact ⟨List.pairwise_singleton _ _, hl.sublist (List.drop_sublist _ _), fun a ha b hb => by rw [List.mem_singleton.1 ha]; exact hd b hb⟩
  · rcases List.mem_append.1 hb with h | h
    · rw [List.mem_singleton.1 h]; exact ht a ha
    · have := ht a ha
      have := hd b h
      omega
theorem pw_strict {α : Type} (key : α → Int) {d : α} {l : List α} (h : ∀ k, 0 < k → k < l.length → key (l.getD (k - 1) d) < key (l.getD k d)) : l.Pairwise fun a b => key a < key b := by
  have lt : ∀ m i, i + m + 1 < l.length → key (l.getD i d) < key (l.getD (i + m + 1) d) := by
    intro m
    induction m with
    | zero => intro i hi; have := h (i + 1) (by omega) (by omega); simpa using this
    | succ m ih =>
      intro i hi
      have h1 := ih i (by omega)
      have h2 := h (i + m + 2) (by omega) (by omega)
      rw [show i + m + 2 - 1 = i + m + 1 by omega] at h2
      rw [show i + (m + 1) + 1 = i + m + 2 by omega]
      omega
  rw [List.pairwise_iff_getElem]
  intro i j hi hj hij
  have := lt (j - i - 1) i (by omega)
  rw [show i + (j - i - 1) + 1 = j by omega, getD_eq hi, getD_eq hj] at this
  exact this
theorem pw_at {α : Type} (key : α → Int) {d : α} {l : List α} (h : l.Pairwise fun a b => key a < key b) {i j : Nat} (hij : i < j) (hj : j < l.length) : key (l.getD i d) < key (l.getD j d) := by
  rw [getD_eq (by omega), getD_eq hj]
  exact List.pairwise_iff_getElem.1 h i j (by omega) hj hij
/-- A list in order whose keys differ is strictly in order. -/
theorem pw_ne {α : Type} (key : α → Int) {l o : List α} (hp : o.Perm l) (ho : o.Pairwise fun a b => key a ≤ key b) (hl : l.Pairwise fun a b => key a ≠ key b) : o.Pairwise fun a b => key a < key b := by
  have hne : o.Pairwise fun a b => key a ≠ key b := (hp.pairwise_iff (fun {a b} hab => Ne.symm hab)).2 hl
  exact (ho.and hne).imp fun {a b} h => by have h1 := h.1; have h2 := h.2; omega
theorem push_ne {α : Type} (key : α → Int) {l : List α} {x : α} (hl : l.Pairwise fun a b => key a < key b) (hx : ∀ y ∈ l, key y ≠ key x) : (l ++ [x]).Pairwise fun a b => key a ≠ key b := by
  rw [List.pairwise_append]
  refine ⟨hl.imp fun {a b} h => by omega, List.pairwise_singleton _ _, fun a ha b hb => ?_⟩
  rw [List.mem_singleton.1 hb]; exact hx a ha
/-- The place where one belongs. -/
theorem place {α : Type} (key : α → Int) {d : α} {l : List α} {z : Int} (hl : l.Pairwise fun a b => key a < key b) (hz : ∀ y ∈ l, key y ≠ z) : ∃ K, K ≤ l.length ∧ (∀ j, j < K → key (l.getD j d) < z) ∧ (∀ j, K ≤ j → j < l.length → z < key (l.getD j d)) ∧ ∀ {R : Type} (kx : Int → R), ((List.range l.length).find? fun j => !decide (key (l.getD j d) < z)).elim (kx (l.length : Int)) (fun k => kx (k : Int)) = kx (K : Int) := by
  rcases find_range (fun j => !decide (key (l.getD j d) < z)) l.length with ⟨h1, h2⟩ | ⟨K, h1, h2, h3, h4⟩
  · refine ⟨l.length, Nat.le_refl _, fun j hj => ?_, fun j hj1 hj2 => by omega, fun kx => by rw [h1]; rfl⟩
    have := h2 j hj
    simpa using this
  · refine ⟨K, by omega, fun j hj => ?_, fun j hj1 hj2 => ?_, fun kx => by rw [h1]; rfl⟩
    · have := h4 j hj
      simpa using this
    · have hK : ¬ key (l.getD K d) < z := by
        intro hh
        have h3 : (!decide (key (l.getD K d) < z)) = true := h3
        rw [decide_eq_true hh] at h3
        cases h3
      have hne := hz _ (getD_mem (d := d) hj2)
      by_cases e : j = K
      · subst e; omega
      · have := pw_at key (d := d) hl (show K < j by omega) hj2
        omega
theorem sortI_ins {l : List Int} {z : Int} {K : Nat} (hl : l.Pairwise fun a b => a < b) (hz : ∀ y ∈ l, y ≠ z) (hK : K ≤ l.length) (h1 : ∀ j, j < K → l.getD j 0 < z) (h2 : ∀ j, K ≤ j → j < l.length → z < l.getD j 0) : sortI (l ++ [z]) = insAt l K z :=
  sorted_uniK (fun x => x) _ _ (pw_ne (fun x => x) (sortI_perm _) (sortI_sorted _) (push_ne (fun x => x) hl hz)) (insAt_sorted (fun x => x) (d := 0) hl hK h1 h2) fun x => by rw [(sortI_perm _).mem_iff]; exact insAt_mem.symm
theorem sortB_ins {n : Nat} {l : List SBill} {z : SBill} {K : Nat} (hl : l.Pairwise fun a b => a.Id < b.Id) (hr : ∀ y ∈ l ++ [z], 1 ≤ y.Id ∧ y.Id ≤ 1000000) (hz : ∀ y ∈ l, y.Id ≠ z.Id) (hK : K ≤ l.length) (h1 : ∀ j, j < K → (l.getD j dSBill).Id < z.Id) (h2 : ∀ j, K ≤ j → j < l.length → z.Id < (l.getD j dSBill).Id) (hll : l.length ≤ 1000) : slices_SortFunc_impl_Bill_impl_Bill__impl_DoBill_1 n (l ++ [z]) = some (insAt l K z) := by
  obtain ⟨o, o1, o2, o3⟩ := sortL_ok (d := dSBill) (cmp := fun a b => impl_DoBill_1 n a b) (cf := fun a b => a.Id - b.Id) (l := l ++ [z]) (fun x hx y hy => by
    have := hr x hx
    have := hr y hy
    unfold impl_DoBill_1
    rw [w64_id (by omega) (by omega)]) (fun x _ => by omega) (fun x _ y _ w _ g1 g2 => by omega) (fun x _ y _ w _ g1 g2 => by omega) (by rw [List.length_append]; simp; omega)
  unfold slices_SortFunc_impl_Bill_impl_Bill__impl_DoBill_1
  rw [o1]
  congr 1
  exact sorted_uniK (fun x : SBill => x.Id) _ _ (pw_ne (fun x : SBill => x.Id) o2 (o3.imp fun {a b} h => by omega) (push_ne (fun x : SBill => x.Id) hl hz)) (insAt_sorted (fun x : SBill => x.Id) (d := dSBill) hl hK h1 h2) fun x => by rw [o2.mem_iff]; exact insAt_mem.symm
/-! ### Who holds how many -/
def cntW (l : List ByteArray) (w : ByteArray) : Nat → Nat
  | 0 => 0
  | k + 1 => if l.getD k (str []) = w then cntW l w k + 1 else cntW l w k
theorem cntW_le (l : List ByteArray) (w : ByteArray) : ∀ k, cntW l w k ≤ k
  | 0 => Nat.le_refl _
  | k + 1 => by
    have := cntW_le l w k
    unfold cntW
    split <;> omega
theorem cntW_zero (l : List ByteArray) (w : ByteArray) : ∀ k, cntW l w k = 0 ↔ ∀ j, j < k → ¬ l.getD j (str []) = w
  | 0 => ⟨fun _ j hj => absurd hj (Nat.not_lt_zero _), fun _ => rfl⟩
  | k + 1 => by
    have ih := cntW_zero l w k
    unfold cntW
    by_cases h : l.getD k (str []) = w
    · rw [if_pos h]
      exact ⟨fun hh => by omega, fun hh => absurd h (hh k (Nat.lt_succ_self _))⟩
    · rw [if_neg h, ih]
      exact ⟨fun hh j hj => by
        by_cases e : j = k
        · rw [e]; exact h
        · exact hh j (by omega), fun hh j hj => hh j (by omega)⟩
theorem cntW_all (l : List ByteArray) (w : ByteArray) : ∀ k, cntW l w k = k ↔ ∀ j, j < k → l.getD j (str []) = w
  | 0 => ⟨fun _ j hj => absurd hj (Nat.not_lt_zero _), fun _ => rfl⟩
  | k + 1 => by
    have ih := cntW_all l w k
    have hle := cntW_le l w k
    unfold cntW
    by_cases h : l.getD k (str []) = w
    · rw [if_pos h]
      constructor
      · intro hh j hj
        by_cases e : j = k
        · rw [e]; exact h
        · exact ih.1 (by omega) j (by omega)
      · intro hh
        have := ih.2 fun j hj => hh j (by omega)
        omega
    · rw [if_neg h]
      exact ⟨fun hh => by omega, fun hh => absurd (hh k (Nat.lt_succ_self _)) h⟩
theorem holds_spec {n : Nat} (x : SBill) (w : ByteArray) (hl : x.Held.length ≤ 1000) (hn : 1000000000 < n) : spec_l14Holds n x w = some ((cntW x.Held w x.Held.length : Nat) : Int) := by
  unfold spec_l14Holds
  refine loop_runS (enc := fun k (s : Int) => (s, k)) (I := fun k s => s = ((cntW x.Held w k : Nat) : Int)) (Q := fun r => r = some ((cntW x.Held w x.Held.length : Nat) : Int)) (len := x.Held.length) (fun k s J hk hI => ⟨_, rfl, ?_⟩) (fun s J hI => ?_) (by omega) rfl
  · have e : w64 ((k : Int) + 1) = ((k + 1 : Nat) : Int) := w64_succ (by omega)
    have hle := cntW_le x.Held w k
    have e2 : w64 (((cntW x.Held w k : Nat) : Int) + 1) = ((cntW x.Held w k + 1 : Nat) : Int) := w64_succ (by omega)
    show spec_l14Holds_L3 n _ (fun n16 k17 => J (n16, k17)) w s (k : Int) x = J (((if x.Held.getD k (str []) = w then cntW x.Held w k + 1 else cntW x.Held w k : Nat) : Int), ((k + 1 : Nat) : Int))
    unfold spec_l14Holds_L3
    rw [decide_eq_true (by omega), cond_true, ix_nat hk, Int.toNat_natCast, e, hI, e2, bif_dec]
    split <;> rfl
  · show spec_l14Holds_L3 n _ (fun n16 k17 => J (n16, k17)) w s (x.Held.length : Int) x = _
    unfold spec_l14Holds_L3
    rw [decide_eq_false (by omega), cond_false, hI]
end Go.Sm
end

section
set_option linter.unusedSimpArgs false
set_option linter.deprecated false
set_option linter.unusedSectionVars false
set_option linter.unusedVariables false
set_option linter.unusedSimpArgs false
namespace Go.Sm
attribute [local irreducible] bd chk ix loopN
/-! ### An op on a bill -/
def heldIs (x : SBill) (op : SBillOp) : Bool := decide (0 ≤ op.Number ∧ op.Number ≤ w64 (x.Many - 1)) && decide (x.Held.getD op.Number.toNat (str []) = op.Who)
def doB (x : SBill) (op : SBillOp) : Option SBill :=
  bif decide (op.Kind = 2) then (bif decide (op.Who = x.Order) || (decide (x.Order = str []) && !decide (((cntW x.Held op.Who x.Held.length : Nat) : Int) = 0)) then some ⟨x.Id, x.Shipper, op.To, x.Many, x.Held⟩ else none)
  else (bif decide (op.Kind = 3) then (bif heldIs x op then some ⟨x.Id, x.Shipper, x.Order, x.Many, x.Held.set op.Number.toNat op.To⟩ else none)
  else (bif decide (op.Kind = 4) then (bif heldIs x op && (decide (x.Order = str []) || decide (x.Order = op.Who)) then some ⟨x.Id, x.Shipper, x.Order, x.Many, List.replicate x.Many.toNat (str [])⟩ else none)
  else (bif decide (((cntW x.Held op.Who x.Held.length : Nat) : Int) = x.Many) then some ⟨x.Id, x.Shipper, x.Order, op.Many, List.replicate op.Many.toNat op.Who⟩ else none)))
theorem do_spec {n : Nat} (x : SBill) (op : SBillOp) (hx : 1 ≤ x.Many ∧ x.Many ≤ 5) (hh : (x.Held.length : Int) = x.Many) (hk : 2 ≤ op.Kind ∧ op.Kind ≤ 5) (hm : op.Kind = 5 → 1 ≤ op.Many ∧ op.Many ≤ 5) (hn : 1000000000 < n) : spec_l14Do n x op = some ((doB x op).elim (x, false) fun y => (y, true)) := by
  have ew : w64 (x.Many - 1) = x.Many - 1 := w64_id (by omega) (by omega)
  unfold spec_l14Do doB heldIs
  rw [holds_spec x op.Who (by omega) hn]
  simp only [Option.bind_some, in_spec, bd_eq]
  by_cases h2 : op.Kind = 2
  · rw [decide_eq_true h2, cond_true, cond_true]
    generalize decide (op.Who = x.Order) = a1
    generalize decide (x.Order = str []) = a2
    generalize decide (((cntW x.Held op.Who x.Held.length : Nat) : Int) = 0) = a3
    cases a1 <;> cases a2 <;> cases a3 <;> rfl
  rw [decide_eq_false h2, cond_false, cond_false]
  by_cases hr : 0 ≤ op.Number ∧ op.Number ≤ w64 (x.Many - 1)
  · have hnl : op.Number < (x.Held.length : Int) := by rw [ew] at hr; omega
    have hnt : op.Number.toNat < x.Held.length := by omega
    have hix : ∀ {R : Type} {y : Option R}, ix op.Number x.Held.length y = y := ix_of hr.1 hnl
    rw [decide_eq_true hr]
    simp only [hix, chk_dec hnt, Bool.true_and, Bool.not_true, cond_false, made_spec (str []) (show 0 ≤ x.Many ∧ x.Many ≤ 1000 by omega) hn, Option.bind_some]
    by_cases h3 : op.Kind = 3
    · rw [decide_eq_true h3, cond_true, cond_true]
      cases decide (x.Held.getD op.Number.toNat (str []) = op.Who) <;> rfl
    rw [decide_eq_false h3, cond_false, cond_false]
    by_cases h4 : op.Kind = 4
    · rw [decide_eq_true h4, cond_true, cond_true]
      generalize decide (x.Held.getD op.Number.toNat (str []) = op.Who) = a1
      generalize decide (x.Order = str []) = a2
      generalize decide (x.Order = op.Who) = a3
      cases a1 <;> cases a2 <;> cases a3 <;> rfl
    rw [decide_eq_false h4, cond_false, cond_false, decide_eq_true (show op.Kind = 5 by omega), cond_true, made_spec op.Who (by have := hm (by omega); omega) hn]
    cases decide (((cntW x.Held op.Who x.Held.length : Nat) : Int) = x.Many) <;> rfl
  · rw [decide_eq_false hr]
    simp only [Bool.false_and, Bool.not_false, cond_true, cond_false]
    by_cases h3 : op.Kind = 3
    · rw [decide_eq_true h3]; rfl
    rw [decide_eq_false h3, cond_false, cond_false]
    by_cases h4 : op.Kind = 4
    · rw [decide_eq_true h4]; rfl
    rw [decide_eq_false h4, cond_false, cond_false, decide_eq_true (show op.Kind = 5 by omega), cond_true, made_spec op.Who (by have := hm (by omega); omega) hn]
    cases decide (((cntW x.Held op.Who x.Held.length : Nat) : Int) = x.Many) <;> rfl
theorem strs_impl {n : Nat} (l : List ByteArray) (w : ByteArray) (hl : l.length ≤ 1000) (hn : 1000000000 < n) : slices_Contains_string_string n l w = some (!decide (((cntW l w l.length : Nat) : Int) = 0)) := by
  unfold slices_Contains_string_string slices_Index_string_string
  rw [loop_idx (len := l.length) (p := fun k => decide (w = l.getD k (str []))) (by omega) (fun k J hk _ => ?_) (fun J _ => ?_) (by omega), Option.bind_some, idxOf_ge]
  · congr 1
    rw [Bool.eq_iff_iff, List.any_eq_true]
    constructor
    · rintro ⟨j, hj, hh⟩
      have hj := List.mem_range.1 hj
      have hh := of_decide_eq_true hh
      have : ¬ cntW l w l.length = 0 := fun h0 => (cntW_zero l w l.length).1 h0 j hj hh.symm
      rw [decide_eq_false (by omega)]; rfl
    · intro hh
      cases hany : (List.range l.length).any fun j => decide (w = l.getD j (str [])) with
      | true =>
        obtain ⟨j, hj, hh⟩ := List.any_eq_true.1 hany
        exact ⟨j, hj, hh⟩
      | false =>
        exfalso
        have h0 := List.any_eq_false.1 hany
        have : cntW l w l.length = 0 := (cntW_zero l w l.length).2 fun j hj hh => h0 j (List.mem_range.2 hj) (decide_eq_true hh.symm)
        rw [decide_eq_true (by omega)] at hh; cases hh
  · have e2 : w64 ((k : Int) + 1) = ((k + 1 : Nat) : Int) := w64_succ (by omega)
    unfold slices_Index_string_string_L2
    rw [decide_eq_true (by omega), cond_true, ix_nat hk, Int.toNat_natCast, e2]
  · unfold slices_Index_string_string_L2
    rw [decide_eq_false (by omega), cond_false]
theorem others_impl {n : Nat} (l : List ByteArray) (op : SBillOp) (hl : l.length ≤ 1000) (hn : 1000000000 < n) : slices_ContainsFunc_string_string__impl_DoBill_2 n l op = some (!decide (cntW l op.Who l.length = l.length)) := by
  unfold slices_ContainsFunc_string_string__impl_DoBill_2 slices_IndexFunc_string_string__impl_DoBill_2
  rw [loop_idx (len := l.length) (p := fun k => !decide (l.getD k (str []) = op.Who)) (by omega) (fun k J hk _ => ?_) (fun J _ => ?_) (by omega), Option.bind_some, idxOf_ge]
  · congr 1
    rw [← List.not_all_eq_any_not]
    congr 1
    rw [Bool.eq_iff_iff, List.all_eq_true, decide_eq_true_eq, cntW_all]
    exact ⟨fun h j hj => of_decide_eq_true (h j (List.mem_range.2 hj)), fun h j hj => decide_eq_true (h j (List.mem_range.1 hj))⟩
  · have e2 : w64 ((k : Int) + 1) = ((k + 1 : Nat) : Int) := w64_succ (by omega)
    unfold slices_IndexFunc_string_string__impl_DoBill_2_L2 impl_DoBill_2
    rw [decide_eq_true (by omega), cond_true, ix_nat hk, Int.toNat_natCast, Option.bind_some, e2]
  · unfold slices_IndexFunc_string_string__impl_DoBill_2_L2
    rw [decide_eq_false (by omega), cond_false]
end Go.Sm
end

section
set_option linter.unusedSimpArgs false
set_option linter.deprecated false
set_option linter.unusedSectionVars false
set_option linter.unusedVariables false
set_option linter.unusedSimpArgs false
namespace Go.Sm
attribute [local irreducible] bd chk ix loopN
structure Hyp (n : Nat) (b : SBook) (i : Nat) (x : SBill) (op : SBillOp) (F : List Int) : Prop where
  hn : 1000000000 < n
  hi : i < b.Bills.length
  hx : b.Bills.getD i dSBill = x
  many : 1 ≤ x.Many ∧ x.Many ≤ 5
  held : (x.Held.length : Int) = x.Many
  kind : 2 ≤ op.Kind ∧ op.Kind ≤ 5
  om : op.Kind = 5 → 1 ≤ op.Many ∧ op.Many ≤ 5
  bl : b.Bills.length ≤ 1000
  hl : ∀ k, k < b.Bills.length → (b.Bills.getD k dSBill).Held.length ≤ 1000
  fl : b.Freed.length ≤ 10000000
  sort : op.Kind = 4 → slices_Sort_int_int n (b.Freed ++ [op.Id]) = some F
  sl : F.length ≤ 10000001
theorem Hyp.own {n : Nat} {b : SBook} {i : Nat} {x : SBill} {op : SBillOp} {F : List Int} (h : Hyp n b i x op F) (y : SBill) (hy : y.Held.length ≤ 1000) (G : List Int) (hG : G.length ≤ 10000001) : impl_Book_own n ⟨b.Bills.set i y, G⟩ = some ⟨b.Bills.set i y, G⟩ := by
  have h1 := h.bl
  refine copy_impl _ (by show (b.Bills.set i y).length ≤ _; rw [List.length_set]; omega) (by show G.length ≤ _; omega) (fun k hk => ?_) h.hn
  show ((b.Bills.set i y).getD k dSBill).Held.length ≤ _
  have hk : k < b.Bills.length := by have hk : k < (b.Bills.set i y).length := hk; rw [List.length_set] at hk; exact hk
  by_cases e : k = i
  · rw [e, getD_set h.hi]; omega
  · rw [getD_set_ne e]; have := h.hl k hk; omega
theorem k1_2 {n : Nat} {b : SBook} {i : Nat} {x : SBill} {op : SBillOp} {F : List Int} (h : Hyp n b i x op F) (hk : op.Kind = 2) : impl_DoBill_k1 n i op b.Bills b.Freed = some (⟨b.Bills.set i ⟨x.Id, x.Shipper, op.To, x.Many, x.Held⟩, b.Freed⟩, 0) := by
  have hh := h.held
  have hm := h.many
  have hf := h.fl
  unfold impl_DoBill_k1
  rw [decide_eq_true hk, cond_true, chk_dec h.hi, bd_eq, bd_eq, h.hx, h.own _ (by show x.Held.length ≤ 1000; omega) _ (by omega), Option.bind_some]
theorem k1_3 {n : Nat} {b : SBook} {i : Nat} {x : SBill} {op : SBillOp} {F : List Int} (h : Hyp n b i x op F) (hk : op.Kind = 3) (hr : 0 ≤ op.Number ∧ op.Number < (x.Held.length : Int)) : impl_DoBill_k1 n i op b.Bills b.Freed = some (⟨b.Bills.set i ⟨x.Id, x.Shipper, x.Order, x.Many, x.Held.set op.Number.toNat op.To⟩, b.Freed⟩, 0) := by
  have hh := h.held
  have hm := h.many
  have hf := h.fl
  unfold impl_DoBill_k1
  rw [decide_eq_false (show ¬ op.Kind = 2 by omega), cond_false, decide_eq_true hk, cond_true, chk_dec h.hi, chk_dec h.hi, h.hx, ix_of hr.1 hr.2, chk_dec h.hi, chk_dec (by omega), bd_eq, h.own _ (by show (x.Held.set _ _).length ≤ 1000; rw [List.length_set]; omega) _ (by omega), Option.bind_some]
theorem k1_4 {n : Nat} {b : SBook} {i : Nat} {x : SBill} {op : SBillOp} {F : List Int} (h : Hyp n b i x op F) (hk : op.Kind = 4) : impl_DoBill_k1 n i op b.Bills b.Freed = some (⟨b.Bills.set i ⟨x.Id, x.Shipper, x.Order, x.Many, List.replicate x.Many.toNat (str [])⟩, F⟩, 0) := by
  have hm := h.many
  have hf := h.fl
  unfold impl_DoBill_k1
  rw [decide_eq_false (show ¬ op.Kind = 2 by omega), cond_false, decide_eq_false (show ¬ op.Kind = 3 by omega), cond_false, decide_eq_true hk, cond_true, chk_dec h.hi, h.hx, made_impl (str []) (by omega) h.hn, Option.bind_some, chk_dec h.hi, bd_eq, bd_eq, chk_dec (by rw [List.length_append]; simp; omega), h.sort hk, Option.bind_some, h.own _ (by show (List.replicate _ _).length ≤ 1000; rw [List.length_replicate]; omega) _ h.sl, Option.bind_some]
theorem k1_5 {n : Nat} {b : SBook} {i : Nat} {x : SBill} {op : SBillOp} {F : List Int} (h : Hyp n b i x op F) (hk : op.Kind = 5) : impl_DoBill_k1 n i op b.Bills b.Freed = some (⟨b.Bills.set i ⟨x.Id, x.Shipper, x.Order, op.Many, List.replicate op.Many.toNat op.Who⟩, b.Freed⟩, 0) := by
  have hm := h.om hk
  have hf := h.fl
  have hi2 : ∀ y, i < (b.Bills.set i y).length := fun y => by rw [List.length_set]; exact h.hi
  unfold impl_DoBill_k1
  rw [decide_eq_false (show ¬ op.Kind = 2 by omega), cond_false, decide_eq_false (show ¬ op.Kind = 3 by omega), cond_false, decide_eq_false (show ¬ op.Kind = 4 by omega), cond_false, decide_eq_true hk, cond_true, made_impl op.Who (by omega) h.hn, Option.bind_some, chk_dec h.hi, h.hx, bd_eq, bd_eq, chk_dec (hi2 _), bd_eq, bd_eq, getD_set h.hi, List.set_set, h.own _ (by show (List.replicate _ _).length ≤ 1000; rw [List.length_replicate]; omega) _ (by omega), Option.bind_some]
theorem do_impl {n : Nat} {b : SBook} {i : Nat} {x : SBill} {op : SBillOp} {F : List Int} (h : Hyp n b i x op F) : impl_DoBill_k4 n (i : Int) op b.Bills b.Freed b.Bills b.Freed = some ((doB x op).elim (b, 5) fun y => (⟨b.Bills.set i y, bif decide (op.Kind = 4) then F else b.Freed⟩, 0)) := by
  have hm := h.many
  have hh := h.held
  have hkk := h.kind
  have ew : w64 (x.Many - 1) = x.Many - 1 := w64_id (by omega) (by omega)
  unfold impl_DoBill_k4 doB
  rw [ix_nat h.hi, Int.toNat_natCast]
  by_cases h2 : op.Kind = 2
  · rw [decide_eq_false (show ¬ op.Kind = 3 by omega), decide_eq_false (show ¬ op.Kind = 4 by omega), Bool.not_false, cond_true, cond_true, decide_eq_true h2, cond_true, cond_false]
    unfold impl_DoBill_k2
    rw [decide_eq_true h2, cond_true, chk_dec h.hi, chk_dec h.hi, chk_dec h.hi, chk_dec h.hi, h.hx, strs_impl _ _ (by omega) h.hn, Option.bind_some, k1_2 h h2]
    have ec : decide (x.Order = op.Who) = decide (op.Who = x.Order) := by rw [decide_eq_decide]; exact eq_comm
    rw [ec]
    generalize decide (op.Who = x.Order) = a1
    generalize decide (x.Order = str []) = a2
    generalize decide (((cntW x.Held op.Who x.Held.length : Nat) : Int) = 0) = a3
    cases a1 <;> cases a2 <;> cases a3 <;> rfl
  rw [decide_eq_false h2, cond_false]
  by_cases h3 : op.Kind = 3
  · rw [decide_eq_true h3, decide_eq_false (show ¬ op.Kind = 4 by omega), Bool.not_true, cond_false, cond_true, cond_false, chk_dec h.hi, h.hx, bd_eq, in_impl, Option.bind_some]
    unfold impl_DoBill_k3 heldIs
    by_cases hr : 0 ≤ op.Number ∧ op.Number ≤ w64 (x.Many - 1)
    · have hr2 : 0 ≤ op.Number ∧ op.Number < (x.Held.length : Int) := by rw [ew] at hr; omega
      rw [decide_eq_true hr, cond_true, decide_eq_false h2, cond_false, decide_eq_true h3, cond_true, chk_dec h.hi, chk_dec h.hi, h.hx, ix_of hr2.1 hr2.2, chk_dec h.hi, chk_dec (by omega), k1_3 h h3 hr2, Bool.true_and]
      cases decide (x.Held.getD op.Number.toNat (str []) = op.Who) <;> rfl
    · rw [decide_eq_false hr]; rfl
  rw [decide_eq_false h3, cond_false, Bool.not_false, cond_true]
  by_cases h4 : op.Kind = 4
  · rw [decide_eq_true h4, Bool.not_true, cond_false, cond_true, cond_true, chk_dec h.hi, h.hx, bd_eq, in_impl, Option.bind_some]
    unfold impl_DoBill_k3 heldIs
    by_cases hr : 0 ≤ op.Number ∧ op.Number ≤ w64 (x.Many - 1)
    · have hr2 : 0 ≤ op.Number ∧ op.Number < (x.Held.length : Int) := by rw [ew] at hr; omega
      rw [decide_eq_true hr, cond_true, decide_eq_false h2, cond_false, decide_eq_false h3, cond_false, decide_eq_true h4, cond_true, chk_dec h.hi, chk_dec h.hi, h.hx, ix_of hr2.1 hr2.2, chk_dec h.hi, chk_dec (by omega), chk_dec h.hi, chk_dec h.hi, k1_4 h h4, Bool.true_and]
      generalize decide (x.Held.getD op.Number.toNat (str []) = op.Who) = a1
      generalize decide (x.Order = str []) = a2
      generalize decide (x.Order = op.Who) = a3
      cases a1 <;> cases a2 <;> cases a3 <;> rfl
    · rw [decide_eq_false hr]; rfl
  have h5 : op.Kind = 5 := by omega
  rw [decide_eq_false h4, Bool.not_false, cond_true, cond_false, cond_false]
  unfold impl_DoBill_k2
  rw [decide_eq_false h2, cond_false, decide_eq_false h3, cond_false, decide_eq_false h4, cond_false, decide_eq_true h5, cond_true, chk_dec h.hi, chk_dec h.hi, h.hx, others_impl _ _ (by omega) h.hn, Option.bind_some, k1_5 h h5]
  have ec : decide (cntW x.Held op.Who x.Held.length = x.Held.length) = decide (((cntW x.Held op.Who x.Held.length : Nat) : Int) = x.Many) := by rw [decide_eq_decide]; omega
  rw [ec]
  cases decide (((cntW x.Held op.Who x.Held.length : Nat) : Int) = x.Many) <;> rfl
end Go.Sm
end

section
set_option linter.unusedSimpArgs false
set_option linter.deprecated false
set_option linter.unusedSectionVars false
set_option linter.unusedVariables false
set_option linter.unusedSimpArgs false
namespace Go.Sm
attribute [local irreducible] bd chk ix loopN
theorem nameB_sz {s : ByteArray} (h : nameB s = true) : s.size ≤ 20 := by
  unfold nameB at h
  rw [Bool.and_eq_true, decide_eq_true_eq] at h
  omega
theorem emptyB_sz {s : ByteArray} (h : emptyB s = true) : s.size ≤ 20 := by
  unfold emptyB at h
  rw [Bool.or_eq_true, decide_eq_true_eq] at h
  rcases h with h | h
  · rw [h]; decide
  · exact nameB_sz h
theorem idR_impl (n : Nat) (x : Int) : impl_idRight n x = some (decide (1 ≤ x ∧ x ≤ 1000000)) := by
  unfold impl_idRight; rw [in_impl]; rfl
theorem entry_impl {n : Nat} (b : SBook) (op : SBillOp) (hz : BookSz b) (hw : op.Who.size ≤ 100000000) (ht : op.To.size ≤ 100000000) (hn : 1000000000 < n) : impl_DoBill n b op = bif bookB b && opB op then impl_DoBill_k5 n b op b.Bills b.Freed else some (b, 1) := by
  unfold impl_DoBill impl_DoBill_k8 impl_DoBill_k11 impl_DoBill_k6 impl_DoBill_k7 impl_DoBill_k9 impl_DoBill_k10 opB toB manyB
  rw [copy_impl b hz.bills hz.freed (fun k hk => (hz.each k hk).2.2.1) hn, Option.bind_some, book_impl b hz hn]
  simp only [in_impl, idR_impl, name_impl op.Who hw hn, name_impl op.To ht hn, empty_impl op.To ht hn, Option.bind_some]
  generalize bookB b = a0
  generalize decide (1 ≤ op.Id ∧ op.Id ≤ 1000000) = a1
  generalize nameB op.Who = a2
  generalize nameB op.To = a3
  generalize emptyB op.To = a4
  generalize decide (1 ≤ op.Many ∧ op.Many ≤ 5) = a5
  generalize hk5 : impl_DoBill_k5 n b op b.Bills b.Freed = z
  by_cases h1 : op.Kind = 1
  · rw [h1]; cases a0 <;> cases a1 <;> cases a2 <;> cases a4 <;> cases a5 <;> rfl
  by_cases h2 : op.Kind = 2
  · rw [h2]; cases a0 <;> cases a1 <;> cases a2 <;> cases a4 <;> rfl
  by_cases h3 : op.Kind = 3
  · rw [h3]; cases a0 <;> cases a1 <;> cases a2 <;> cases a3 <;> rfl
  by_cases h4 : op.Kind = 4
  · rw [h4]; cases a0 <;> cases a1 <;> cases a2 <;> rfl
  by_cases h5 : op.Kind = 5
  · rw [h5]; cases a0 <;> cases a1 <;> cases a2 <;> cases a5 <;> rfl
  rw [decide_eq_false h1, decide_eq_false h2, decide_eq_false h3, decide_eq_false h5, decide_eq_false (show ¬ (1 ≤ op.Kind ∧ op.Kind ≤ 5) by omega)]
  cases a0 <;> rfl
theorem entry_spec {n : Nat} (b : SBook) (op : SBillOp) (hz : BookSz b) (hw : op.Who.size ≤ 100000000) (ht : op.To.size ≤ 100000000) (hn : 1000000000 < n) : spec_DoBill n b op = bif bookB b && opB op then spec_DoBill_k3 n b op b.Bills b.Freed else some (b, 1) := by
  unfold spec_DoBill
  rw [copy_spec b hz hz.bills hz.freed (fun k hk => (hz.each k hk).2.2.1) hn, Option.bind_some, book_spec b hz hn, Option.bind_some, op_spec op hw ht hn, Option.bind_some]
  cases bookB b <;> cases opB op <;> rfl
structure BFacts (b : SBook) : Prop where
  len : b.Bills.length ≤ 30
  each : ∀ k, k < b.Bills.length → (1 ≤ (b.Bills.getD k dSBill).Id ∧ (b.Bills.getD k dSBill).Id ≤ 1000000) ∧ (1 ≤ (b.Bills.getD k dSBill).Many ∧ (b.Bills.getD k dSBill).Many ≤ 5) ∧ ((b.Bills.getD k dSBill).Held.length : Int) = (b.Bills.getD k dSBill).Many
  bills : b.Bills.Pairwise fun x y => x.Id < y.Id
  freed : b.Freed.Pairwise fun x y => x < y
theorem book_facts {b : SBook} (h : bookB b = true) : BFacts b := by
  unfold bookB at h
  rw [Bool.and_eq_true, Bool.and_eq_true, decide_eq_true_eq] at h
  obtain ⟨h1, h2, h3⟩ := h
  have hb : ∀ k, k < b.Bills.length → billOk b.Bills k = true := fun k hk => List.all_eq_true.1 h2 k (List.mem_range.2 hk)
  have hf : ∀ k, k < b.Freed.length → freedOk b k = true := fun k hk => List.all_eq_true.1 h3 k (List.mem_range.2 hk)
  refine ⟨h1, fun k hk => ?_, pw_strict (fun x : SBill => x.Id) (d := dSBill) fun k hk0 hk => ?_, pw_strict (fun x => x) (d := 0) fun k hk0 hk => ?_⟩
  · have := hb k hk
    unfold billOk billBase at this
    simp only [Bool.and_eq_true, decide_eq_true_eq] at this
    exact ⟨this.1, this.2.2.2.2.1, this.2.2.2.2.2.1⟩
  · have := hb k hk
    unfold billOk at this
    simp only [Bool.and_eq_true, Bool.or_eq_true, decide_eq_true_eq, Bool.not_eq_true', decide_eq_false_iff_not] at this
    have h0 := this.2.1
    show (b.Bills.getD (k - 1) dSBill).Id < (b.Bills.getD k dSBill).Id
    omega
  · have := hf k hk
    unfold freedOk at this
    simp only [Bool.and_eq_true, Bool.or_eq_true, decide_eq_true_eq, Bool.not_eq_true', decide_eq_false_iff_not] at this
    have h0 := this.2
    show b.Freed.getD (k - 1) 0 < b.Freed.getD k 0
    omega
theorem loop_bills {R : Type} {n : Nat} (kx : Int → Option R) (op : SBillOp) (c1 : List SBill) (c2 : List Int) (l : List SBill) (c4 : List Int) (hl : l.length ≤ 1000) (hn : 1000000000 < n) : loopN (fun (x : Int) J' => spec_DoBill_L9 n kx J' x op c1 c2 l c4) n ((0 : Nat) : Int) = ((List.range l.length).find? fun j => !decide ((l.getD j dSBill).Id < op.Id)).elim (kx (l.length : Int)) (fun k => kx (k : Int)) := by
  refine loop_findE (enc := fun k => ((k : Nat) : Int)) (fun k J hk _ => ?_) (fun J => ?_) (by omega)
  · have e : w64 ((k : Int) + 1) = ((k + 1 : Nat) : Int) := w64_succ (by omega)
    unfold spec_DoBill_L9
    rw [decide_eq_true (by omega), cond_true, ix_nat hk, Int.toNat_natCast, chk_dec hk, e]
    cases decide ((l.getD k dSBill).Id < op.Id) <;> rfl
  · unfold spec_DoBill_L9
    rw [decide_eq_false (by omega), cond_false]
theorem loop_freed {R : Type} {n : Nat} (kx : Int → Option R) (op : SBillOp) (c1 : List SBill) (c2 : List Int) (c3 : List SBill) (l : List Int) (hl : l.length ≤ 100000000) (hn : 1000000000 < n) : loopN (fun (x : Int) J' => spec_DoBill_L25 n kx J' x op c1 c2 c3 l) n ((0 : Nat) : Int) = ((List.range l.length).find? fun j => !decide (l.getD j 0 < op.Id)).elim (kx (l.length : Int)) (fun k => kx (k : Int)) := by
  refine loop_findE (enc := fun k => ((k : Nat) : Int)) (fun k J hk _ => ?_) (fun J => ?_) (by omega)
  · have e : w64 ((k : Int) + 1) = ((k + 1 : Nat) : Int) := w64_succ (by omega)
    unfold spec_DoBill_L25
    rw [decide_eq_true (by omega), cond_true, ix_nat hk, Int.toNat_natCast, chk_dec hk, e]
    cases decide (l.getD k 0 < op.Id) <;> rfl
  · unfold spec_DoBill_L25
    rw [decide_eq_false (by omega), cond_false]
theorem ins_eq {α : Type} (l : List α) (K : Nat) (x : α) : (l.drop 0).take (K - 0) ++ ([x] ++ (l.drop K).take (l.length - K)) = insAt l K x := by
  unfold insAt
  rw [List.drop_zero, Nat.sub_zero, List.take_of_length_le (l := l.drop K) (by rw [List.length_drop]; exact Nat.le_refl _)]
theorem insAt_len {α : Type} (l : List α) (K : Nat) (x : α) (hK : K ≤ l.length) : (insAt l K x).length = l.length + 1 := by
  unfold insAt
  rw [List.length_append, List.length_append, List.length_take, List.length_drop]
  simp only [List.length_singleton]; omega
end Go.Sm
end

section
set_option linter.unusedSimpArgs false
set_option linter.deprecated false
set_option linter.unusedSectionVars false
set_option linter.unusedVariables false
set_option linter.unusedSimpArgs false
namespace Go.Sm
attribute [local irreducible] bd chk ix loopN
theorem issue_both {n : Nat} {b : SBook} {op : SBillOp} (hf : BFacts b) (hid : 1 ≤ op.Id ∧ op.Id ≤ 1000000) (hmany : 1 ≤ op.Many ∧ op.Many ≤ 5) (hno : ∀ y ∈ b.Bills, y.Id ≠ op.Id) (hz : BookSz b) (hn : 1000000000 < n) :
    ∃ K, K ≤ b.Bills.length ∧ spec_DoBill_k0 n op b.Bills b.Freed = some (⟨insAt b.Bills K ⟨op.Id, op.Who, op.To, op.Many, List.replicate op.Many.toNat op.Who⟩, b.Freed⟩, 0) ∧ impl_DoBill_k0 n op b.Bills b.Freed = some (⟨insAt b.Bills K ⟨op.Id, op.Who, op.To, op.Many, List.replicate op.Many.toNat op.Who⟩, b.Freed⟩, 0) := by
  have hlen := hf.len
  obtain ⟨K, k1, k2, k3, k4⟩ := place (fun x : SBill => x.Id) (d := dSBill) hf.bills hno
  refine ⟨K, k1, ?_, ?_⟩
  · unfold spec_DoBill_k0
    refine ((loop_bills _ op [] [] b.Bills b.Freed (by omega) hn).trans (k4 _)).trans ?_
    have hI := insAt_len b.Bills K (⟨op.Id, op.Who, op.To, op.Many, List.replicate op.Many.toNat op.Who⟩ : SBill) k1
    have h0 : ((b.Bills.drop 0).take (K - 0)).length ≤ 30 := by rw [List.length_take, List.length_drop]; omega
    have h1 : ((b.Bills.drop K).take (b.Bills.length - K)).length ≤ 30 := by rw [List.length_take, List.length_drop]; omega
    rw [made_spec op.Who (by omega) hn, Option.bind_some, chk_dec (by omega), chk_dec (by omega)]
    rw [Int.toNat_natCast, chk_dec (by omega), chk_dec (by rw [List.length_append]; simp only [List.length_singleton]; omega), chk_dec (by omega), chk_dec (by omega), chk_dec (by omega), chk_dec (by omega), chk_dec (by rw [ins_eq, hI]; omega), ins_eq]
  · unfold impl_DoBill_k0
    rw [made_impl op.Who (by omega) hn, Option.bind_some, bd_eq, chk_dec (by rw [List.length_append]; simp only [List.length_singleton]; omega)]
    rw [sortB_ins (n := n) (l := b.Bills) (z := ⟨op.Id, op.Who, op.To, op.Many, List.replicate op.Many.toNat op.Who⟩) (K := K) hf.bills (fun y hy => by
      rcases List.mem_append.1 hy with h | h
      · obtain ⟨u, hu, he⟩ := List.getElem_of_mem h
        have := (hf.each u hu).1
        rw [getD_eq hu, he] at this; exact this
      · rw [List.mem_singleton.1 h]; exact hid) hno k1 k2 k3 (by omega), Option.bind_some]
    have hI := insAt_len b.Bills K (⟨op.Id, op.Who, op.To, op.Many, List.replicate op.Many.toNat op.Who⟩ : SBill) k1
    have hcp : impl_Book_own n ⟨insAt b.Bills K ⟨op.Id, op.Who, op.To, op.Many, List.replicate op.Many.toNat op.Who⟩, b.Freed⟩ = some ⟨insAt b.Bills K ⟨op.Id, op.Who, op.To, op.Many, List.replicate op.Many.toNat op.Who⟩, b.Freed⟩ := by
      refine copy_impl _ (by show (insAt b.Bills K _).length ≤ _; omega) hz.freed (fun k hk => ?_) hn
      have hm := getD_mem (d := dSBill) hk
      have hm2 := insAt_mem.1 (show _ ∈ insAt b.Bills K _ from hm)
      rcases List.mem_append.1 hm2 with h | h
      · obtain ⟨u, hu, he⟩ := List.getElem_of_mem h
        have := (hz.each u hu).2.2.1
        rw [getD_eq hu, he] at this; exact this
      · rw [List.mem_singleton.1 h]
        show (List.replicate _ _).length ≤ _
        rw [List.length_replicate]; omega
    rw [hcp, Option.bind_some]
theorem main_both {n : Nat} {b : SBook} {op : SBillOp} (hb : bookB b = true) (ho : opB op = true) (hz : BookSz b) (hfl : b.Freed.length ≤ 10000000) (hn : 1000000000 < n) : ∃ r, spec_DoBill_k3 n b op b.Bills b.Freed = some r ∧ impl_DoBill_k5 n b op b.Bills b.Freed = some r ∧ (r.1 = b ∨ (op.Kind = 1 ∧ ∃ K, r.1 = ⟨insAt b.Bills K ⟨op.Id, op.Who, op.To, op.Many, List.replicate op.Many.toNat op.Who⟩, b.Freed⟩) ∨ ∃ i y F, ¬ op.Kind = 1 ∧ i < b.Bills.length ∧ doB (b.Bills.getD i dSBill) op = some y ∧ F.length ≤ b.Freed.length + 1 ∧ r.1 = ⟨b.Bills.set i y, F⟩) := by
  have hf := book_facts hb
  have hlen := hf.len
  have hop := ho
  unfold opB manyB at hop
  simp only [Bool.and_eq_true, decide_eq_true_eq] at hop
  obtain ⟨o1, o2, o3, o4, o5⟩ := hop
  unfold spec_DoBill_k3 impl_DoBill_k5
  rw [copy_impl b hz.bills hz.freed (fun k hk => (hz.each k hk).2.2.1) hn, Option.bind_some, find_spec b op.Id hz.bills hn, at_impl b op.Id hz.bills hn, Option.bind_some, Option.bind_some, has_spec _ _ hz.freed hn, contains_impl _ _ hz.freed hn]
  by_cases h1 : op.Kind = 1
  · rw [decide_eq_true h1, cond_true, cond_true]
    rw [decide_eq_true h1, Bool.true_or, cond_true, decide_eq_true_eq] at o5
    rcases idxOf_spec (fun j => decide ((b.Bills.getD j dSBill).Id = op.Id)) b.Bills.length with ⟨i1, i2⟩ | ⟨i, i1, i2, i3, i4⟩
    · rw [i1, decide_eq_false (by omega), cond_false, cond_false]
      by_cases h30 : (b.Bills.length : Int) = 30
      · rw [decide_eq_true h30]; exact ⟨_, rfl, rfl, .inl rfl⟩
      · rw [decide_eq_false h30, cond_false, cond_false]
        obtain ⟨K, _, k2, k3⟩ := issue_both (n := n) hf o2 o5 (fun y hy he => by
          obtain ⟨u, hu, hue⟩ := List.getElem_of_mem hy
          have := i2 u hu
          rw [getD_eq hu, hue, decide_eq_true he] at this; cases this) hz hn
        exact ⟨_, k2, k3, .inr (.inl ⟨h1, K, rfl⟩)⟩
    · rw [i1, decide_eq_true (by omega)]; exact ⟨_, rfl, rfl, .inl rfl⟩
  rw [decide_eq_false h1, cond_false, cond_false]
  rcases idxOf_spec (fun j => decide ((b.Bills.getD j dSBill).Id = op.Id)) b.Bills.length with ⟨i1, i2⟩ | ⟨i, i1, i2, i3, i4⟩
  · rw [i1, decide_eq_true (by omega)]; exact ⟨_, rfl, rfl, .inl rfl⟩
  rw [i1, decide_eq_false (by omega), cond_false, cond_false, Option.bind_some, Option.bind_some]
  cases hfr : (List.range b.Freed.length).any fun k => decide (b.Freed.getD k 0 = op.Id) with
  | true => exact ⟨_, rfl, rfl, .inl rfl⟩
  | false =>
    rw [cond_false, cond_false]
    have hno : ∀ y ∈ b.Freed, y ≠ op.Id := fun y hy he => by
      obtain ⟨u, hu, hue⟩ := List.getElem_of_mem hy
      have := List.any_eq_false.1 hfr u (List.mem_range.2 hu)
      rw [getD_eq hu, hue] at this
      exact this (decide_eq_true he)
    obtain ⟨K, k1, k2, k3, k4⟩ := place (fun x : Int => x) (d := 0) hf.freed hno
    have hIl := insAt_len b.Freed K op.Id k1
    obtain ⟨e1, e2, e3⟩ := hf.each i i2
    have hx : Hyp n b i (b.Bills.getD i dSBill) op (insAt b.Freed K op.Id) := ⟨hn, i2, rfl, e2, e3, by omega, fun h5 => by
        rw [decide_eq_false h1, decide_eq_true h5, Bool.false_or, cond_true, decide_eq_true_eq] at o5; exact o5, by omega, fun k hk => by have := (hf.each k hk).2; omega, hfl, fun _ => by
        unfold slices_Sort_int_int sortIO
        rw [if_pos ⟨by rw [List.length_append]; simp, by rw [List.length_append]; simp; omega⟩, sortI_ins hf.freed hno k1 k2 k3], by omega⟩
    rw [do_impl hx]
    unfold spec_DoBill_k2
    rw [ix_nat i2, Int.toNat_natCast, chk_dec i2, bd_eq, chk_dec i2]
    rw [show (⟨(b.Bills.getD i dSBill).Id, (b.Bills.getD i dSBill).Shipper, (b.Bills.getD i dSBill).Order, (b.Bills.getD i dSBill).Many, (b.Bills.getD i dSBill).Held⟩ : SBill) = b.Bills.getD i dSBill from rfl, do_spec _ op e2 e3 hx.kind hx.om hn, Option.bind_some]
    cases hd : doB (b.Bills.getD i dSBill) op with
    | none =>
      refine ⟨(b, 5), ?_, rfl, .inl rfl⟩
      show (spec_l14Copy n b).bind _ = _
      rw [copy_spec b hz hz.bills hz.freed (fun k hk => (hz.each k hk).2.2.1) hn]; rfl
    | some y =>
      refine ⟨(⟨b.Bills.set i y, bif decide (op.Kind = 4) then insAt b.Freed K op.Id else b.Freed⟩, 0), ?_, rfl, .inr (.inr ⟨i, y, _, h1, i2, hd, ?_, rfl⟩)⟩
      · show spec_DoBill_k1 n (i : Int) op i b.Bills b.Freed y.Id y.Shipper y.Order y.Many y.Held = _
        unfold spec_DoBill_k1
        rw [ix_nat i2, Int.toNat_natCast, chk_dec i2, chk_dec rfl, bd_eq]
        by_cases h4 : op.Kind = 4
        · rw [decide_eq_true h4, cond_true, cond_true]
          refine ((loop_freed _ op [] [] _ b.Freed hz.freed hn).trans (k4 _)).trans ?_
          have h0 : ((b.Freed.drop 0).take (K - 0)).length ≤ 10000000 := by rw [List.length_take, List.length_drop]; omega
          have hd1 : ((b.Freed.drop K).take (b.Freed.length - K)).length ≤ 10000000 := by rw [List.length_take, List.length_drop]; omega
          rw [chk_dec (by omega), chk_dec (by omega), Int.toNat_natCast, chk_dec (by omega), bd_eq, chk_dec (by rw [List.length_append]; simp only [List.length_singleton]; omega), chk_dec (by omega), chk_dec (by omega), chk_dec (by omega), bd_eq, chk_dec (by omega), chk_dec (by rw [ins_eq, hIl]; omega), ins_eq]
        · rw [decide_eq_false h4]; rfl
      · cases decide (op.Kind = 4)
        · exact Nat.le_succ _
        · rw [cond_true, hIl]; exact Nat.le_refl _
end Go.Sm
end

section
set_option linter.unusedSimpArgs false
set_option linter.deprecated false
set_option linter.unusedSectionVars false
set_option linter.unusedVariables false
set_option linter.unusedSimpArgs false
namespace Go.Sm
attribute [local irreducible] bd chk ix loopN
theorem sumOf_bd7 {α : Type} {f : α → Nat} {B : Nat} : ∀ l : List α, (∀ x ∈ l, f x ≤ B) → sumOf f l ≤ B * l.length
  | [], _ => Nat.zero_le _
  | a :: l, h => by
    have e : sumOf f (a :: l) = f a + sumOf f l := rfl
    have h1 := h a List.mem_cons_self
    have h2 := sumOf_bd7 l fun x hx => h x (List.mem_cons_of_mem _ hx)
    rw [e, List.length_cons, Nat.mul_succ]
    omega
theorem sumOf_set {α : Type} (f : α → Nat) (x : α) : ∀ (l : List α) (i : Nat), sumOf f (l.set i x) ≤ sumOf f l + f x
  | [], i => Nat.zero_le _
  | a :: l, 0 => by
    show f x + sumOf f l ≤ f a + sumOf f l + f x
    omega
  | a :: l, i + 1 => by
    have := sumOf_set f x l i
    show f a + sumOf f (l.set i x) ≤ f a + sumOf f l + f x
    omega
theorem sumOf_set2 {α : Type} (f : α → Nat) (x d : α) : ∀ (l : List α) (i : Nat), i < l.length → sumOf f (l.set i x) + f (l.getD i d) = sumOf f l + f x
  | [], i, h => absurd h (Nat.not_lt_zero _)
  | a :: l, 0, _ => by
    show f x + sumOf f l + f a = f a + sumOf f l + f x
    omega
  | a :: l, i + 1, h => by
    have := sumOf_set2 f x d l i (by simpa using h)
    show f a + sumOf f (l.set i x) + f (l.getD i d) = f a + sumOf f l + f x
    omega
theorem sumOf_ins {α : Type} (f : α → Nat) (l : List α) (K : Nat) (x : α) : sumOf f (insAt l K x) = sumOf f l + f x := by
  unfold insAt
  have h : sumOf f l = sumOf f (l.take K) + sumOf f (l.drop K) := by rw [← sumOf_append, List.take_append_drop]
  rw [sumOf_append, sumOf_append, h]
  have : sumOf f [x] = f x + 0 := rfl
  omega
theorem w_rep {m : Int} {w : ByteArray} (hm : m ≤ 5) (hw : w.size ≤ 20) : w_LBA (List.replicate m.toNat w) ≤ 105 := by
  have h := sumOf_bd7 (f := fun y : ByteArray => y.size) (B := 20) (List.replicate m.toNat w) fun x hx => by rw [(List.mem_replicate.1 hx).2]; exact hw
  unfold w_LBA
  rw [List.length_replicate] at h ⊢
  omega
theorem w_do {x y : SBill} {op : SBillOp} (h : doB x op = some y) (hx : x.Many ≤ 5) (hw : op.Who.size ≤ 20) (ht : op.Kind = 2 ∨ op.Kind = 3 → op.To.size ≤ 20) (hm : op.Kind = 5 → op.Many ≤ 5) (hk : 2 ≤ op.Kind ∧ op.Kind ≤ 5) : w_SBill y ≤ w_SBill x + 200 := by
  unfold doB at h
  by_cases h2 : op.Kind = 2
  · rw [decide_eq_true h2, cond_true] at h
    generalize (decide (op.Who = x.Order) || _) = a at h
    cases a with
    | false => cases h
    | true =>
      cases h
      have := ht (.inl h2)
      show x.Shipper.size + op.To.size + w_LBA x.Held ≤ x.Shipper.size + x.Order.size + w_LBA x.Held + 200
      omega
  rw [decide_eq_false h2, cond_false] at h
  by_cases h3 : op.Kind = 3
  · rw [decide_eq_true h3, cond_true] at h
    cases hh : heldIs x op with
    | false => rw [hh] at h; cases h
    | true =>
      rw [hh] at h
      cases h
      have h20 := ht (.inr h3)
      have hs := sumOf_set (fun z : ByteArray => z.size) op.To x.Held op.Number.toNat
      show x.Shipper.size + x.Order.size + ((x.Held.set op.Number.toNat op.To).length + sumOf (fun z : ByteArray => z.size) (x.Held.set op.Number.toNat op.To)) ≤ x.Shipper.size + x.Order.size + (x.Held.length + sumOf (fun z : ByteArray => z.size) x.Held) + 200
      rw [List.length_set]
      omega
  rw [decide_eq_false h3, cond_false] at h
  by_cases h4 : op.Kind = 4
  · rw [decide_eq_true h4, cond_true] at h
    generalize (heldIs x op && _) = a at h
    cases a with
    | false => cases h
    | true =>
      cases h
      have := w_rep (m := x.Many) (w := str []) hx (by decide)
      show x.Shipper.size + x.Order.size + w_LBA (List.replicate x.Many.toNat (str [])) ≤ x.Shipper.size + x.Order.size + w_LBA x.Held + 200
      omega
  rw [decide_eq_false h4, cond_false] at h
  generalize decide (((cntW x.Held op.Who x.Held.length : Nat) : Int) = x.Many) = a at h
  cases a with
  | false => cases h
  | true =>
    cases h
    have := w_rep (m := op.Many) (w := op.Who) (hm (by omega)) hw
    show x.Shipper.size + x.Order.size + w_LBA (List.replicate op.Many.toNat op.Who) ≤ x.Shipper.size + x.Order.size + w_LBA x.Held + 200
    omega
theorem dobill_both {n : Nat} (b : SBook) (op : SBillOp) (hb : w_SBook b ≤ 2000000) (ho : w_SBillOp op ≤ 1048576) (hn : 1000000000 < n) : ∃ r, spec_DoBill n b op = some r ∧ impl_DoBill n b op = some r ∧ w_SBook r.1 ≤ w_SBook b + 1000 := by
  have hz := bookSz b (by omega)
  have hwo : w_SBillOp op = op.Who.size + op.To.size := rfl
  have hwb : w_SBook b = (b.Bills.length + sumOf (fun y => w_SBill y) b.Bills) + b.Freed.length := rfl
  rw [entry_spec b op hz (by omega) (by omega) hn, entry_impl b op hz (by omega) (by omega) hn]
  cases hbb : bookB b with
  | false => exact ⟨_, rfl, rfl, by show w_SBook b ≤ _; omega⟩
  | true =>
    cases hoo : opB op with
    | false => exact ⟨_, rfl, rfl, by show w_SBook b ≤ _; omega⟩
    | true =>
      obtain ⟨r, r1, r2, r3⟩ := main_both (n := n) hbb hoo hz (by omega) hn
      refine ⟨r, r1, r2, ?_⟩
      have hop := hoo
      unfold opB toB manyB at hop
      simp only [Bool.and_eq_true, decide_eq_true_eq] at hop
      obtain ⟨o1, o2, o3, o4, o5⟩ := hop
      have hw20 := nameB_sz o3
      have ht20 : op.Kind = 1 ∨ op.Kind = 2 ∨ op.Kind = 3 → op.To.size ≤ 20 := fun h => by
        by_cases h3 : op.Kind = 3
        · rw [decide_eq_true h3, cond_true] at o4; exact nameB_sz o4
        · rw [decide_eq_false h3, cond_false] at o4
          rcases h with h | h | h
          · rw [decide_eq_true h, Bool.true_or, cond_true] at o4; exact emptyB_sz o4
          · rw [decide_eq_true h, Bool.or_true, cond_true] at o4; exact emptyB_sz o4
          · exact absurd h h3
      have hm5 : op.Kind = 1 ∨ op.Kind = 5 → op.Many ≤ 5 := fun h => by
        rcases h with h | h
        · rw [decide_eq_true h, Bool.true_or, cond_true, decide_eq_true_eq] at o5; exact o5.2
        · rw [decide_eq_true h, Bool.or_true, cond_true, decide_eq_true_eq] at o5; exact o5.2
      rcases r3 with h | ⟨h1, K, h⟩ | ⟨i, y, F, h1, hi, hd, hF, h⟩
      · rw [h]; omega
      · rw [h]
        have hs := sumOf_ins (fun y : SBill => w_SBill y) b.Bills K ⟨op.Id, op.Who, op.To, op.Many, List.replicate op.Many.toNat op.Who⟩
        have hl := w_rep (m := op.Many) (w := op.Who) (hm5 (.inl h1)) hw20
        have ht := ht20 (.inl h1)
        have hK : (insAt b.Bills K (⟨op.Id, op.Who, op.To, op.Many, List.replicate op.Many.toNat op.Who⟩ : SBill)).length ≤ b.Bills.length + 1 := by
          unfold insAt
          rw [List.length_append, List.length_append, List.length_take, List.length_drop]
          simp only [List.length_singleton]; omega
        have he : w_SBill (⟨op.Id, op.Who, op.To, op.Many, List.replicate op.Many.toNat op.Who⟩ : SBill) = op.Who.size + op.To.size + w_LBA (List.replicate op.Many.toNat op.Who) := rfl
        show ((insAt b.Bills K _).length + sumOf (fun y => w_SBill y) (insAt b.Bills K _)) + b.Freed.length ≤ _
        rw [hs]
        show _ + (_ + w_SBill (⟨op.Id, op.Who, op.To, op.Many, List.replicate op.Many.toNat op.Who⟩ : SBill)) + _ ≤ _
        omega
      · rw [h]
        have hf := book_facts hbb
        have hx := (hf.each i hi).2.1
        have hy := w_do hd hx.2 hw20 (fun hh => ht20 (.inr hh)) (fun hh => hm5 (.inr hh)) (by omega)
        have hs := sumOf_set2 (fun y : SBill => w_SBill y) y dSBill b.Bills i hi
        have hs : sumOf (fun y : SBill => w_SBill y) (b.Bills.set i y) + w_SBill (b.Bills.getD i dSBill) = sumOf (fun y : SBill => w_SBill y) b.Bills + w_SBill y := hs
        show ((b.Bills.set i y).length + sumOf (fun y => w_SBill y) (b.Bills.set i y)) + F.length ≤ _
        rw [List.length_set]
        omega
/-! ### A run of ops -/
noncomputable def dob (n : Nat) (b : SBook) (op : SBillOp) : SBook × Int := (impl_DoBill n b op).getD (b, 0)
theorem dob_ok {n : Nat} (b : SBook) (op : SBillOp) (hb : w_SBook b ≤ 2000000) (ho : w_SBillOp op ≤ 1048576) (hn : 1000000000 < n) : spec_DoBill n b op = some (dob n b op) ∧ impl_DoBill n b op = some (dob n b op) ∧ w_SBook (dob n b op).1 ≤ w_SBook b + 1000 := by
  obtain ⟨r, h1, h2, h3⟩ := dobill_both (n := n) b op hb ho hn
  have e : dob n b op = r := by unfold dob; rw [h2]; rfl
  rw [e]; exact ⟨h1, h2, h3⟩
noncomputable def stepN (n : Nat) (s : SBook × List Int) (d : SBillOp) : SBook × List Int := ((dob n s.1 d).1, s.2 ++ [(dob n s.1 d).2])
noncomputable def runN (n : Nat) (h : SBook) (l : List SBillOp) : SBook × List Int := l.foldl (stepN n) (h, [])
theorem runN_succ (n : Nat) (h : SBook) (l : List SBillOp) {k : Nat} (hk : k < l.length) : runN n h (l.take (k + 1)) = stepN n (runN n h (l.take k)) (l.getD k dSBillOp) := by
  unfold runN
  rw [take_succ_getD (d := dSBillOp) hk, List.foldl_append]
  rfl
theorem op_w {l : List SBillOp} {k : Nat} (hk : k < l.length) (hw : w_LSBillOp l ≤ 1048576) : w_SBillOp (l.getD k dSBillOp) ≤ 1048576 := by
  have hm := sumOf_mem (f := fun y : SBillOp => w_SBillOp y) (d := dSBillOp) hk
  have hm : w_SBillOp (l.getD k dSBillOp) ≤ sumOf (fun y : SBillOp => w_SBillOp y) l := hm
  have : w_LSBillOp l = l.length + sumOf (fun y : SBillOp => w_SBillOp y) l := rfl
  omega
theorem step_leM {a c h k m : Nat} (g : a ≤ c + m) (h1 : c ≤ h + m * k) : a ≤ h + m * (k + 1) := by rw [Nat.mul_succ]; omega
theorem step_le {a c h k : Nat} (g : a ≤ c + 1000) (h1 : c ≤ h + 1000 * k) : a ≤ h + 1000 * (k + 1) := step_leM g h1
theorem run_le {c h k : Nat} (h1 : c ≤ h + 1000 * k) (hh : h ≤ 1048576) (hk : k ≤ 200) : c ≤ 2000000 := by omega
theorem runN_ok {n : Nat} (h : SBook) (l : List SBillOp) (hw : w_SBook h ≤ 1048576) (hl : w_LSBillOp l ≤ 1048576) (h200 : l.length ≤ 200) (hn : 1000000000 < n) : ∀ k, k ≤ l.length → w_SBook (runN n h (l.take k)).1 ≤ w_SBook h + 1000 * k ∧ (runN n h (l.take k)).2.length = k
  | 0, _ => ⟨by show w_SBook h ≤ _; omega, rfl⟩
  | k + 1, hk => by
    obtain ⟨h1, h2⟩ := runN_ok h l hw hl h200 hn k (by omega)
    rw [runN_succ n h l (by omega)]
    obtain ⟨_, _, g⟩ := dob_ok (n := n) (runN n h (l.take k)).1 (l.getD k dSBillOp) (run_le h1 hw (by omega)) (op_w (by omega) hl) hn
    have e : w_SBook (dob n (runN n h (l.take k)).1 (l.getD k dSBillOp)).1 ≤ w_SBook h + 1000 * (k + 1) := step_le g h1
    exact ⟨e, by unfold stepN; simp [h2]⟩
noncomputable def runsN (n : Nat) (h : SBook) (l : List SBillOp) : SBook × List Int := if l.length ≤ 200 then runN n h l else (h, [])
theorem ownc_impl (n : Nat) (l : List Int) (h : l.length ≤ 200000000) : impl_own_int n l = some l := by
  unfold impl_own_int
  rw [chk_dec (by omega), chk_dec (by omega), chk_dec (by omega)]
theorem runs_spec {n : Nat} (h : SBook) (l : List SBillOp) (h1 : w_SBook h ≤ 1048576) (hl : w_LSBillOp l ≤ 1048576) (hn : 1000000000 < n) : spec_RunBills n h l = some (runsN n h l) := by
  have hz := bookSz h (by omega)
  have hll : w_LSBillOp l = l.length + sumOf (fun y : SBillOp => w_SBillOp y) l := rfl
  unfold spec_RunBills runsN
  rw [copy_spec h hz hz.bills hz.freed (fun k hk => (hz.each k hk).2.2.1) hn, Option.bind_some]
  by_cases h200 : l.length ≤ 200
  · rw [if_pos h200]
    refine loop_runS (S := SBook × List Int) (X := Int × List SBill × List Int × List Int) (enc := fun i s => (i, s.1.Bills, s.1.Freed, s.2)) (len := l.length) (I := fun k s => s = runN n h (l.take k)) (Q := fun r => r = some (runN n h l)) (fun k s J hk hi => ?_) (fun s J hi => ?_) (n := n) (by omega) (s0 := (h, [])) rfl
    · refine ⟨runN n h (l.take (k + 1)), rfl, ?_⟩
      obtain ⟨g1, g2⟩ := runN_ok h l h1 hl h200 hn k (by omega)
      subst hi
      obtain ⟨hd, _, _⟩ := dob_ok (n := n) (runN n h (l.take k)).1 (l.getD k dSBillOp) (run_le g1 h1 (by omega)) (op_w hk hl) hn
      unfold spec_RunBills_L4 spec_RunBills_k0
      have hd : spec_DoBill n (⟨(runN n h (l.take k)).1.Bills, (runN n h (l.take k)).1.Freed⟩ : SBook) (l.getD k dSBillOp) = some (dob n (runN n h (l.take k)).1 (l.getD k dSBillOp)) := hd
      simp only [Int.ofNat_lt, hk, decide_true, cond_true, ix_nat hk, bd_eq, Int.toNat_natCast, decide_eq_true (show (l.length : Int) ≤ 200 by omega), hd, Option.bind_some, w64_succ (show k < 9223372036854775807 by omega)]
      rw [chk_dec (by simp; omega), runN_succ n h l hk]
      rfl
    · unfold spec_RunBills_L4
      simp only [Int.lt_irrefl, decide_false, cond_false]
      rw [hi, List.take_length]
  · rw [if_neg h200]
    obtain ⟨m, rfl⟩ : ∃ m, n = m + 1 := ⟨n - 1, by omega⟩
    rw [loopN_succ]
    unfold spec_RunBills_L4
    rw [decide_eq_true (show (0 : Int) < (l.length : Int) by omega), decide_eq_false (show ¬ (l.length : Int) ≤ 200 by omega)]
    rfl
theorem runs_impl {n : Nat} (h : SBook) (l : List SBillOp) (h1 : w_SBook h ≤ 1048576) (hl : w_LSBillOp l ≤ 1048576) (hn : 1000000000 < n) : impl_RunBills n h l = some (runsN n h l) := by
  have hz := bookSz h (by omega)
  have hll : w_LSBillOp l = l.length + sumOf (fun y : SBillOp => w_SBillOp y) l := rfl
  unfold impl_RunBills runsN
  rw [copy_impl h hz.bills hz.freed (fun k hk => (hz.each k hk).2.2.1) hn, Option.bind_some]
  by_cases h200 : l.length ≤ 200
  · rw [if_pos h200, decide_eq_false (show ¬ (l.length : Int) > 200 by omega), cond_false]
    unfold impl_RunBills_k1
    refine loop_runS (S := SBook × List Int) (X := Int × List SBill × List Int × List Int) (enc := fun i s => (i, s.1.Bills, s.1.Freed, s.2)) (len := l.length) (I := fun k s => s = runN n h (l.take k)) (Q := fun r => r = some (runN n h l)) (fun k s J hk hi => ?_) (fun s J hi => ?_) (n := n) (by omega) (s0 := (h, [])) rfl
    · refine ⟨runN n h (l.take (k + 1)), rfl, ?_⟩
      obtain ⟨g1, g2⟩ := runN_ok h l h1 hl h200 hn k (by omega)
      subst hi
      obtain ⟨_, hd, _⟩ := dob_ok (n := n) (runN n h (l.take k)).1 (l.getD k dSBillOp) (run_le g1 h1 (by omega)) (op_w hk hl) hn
      unfold impl_RunBills_L6 impl_RunBills_k0
      have hd : impl_DoBill n (⟨(runN n h (l.take k)).1.Bills, (runN n h (l.take k)).1.Freed⟩ : SBook) (l.getD k dSBillOp) = some (dob n (runN n h (l.take k)).1 (l.getD k dSBillOp)) := hd
      simp only [Int.ofNat_lt, hk, decide_true, cond_true, ix_nat hk, bd_eq, Int.toNat_natCast, hd, Option.bind_some, w64_succ (show k < 9223372036854775807 by omega)]
      rw [chk_dec (by simp; omega), runN_succ n h l hk]
      rfl
    · unfold impl_RunBills_L6
      simp only [Int.lt_irrefl, decide_false, cond_false]
      have g := runN_ok (n := n) h l h1 hl h200 hn l.length (Nat.le_refl _)
      rw [List.take_length] at g hi
      subst hi
      rw [ownc_impl n _ (by omega)]
      rfl
  · rw [if_neg h200, decide_eq_true (show (l.length : Int) > 200 by omega), cond_true]
theorem runsN_len {n : Nat} (h : SBook) (l : List SBillOp) (h1 : w_SBook h ≤ 1048576) (hl : w_LSBillOp l ≤ 1048576) (hn : 1000000000 < n) : w_SBook (runsN n h l).1 ≤ 2000000 ∧ (runsN n h l).2.length ≤ 200 := by
  unfold runsN
  by_cases h200 : l.length ≤ 200
  · rw [if_pos h200]
    have g := runN_ok (n := n) h l h1 hl h200 hn l.length (Nat.le_refl _)
    rw [List.take_length] at g
    exact ⟨run_le g.1 h1 h200, by omega⟩
  · rw [if_neg h200]; exact ⟨by show w_SBook h ≤ _; omega, Nat.zero_le _⟩
theorem laws_FnExactRunBills_true (aB0 : SBook) (aOps1 : List SBillOp) (h0 : wfSBook aB0) (h1 : (aOps1.length ≤ 9223372036854775807 ∧ ∀ y ∈ aOps1, wfSBillOp y)) : ∃ n, laws_FnExactRunBills n aB0 aOps1 = some true := by
  refine ⟨1000000001, ?_⟩
  generalize hN : (1000000001 : Nat) = n
  have hn : 1000000000 < n := by omega
  unfold laws_FnExactRunBills
  rw [laws_szBook_ok aB0 h0 (by omega) (by omega) hn, Option.bind_some]
  refine guard_sz fun hw0 => ?_
  rw [if_pos (show ((w_SBook aB0 : Nat) : Int) ≤ 1048576 by omega), laws_szBillOpS_ok aOps1 h1 (by omega) (by omega) hn, Option.bind_some]
  by_cases hw1 : ((w_LSBillOp aOps1 : Nat) : Int) ≤ 1048576 - ((w_SBook aB0 : Nat) : Int)
  case neg => rw [if_neg hw1]; rfl
  rw [if_pos hw1, decide_eq_false (by omega), cond_false]
  have hS := runs_spec (n := n) aB0 aOps1 (by omega) (by omega) hn
  have hI := runs_impl (n := n) aB0 aOps1 (by omega) (by omega) hn
  obtain ⟨hR, hc⟩ := runsN_len (n := n) aB0 aOps1 (by omega) (by omega) hn
  generalize runsN n aB0 aOps1 = R at *
  obtain ⟨R1, R2⟩ := R
  dsimp only at hR hc
  have hwb : w_SBook aB0 = w_LSBill aB0.Bills + w_LInt aB0.Freed := rfl
  have hwR : w_SBook R1 = w_LSBill R1.Bills + w_LInt R1.Freed := rfl
  have hw2 : w_LInt R2 = R2.length := rfl
  have q1 := n_LSBill_le aB0.Bills
  have q2 := n_LInt_le aB0.Freed
  have q3 := n_LSBill_le R1.Bills
  have q4 := n_LInt_le R1.Freed
  have q5 := n_LSBillOp_le aOps1
  have q6 := n_LInt_le R2
  obtain ⟨u0, u1, m1, _⟩ := laws_markBook_ok (n := n) aB0 1 (by omega) (by omega) (by omega) hn
  obtain ⟨u2, m4⟩ := laws_markBillOpS_ok (n := n) aOps1 (1 + ((n_LSBill aB0.Bills + n_LInt aB0.Freed : Nat) : Int)) (by omega) (by omega) (by omega) hn
  obtain ⟨v0, v1, m2, m3⟩ := laws_markBook_ok (n := n) R1 1 (by omega) (by omega) (by omega) hn
  have m3 := m3 ⟨v0, v1⟩ rfl rfl
  obtain ⟨v3, p4, p5⟩ := laws_markIntS_ok (n := n) R2 (1 + ((n_LSBill R1.Bills + n_LInt R1.Freed : Nat) : Int)) (by omega) (by omega) (by omega) hn
  have d1 : decide (1 + ((n_LSBill aB0.Bills + n_LInt aB0.Freed : Nat) : Int) + ((n_LSBillOp aOps1 : Nat) : Int) < 0) = false := decide_eq_false (by omega)
  have d2 : decide (1 + ((n_LSBill R1.Bills + n_LInt R1.Freed : Nat) : Int) < 0) = false := decide_eq_false (by omega)
  have d3 : decide (1 + ((n_LSBill R1.Bills + n_LInt R1.Freed : Nat) : Int) + ((n_LInt R2 : Nat) : Int) < 0) = false := decide_eq_false (by omega)
  have e1 : (⟨aB0.Bills, aB0.Freed⟩ : SBook) = aB0 := rfl
  have e2 : (⟨R1.Bills, R1.Freed⟩ : SBook) = R1 := rfl
  unfold laws_FnExactRunBills_k5 laws_FnExactRunBills_k4 laws_FnExactRunBills_k3 laws_FnExactRunBills_k2 laws_FnExactRunBills_k1 laws_FnExactRunBills_k0
  simp only [laws_toBook_ok aB0 (show _ ≤ 100000000 by omega) hn, laws_toBillOpS_ok aOps1 (show _ ≤ 100000000 by omega) hn, hS, hI, Option.bind_some, laws_eqBook_ok aB0 (show _ ≤ 100000000 by omega) hn, laws_eqBook_ok R1 (show _ ≤ 100000000 by omega) hn, laws_eqBillOpS_ok aOps1 (show _ ≤ 100000000 by omega) hn, laws_eqIntS_ok R2 (show _ ≤ 100000000 by omega) hn,
    e1, e2, m1, m4, m2, m3, p4, p5, d1, d2, d3, decide_true, beq_self_eq_true, Bool.not_true, cond_false, cond_true]
end Go.Sm
end
