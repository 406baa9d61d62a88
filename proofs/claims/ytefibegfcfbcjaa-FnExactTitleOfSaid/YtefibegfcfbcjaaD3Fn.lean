import Derived.Test.YtefibegfcfbcjaaEngA
/- The functions as plain functions over data, and that the law answers true for all arguments. The program's TitleOf returns what the reference's returns, for all arguments whose sizes the statement's guards let in. -/
section
set_option linter.unusedSimpArgs false
set_option linter.deprecated false
set_option linter.unusedSectionVars false
set_option linter.unusedVariables false
namespace Go.Sm
structure SBill where
  Id : Int
  Shipper : ByteArray
  Order : ByteArray
  Many : Int
  Held : List ByteArray
structure SBook where
  Bills : List SBill
  Freed : List Int
def dSBill : SBill := ⟨(0 : Int), str [], str [], (0 : Int), []⟩
def dSBook : SBook := ⟨[], []⟩
def laws_szStringS_L5 {R : Type} (n : Nat) (kx0 : Int → Option R) (kxr : Int → Option R) (J : Int → Int → Option R) (a3 : List ByteArray) (left4 : Int) (i5 : Int) : Option R :=
  (bif (decide (i5 < (a3.length : Int))) then ix i5 a3.length ((bd (w64 (left4 - ((a3.getD i5.toNat (str [])).size : Int))) fun (v11 : Int) => (bif (decide (v11 < (0 : Int))) then kxr (-1 : Int) else J v11 (w64 (i5 + (1 : Int)))))) else kx0 left4)
def laws_szStringS (n : Nat) (a0 : List ByteArray) (left1 : Int) : Option Int :=
  (bd (w64 (left1 - (a0.length : Int))) fun (v1 : Int) => (bif (decide (v1 < (0 : Int))) then some ((-1 : Int)) else loopN (fun (x : Int × Int) J' => laws_szStringS_L5 n (fun left18 => some (left18)) (fun t19 => some (t19)) (fun left20 i21 => J' (left20, i21)) a0 x.1 x.2) n (v1, (0 : Int))))
def laws_szBill (n : Nat) (a0 : SBill) (left1 : Int) : Option Int :=
  (bd (w64 (left1 - (a0.Shipper.size : Int))) fun (v1 : Int) => (bif (decide (v1 < (0 : Int))) then some ((-1 : Int)) else (bd (w64 (v1 - (a0.Order.size : Int))) fun (v9 : Int) => (bif (decide (v9 < (0 : Int))) then some ((-1 : Int)) else (laws_szStringS n a0.Held v9).bind fun r11 => (bif (decide (r11 < (0 : Int))) then some ((-1 : Int)) else some (r11))))))
def laws_szBillS_L5 {R : Type} (n : Nat) (kx0 : Int → Option R) (kxr : Int → Option R) (J : Int → Int → Option R) (a3 : List SBill) (left4 : Int) (i5 : Int) : Option R :=
  (bif (decide (i5 < (a3.length : Int))) then ix i5 a3.length ((bd (a3.getD i5.toNat dSBill) fun (e12 : SBill) => (laws_szBill n e12 left4).bind fun r13 => (bif (decide (r13 < (0 : Int))) then kxr (-1 : Int) else J r13 (w64 (i5 + (1 : Int)))))) else kx0 left4)
def laws_szBillS (n : Nat) (a0 : List SBill) (left1 : Int) : Option Int :=
  (bd (w64 (left1 - (a0.length : Int))) fun (v1 : Int) => (bif (decide (v1 < (0 : Int))) then some ((-1 : Int)) else loopN (fun (x : Int × Int) J' => laws_szBillS_L5 n (fun left20 => some (left20)) (fun t21 => some (t21)) (fun left22 i23 => J' (left22, i23)) a0 x.1 x.2) n (v1, (0 : Int))))
def laws_szIntS (n : Nat) (a0 : List Int) (left1 : Int) : Option Int :=
  (bd (w64 (left1 - (a0.length : Int))) fun (v1 : Int) => (bif (decide (v1 < (0 : Int))) then some ((-1 : Int)) else some (v1)))
def laws_szBook (n : Nat) (a0 : SBook) (left1 : Int) : Option Int :=
  (laws_szBillS n a0.Bills left1).bind fun r1 => (bif (decide (r1 < (0 : Int))) then some ((-1 : Int)) else (laws_szIntS n a0.Freed r1).bind fun r5 => (bif (decide (r5 < (0 : Int))) then some ((-1 : Int)) else some (r5)))
def laws_toStringS_L3 {R : Type} (n : Nat) (kx0 : List ByteArray → Option R) (J : Int → List ByteArray → Option R) (a1 : List ByteArray) (i2 : Int) (out3 : List ByteArray) : Option R :=
  (bif (decide (i2 < (a1.length : Int))) then ix i2 a1.length (ix i2 out3.length (chk (decide (i2.toNat < out3.length)) ((bd (out3.set i2.toNat (a1.getD i2.toNat (str []))) fun (l7 : List ByteArray) => J (w64 (i2 + (1 : Int))) l7)))) else kx0 out3)
def laws_toStringS (n : Nat) (a0 : List ByteArray) : Option (List ByteArray) :=
  chk (decide ((0 : Int) ≤ (a0.length : Int))) (chk (decide ((a0.length : Int) ≤ (a0.length : Int))) (chk (decide ((a0.length : Int) ≤ 9223372036854775807 ∧ (a0.length : Int) * (16 : Int) ≤ 281474976710656)) (loopN (fun (x : Int × List ByteArray) J' => laws_toStringS_L3 n (fun out8 => some (out8)) (fun i9 out10 => J' (i9, out10)) a0 x.1 x.2) n ((0 : Int), (List.replicate (a0.length : Int).toNat (str []))))))
def laws_toBill (n : Nat) (a0 : SBill) : Option SBill :=
  (laws_toStringS n a0.Held).bind fun r1 => some ((⟨a0.Id, a0.Shipper, a0.Order, a0.Many, r1⟩ : SBill))
def laws_toBillS_L3 {R : Type} (n : Nat) (kx0 : List SBill → Option R) (J : Int → List SBill → Option R) (a1 : List SBill) (i2 : Int) (out3 : List SBill) : Option R :=
  (bif (decide (i2 < (a1.length : Int))) then ix i2 a1.length ((bd (a1.getD i2.toNat dSBill) fun (e8 : SBill) => (laws_toBill n e8).bind fun r9 => ix i2 out3.length (chk (decide (i2.toNat < out3.length)) (J (w64 (i2 + (1 : Int))) (out3.set i2.toNat r9))))) else kx0 out3)
def laws_toBillS (n : Nat) (a0 : List SBill) : Option (List SBill) :=
  chk (decide ((0 : Int) ≤ (a0.length : Int))) (chk (decide ((a0.length : Int) ≤ (a0.length : Int))) (chk (decide ((a0.length : Int) ≤ 9223372036854775807 ∧ (a0.length : Int) * (72 : Int) ≤ 281474976710656)) (loopN (fun (x : Int × List SBill) J' => laws_toBillS_L3 n (fun out10 => some (out10)) (fun i11 out12 => J' (i11, out12)) a0 x.1 x.2) n ((0 : Int), (List.replicate (a0.length : Int).toNat dSBill)))))
def laws_toIntS_L3 {R : Type} (n : Nat) (kx0 : List Int → Option R) (J : Int → List Int → Option R) (a1 : List Int) (i2 : Int) (out3 : List Int) : Option R :=
  (bif (decide (i2 < (a1.length : Int))) then ix i2 a1.length (ix i2 out3.length (chk (decide (i2.toNat < out3.length)) ((bd (out3.set i2.toNat (a1.getD i2.toNat (0 : Int))) fun (l7 : List Int) => J (w64 (i2 + (1 : Int))) l7)))) else kx0 out3)
def laws_toIntS (n : Nat) (a0 : List Int) : Option (List Int) :=
  chk (decide ((0 : Int) ≤ (a0.length : Int))) (chk (decide ((a0.length : Int) ≤ (a0.length : Int))) (chk (decide ((a0.length : Int) ≤ 9223372036854775807 ∧ (a0.length : Int) * (8 : Int) ≤ 281474976710656)) (loopN (fun (x : Int × List Int) J' => laws_toIntS_L3 n (fun out8 => some (out8)) (fun i9 out10 => J' (i9, out10)) a0 x.1 x.2) n ((0 : Int), (List.replicate (a0.length : Int).toNat (0 : Int))))))
def laws_toBook (n : Nat) (a0 : SBook) : Option SBook :=
  (laws_toBillS n a0.Bills).bind fun r1 => (laws_toIntS n a0.Freed).bind fun r2 => some ((⟨r1, r2⟩ : SBook))
def spec_l14Find_L2 {R : Type} (n : Nat) (kx0 : Option R) (kxr : Int → Option R) (J : Int → Option R) (id1 : Int) (i2 : Int) (b3 : SBook) : Option R :=
  (bif (decide (i2 < (b3.Bills.length : Int))) then ix i2 b3.Bills.length ((bd (b3.Bills.getD i2.toNat dSBill) fun (e7 : SBill) => (bif (decide (e7.Id = id1)) then kxr i2 else J (w64 (i2 + (1 : Int)))))) else kx0)
def spec_l14Find (n : Nat) (b0 : SBook) (id1 : Int) : Option Int :=
  loopN (fun (x : Int) J' => spec_l14Find_L2 n (some ((-1 : Int))) (fun t9 => some (t9)) J' id1 x b0) n ((0 : Int))
def spec_l1In (n : Nat) (x0 : Int) (a1 : Int) (b2 : Int) : Option Bool :=
  (bif (decide (x0 ≥ a1)) then some ((decide (x0 ≤ b2))) else some (false))
def spec_l1Name_k0 {R : Type} (n : Nat) (kx0 : Option R) (kxr : Bool → Option R) (J : Int → Option R) (s1 : ByteArray) (i3 : Int) : Option R :=
  ix i3 s1.size ((spec_l1In n (w64 (byteAt s1 i3.toNat)) (97 : Int) (122 : Int)).bind fun r4 => (bif (!r4) then (spec_l1In n (w64 (byteAt s1 i3.toNat)) (65 : Int) (90 : Int)).bind fun r5 => (bif (!r5) then (spec_l1In n (w64 (byteAt s1 i3.toNat)) (48 : Int) (57 : Int)).bind fun r6 => (bif (!r6) then (bif (!(decide ((w64 (byteAt s1 i3.toNat)) = (45 : Int)))) then kxr false else J (w64 (i3 + (1 : Int)))) else J (w64 (i3 + (1 : Int)))) else J (w64 (i3 + (1 : Int)))) else J (w64 (i3 + (1 : Int)))))
def spec_l1Name_L2 {R : Type} (n : Nat) (kx0 : Option R) (kxr : Bool → Option R) (J : Int → Option R) (s1 : ByteArray) (i2 : Int) : Option R :=
  (bif (decide (i2 < (s1.size : Int))) then spec_l1Name_k0 n kx0 kxr J s1 i2 else kx0)
def spec_l1Name (n : Nat) (s0 : ByteArray) : Option Bool :=
  loopN (fun (x : Int) J' => spec_l1Name_L2 n ((spec_l1In n (s0.size : Int) (1 : Int) (20 : Int)).bind fun r18 => some (r18)) (fun t19 => some (t19)) J' s0 x) n ((0 : Int))
def spec_BookOk_k0 {R : Type} (n : Nat) (kx2 : Option R) (kxr : Bool → Option R) (J : Int → Option R) (i25 : Int) (k29 : Int) (b27 : SBook) (x28 : SBill) : Option R :=
  ix k29 x28.Held.length ((bif (!(decide ((x28.Held.getD k29.toNat (str [])) = str []))) then ix k29 x28.Held.length ((spec_l1Name n (x28.Held.getD k29.toNat (str []))).bind fun r30 => (bif (!r30) then kxr false else J (w64 (k29 + (1 : Int))))) else J (w64 (k29 + (1 : Int)))))
def spec_BookOk_L8 {R : Type} (n : Nat) (kx2 : Option R) (kxr : Bool → Option R) (J : Int → Option R) (i25 : Int) (k26 : Int) (b27 : SBook) (x28 : SBill) : Option R :=
  (bif (decide (k26 < (x28.Held.length : Int))) then spec_BookOk_k0 n kx2 kxr J i25 k26 b27 x28 else kx2)
def spec_BookOk_k1 {R : Type} (n : Nat) (kx0 : Option R) (kxr : Bool → Option R) (J : Int → Option R) (i3 : Int) (b2 : SBook) : Option R :=
  ix i3 b2.Bills.length ((bd (b2.Bills.getD i3.toNat dSBill) fun (e4 : SBill) => (spec_l1In n e4.Id (1 : Int) (1000000 : Int)).bind fun r5 => (bif (!r5) then kxr false else (bif (decide (i3 > (0 : Int))) then ix (w64 (i3 - (1 : Int))) b2.Bills.length ((bd (b2.Bills.getD ((w64 (i3 - (1 : Int))).toNat) dSBill) fun (e8 : SBill) => (bif (decide (e8.Id ≥ e4.Id)) then kxr false else (spec_l1Name n e4.Shipper).bind fun r11 => (bif (!r11) then kxr false else (bif (!(decide (e4.Order = str []))) then (spec_l1Name n e4.Order).bind fun r14 => (bif (!r14) then kxr false else (spec_l1In n e4.Many (1 : Int) (5 : Int)).bind fun r17 => (bif (!r17) then kxr false else (bif (!(decide ((e4.Held.length : Int) = e4.Many))) then kxr false else loopN (fun (x : Int) J' => spec_BookOk_L8 n (J (w64 (i3 + (1 : Int)))) (fun t47 => kxr t47) J' i3 x b2 e4) n ((0 : Int))))) else (spec_l1In n e4.Many (1 : Int) (5 : Int)).bind fun r49 => (bif (!r49) then kxr false else (bif (!(decide ((e4.Held.length : Int) = e4.Many))) then kxr false else loopN (fun (x : Int) J' => spec_BookOk_L8 n (J (w64 (i3 + (1 : Int)))) (fun t58 => kxr t58) J' i3 x b2 e4) n ((0 : Int))))))))) else (spec_l1Name n e4.Shipper).bind fun r60 => (bif (!r60) then kxr false else (bif (!(decide (e4.Order = str []))) then (spec_l1Name n e4.Order).bind fun r63 => (bif (!r63) then kxr false else (spec_l1In n e4.Many (1 : Int) (5 : Int)).bind fun r66 => (bif (!r66) then kxr false else (bif (!(decide ((e4.Held.length : Int) = e4.Many))) then kxr false else loopN (fun (x : Int) J' => spec_BookOk_L8 n (J (w64 (i3 + (1 : Int)))) (fun t75 => kxr t75) J' i3 x b2 e4) n ((0 : Int))))) else (spec_l1In n e4.Many (1 : Int) (5 : Int)).bind fun r77 => (bif (!r77) then kxr false else (bif (!(decide ((e4.Held.length : Int) = e4.Many))) then kxr false else loopN (fun (x : Int) J' => spec_BookOk_L8 n (J (w64 (i3 + (1 : Int)))) (fun t86 => kxr t86) J' i3 x b2 e4) n ((0 : Int))))))))))
def spec_BookOk_L2 {R : Type} (n : Nat) (kx0 : Option R) (kxr : Bool → Option R) (J : Int → Option R) (i1 : Int) (b2 : SBook) : Option R :=
  (bif (decide (i1 < (b2.Bills.length : Int))) then spec_BookOk_k1 n kx0 kxr J i1 b2 else kx0)
def spec_BookOk_k2 {R : Type} (n : Nat) (kx4 : Option R) (kxr : Bool → Option R) (J : Int → Option R) (i90 : Int) (b89 : SBook) : Option R :=
  ix i90 b89.Freed.length ((spec_l14Find n b89 (b89.Freed.getD i90.toNat (0 : Int))).bind fun r91 => (bif (decide (r91 < (0 : Int))) then kxr false else (bif (decide (i90 > (0 : Int))) then ix (w64 (i90 - (1 : Int))) b89.Freed.length (ix i90 b89.Freed.length ((bif (decide ((b89.Freed.getD ((w64 (i90 - (1 : Int))).toNat) (0 : Int)) ≥ (b89.Freed.getD i90.toNat (0 : Int)))) then kxr false else J (w64 (i90 + (1 : Int)))))) else J (w64 (i90 + (1 : Int))))))
def spec_BookOk_L13 {R : Type} (n : Nat) (kx4 : Option R) (kxr : Bool → Option R) (J : Int → Option R) (i88 : Int) (b89 : SBook) : Option R :=
  (bif (decide (i88 < (b89.Freed.length : Int))) then spec_BookOk_k2 n kx4 kxr J i88 b89 else kx4)
def spec_BookOk (n : Nat) (b0 : SBook) : Option Bool :=
  loopN (fun (x : Int) J' => spec_BookOk_L2 n (loopN (fun (x : Int) J' => spec_BookOk_L13 n (some ((decide ((b0.Bills.length : Int) ≤ (30 : Int))))) (fun t100 => some (t100)) J' x b0) n ((0 : Int))) (fun t102 => some (t102)) J' x b0) n ((0 : Int))
def spec_l9Has_L2 {R : Type} (n : Nat) (kx0 : Option R) (kxr : Bool → Option R) (J : Int → Option R) (list1 : List Int) (x2 : Int) (i3 : Int) : Option R :=
  (bif (decide (i3 < (list1.length : Int))) then ix i3 list1.length ((bif (decide ((list1.getD i3.toNat (0 : Int)) = x2)) then kxr true else J (w64 (i3 + (1 : Int))))) else kx0)
def spec_l9Has (n : Nat) (list0 : List Int) (x1 : Int) : Option Bool :=
  loopN (fun (x : Int) J' => spec_l9Has_L2 n (some (false)) (fun t7 => some (t7)) J' list0 x1 x) n ((0 : Int))
def spec_TitleOf_L8 {R : Type} (n : Nat) (kx0 : Option R) (kxr : ByteArray → Bool → Option R) (J : Int → Option R) (k11 : Int) (x12 : SBill) : Option R :=
  (bif (decide (k11 < (x12.Held.length : Int))) then ix k11 x12.Held.length ((bif (!(decide ((x12.Held.getD k11.toNat (str [])) = str []))) then ix k11 x12.Held.length (kxr (x12.Held.getD k11.toNat (str [])) true) else J (w64 (k11 + (1 : Int))))) else kx0)
def spec_TitleOf_k0 (n : Nat)  (at8 : Int) (b0 : SBook) : Option (ByteArray × Bool) :=
  ix at8 b0.Bills.length ((bd (b0.Bills.getD at8.toNat dSBill) fun (e9 : SBill) => (bif (!(decide (e9.Order = str []))) then some (e9.Order, true) else loopN (fun (x : Int) J' => spec_TitleOf_L8 n (some (str [], true)) (fun t19 t20 => some (t19, t20)) J' x e9) n ((0 : Int)))))
def spec_TitleOf (n : Nat) (b0 : SBook) (id1 : Int) : Option (ByteArray × Bool) :=
  (spec_l14Find n b0 id1).bind fun r1 => (spec_BookOk n b0).bind fun r2 => (bif (!r2) then some (str [], false) else (bif (decide (r1 < (0 : Int))) then some (str [], false) else (spec_l9Has n b0.Freed id1).bind fun r5 => (bif r5 then some (str [], false) else spec_TitleOf_k0 n  r1 b0)))
def impl_in (n : Nat) (n0 : Int) (least1 : Int) (most2 : Int) : Option Bool :=
  (bif (decide (n0 ≥ least1)) then some ((decide (n0 ≤ most2))) else some (false))
def impl_idRight (n : Nat) (n0 : Int) : Option Bool :=
  (impl_in n n0 (1 : Int) (1000000 : Int)).bind fun r1 => some (r1)
def impl_nameOk_k0 {R : Type} (n : Nat) (kx0 : Option R) (kxr : Bool → Option R) (J : Int → Option R) (s2 : ByteArray) (t3 : Int) (t5 : Int) : Option R :=
  ix t5 s2.size ((bif (decide ((byteAt s2 t5.toNat) < (97 : Int))) then (bif (decide ((byteAt s2 t5.toNat) < (65 : Int))) then (bif (decide ((byteAt s2 t5.toNat) < (48 : Int))) then (bif (!(decide ((byteAt s2 t5.toNat) = (45 : Int)))) then kxr false else J (w64 (t5 + (1 : Int)))) else (bif (decide ((byteAt s2 t5.toNat) > (57 : Int))) then (bif (!(decide ((byteAt s2 t5.toNat) = (45 : Int)))) then kxr false else J (w64 (t5 + (1 : Int)))) else J (w64 (t5 + (1 : Int))))) else (bif (decide ((byteAt s2 t5.toNat) > (90 : Int))) then (bif (decide ((byteAt s2 t5.toNat) < (48 : Int))) then (bif (!(decide ((byteAt s2 t5.toNat) = (45 : Int)))) then kxr false else J (w64 (t5 + (1 : Int)))) else (bif (decide ((byteAt s2 t5.toNat) > (57 : Int))) then (bif (!(decide ((byteAt s2 t5.toNat) = (45 : Int)))) then kxr false else J (w64 (t5 + (1 : Int)))) else J (w64 (t5 + (1 : Int))))) else J (w64 (t5 + (1 : Int))))) else (bif (decide ((byteAt s2 t5.toNat) > (122 : Int))) then (bif (decide ((byteAt s2 t5.toNat) < (65 : Int))) then (bif (decide ((byteAt s2 t5.toNat) < (48 : Int))) then (bif (!(decide ((byteAt s2 t5.toNat) = (45 : Int)))) then kxr false else J (w64 (t5 + (1 : Int)))) else (bif (decide ((byteAt s2 t5.toNat) > (57 : Int))) then (bif (!(decide ((byteAt s2 t5.toNat) = (45 : Int)))) then kxr false else J (w64 (t5 + (1 : Int)))) else J (w64 (t5 + (1 : Int))))) else (bif (decide ((byteAt s2 t5.toNat) > (90 : Int))) then (bif (decide ((byteAt s2 t5.toNat) < (48 : Int))) then (bif (!(decide ((byteAt s2 t5.toNat) = (45 : Int)))) then kxr false else J (w64 (t5 + (1 : Int)))) else (bif (decide ((byteAt s2 t5.toNat) > (57 : Int))) then (bif (!(decide ((byteAt s2 t5.toNat) = (45 : Int)))) then kxr false else J (w64 (t5 + (1 : Int)))) else J (w64 (t5 + (1 : Int))))) else J (w64 (t5 + (1 : Int))))) else J (w64 (t5 + (1 : Int))))))
def impl_nameOk_L4 {R : Type} (n : Nat) (kx0 : Option R) (kxr : Bool → Option R) (J : Int → Option R) (s2 : ByteArray) (t3 : Int) (t4 : Int) : Option R :=
  (bif (decide (t4 < t3)) then impl_nameOk_k0 n kx0 kxr J s2 t3 t4 else kx0)
def impl_nameOk (n : Nat) (s0 : ByteArray) : Option Bool :=
  (bif (decide ((s0.size : Int) < (1 : Int))) then some (false) else (bif (decide ((s0.size : Int) > (20 : Int))) then some (false) else loopN (fun (x : Int) J' => impl_nameOk_L4 n (some (true)) (fun t50 => some (t50)) J' s0 (s0.size : Int) x) n ((0 : Int))))
def impl_emptyOrName (n : Nat) (s0 : ByteArray) : Option Bool :=
  (bif (decide (s0 = str [])) then some (true) else (impl_nameOk n s0).bind fun r1 => some (r1))
def impl_BookOk_1 (n : Nat) (s0 : ByteArray) : Option Bool :=
  (impl_emptyOrName n s0).bind fun r1 => some ((!r1))
def slices_IndexFunc_string_string__impl_BookOk_1_L2 {R : Type} (n : Nat) (kx0 : Option R) (kxr : Int → Option R) (J : Int → Option R) (s1 : List ByteArray) (t2 : Int) (t3 : Int) : Option R :=
  (bif (decide (t3 < t2)) then ix t3 s1.length ((impl_BookOk_1 n (s1.getD t3.toNat (str []))).bind fun r7 => (bif r7 then kxr t3 else J (w64 (t3 + (1 : Int))))) else kx0)
def slices_IndexFunc_string_string__impl_BookOk_1 (n : Nat) (s0 : List ByteArray) : Option Int :=
  loopN (fun (x : Int) J' => slices_IndexFunc_string_string__impl_BookOk_1_L2 n (some ((-1 : Int))) (fun t9 => some (t9)) J' s0 (s0.length : Int) x) n ((0 : Int))
def slices_ContainsFunc_string_string__impl_BookOk_1 (n : Nat) (s0 : List ByteArray) : Option Bool :=
  (slices_IndexFunc_string_string__impl_BookOk_1 n s0).bind fun r1 => some ((decide (r1 ≥ (0 : Int))))
def impl_BookOk_k0 {R : Type} (n : Nat) (kx0 : List (Int × Bool) → Option R) (kxr : Bool → Option R) (J : Int → List (Int × Bool) → Option R) (t1 : List SBill) (t2 : Int) (t6 : Int) (b4 : SBook) (t7 : List (Int × Bool)) : Option R :=
  ix t6 t1.length ((bd (t1.getD t6.toNat dSBill) fun (e8 : SBill) => (impl_idRight n e8.Id).bind fun r9 => (bif (!r9) then kxr false else (bif (decide (t6 > (0 : Int))) then ix (w64 (t6 - (1 : Int))) b4.Bills.length ((bd (b4.Bills.getD ((w64 (t6 - (1 : Int))).toNat) dSBill) fun (e13 : SBill) => (bif (decide (e13.Id ≥ e8.Id)) then kxr false else (impl_nameOk n e8.Shipper).bind fun r17 => (bif (!r17) then kxr false else (impl_emptyOrName n e8.Order).bind fun r21 => (bif (!r21) then kxr false else (impl_in n e8.Many (1 : Int) (5 : Int)).bind fun r25 => (bif (!r25) then kxr false else (bif (!(decide ((e8.Held.length : Int) = e8.Many))) then kxr false else (slices_ContainsFunc_string_string__impl_BookOk_1 n e8.Held).bind fun r32 => (bif r32 then kxr false else J (w64 (t6 + (1 : Int))) (mputI t7 e8.Id true))))))))) else (impl_nameOk n e8.Shipper).bind fun r49 => (bif (!r49) then kxr false else (impl_emptyOrName n e8.Order).bind fun r53 => (bif (!r53) then kxr false else (impl_in n e8.Many (1 : Int) (5 : Int)).bind fun r57 => (bif (!r57) then kxr false else (bif (!(decide ((e8.Held.length : Int) = e8.Many))) then kxr false else (slices_ContainsFunc_string_string__impl_BookOk_1 n e8.Held).bind fun r64 => (bif r64 then kxr false else J (w64 (t6 + (1 : Int))) (mputI t7 e8.Id true))))))))))
def impl_BookOk_L5 {R : Type} (n : Nat) (kx0 : List (Int × Bool) → Option R) (kxr : Bool → Option R) (J : Int → List (Int × Bool) → Option R) (t1 : List SBill) (t2 : Int) (t3 : Int) (b4 : SBook) (t5 : List (Int × Bool)) : Option R :=
  (bif (decide (t3 < t2)) then impl_BookOk_k0 n kx0 kxr J t1 t2 t3 b4 t5 else kx0 t5)
def impl_BookOk_k1 {R : Type} (n : Nat) (kx2 : Option R) (kxr : Bool → Option R) (J : Int → Option R) (t75 : List Int) (t76 : Int) (t80 : Int) (b78 : SBook) (t79 : List (Int × Bool)) : Option R :=
  ix t80 t75.length ((bd (mgetI t79 (t75.getD t80.toNat (0 : Int))) fun (g81 : Option Bool) => (bif (!(g81.getD false)) then kxr false else (bif (decide (t80 > (0 : Int))) then ix (w64 (t80 - (1 : Int))) b78.Freed.length ((bif (decide ((b78.Freed.getD ((w64 (t80 - (1 : Int))).toNat) (0 : Int)) ≥ (t75.getD t80.toNat (0 : Int)))) then kxr false else J (w64 (t80 + (1 : Int))))) else J (w64 (t80 + (1 : Int)))))))
def impl_BookOk_L12 {R : Type} (n : Nat) (kx2 : Option R) (kxr : Bool → Option R) (J : Int → Option R) (t75 : List Int) (t76 : Int) (t77 : Int) (b78 : SBook) (t79 : List (Int × Bool)) : Option R :=
  (bif (decide (t77 < t76)) then impl_BookOk_k1 n kx2 kxr J t75 t76 t77 b78 t79 else kx2)
def impl_BookOk_k2 (n : Nat)  (b0 : SBook) : Option Bool :=
  loopN (fun (x : Int × (List (Int × Bool))) J' => impl_BookOk_L5 n (fun t74 => loopN (fun (x : Int) J' => impl_BookOk_L12 n (some (true)) (fun t90 => some (t90)) J' b0.Freed (b0.Freed.length : Int) x b0 t74) n ((0 : Int))) (fun t92 => some (t92)) (fun t93 t94 => J' (t93, t94)) b0.Bills (b0.Bills.length : Int) x.1 b0 x.2) n ((0 : Int), [])
def impl_BookOk (n : Nat) (b0 : SBook) : Option Bool :=
  (bif (decide ((b0.Bills.length : Int) > (30 : Int))) then some (false) else impl_BookOk_k2 n  b0)
def impl_Book_at_1 (n : Nat) (x0 : SBill) (a1 : Int) : Option Bool :=
  some ((decide (x0.Id = a1)))
def slices_IndexFunc_impl_Bill_impl_Bill__impl_Book_at_1_L2 {R : Type} (n : Nat) (kx0 : Option R) (kxr : Int → Option R) (J : Int → Option R) (s1 : List SBill) (f2 : Int) (t3 : Int) (t4 : Int) : Option R :=
  (bif (decide (t4 < t3)) then ix t4 s1.length ((bd (s1.getD t4.toNat dSBill) fun (e9 : SBill) => (impl_Book_at_1 n e9 f2).bind fun r10 => (bif r10 then kxr t4 else J (w64 (t4 + (1 : Int)))))) else kx0)
def slices_IndexFunc_impl_Bill_impl_Bill__impl_Book_at_1 (n : Nat) (s0 : List SBill) (f1c0 : Int) : Option Int :=
  loopN (fun (x : Int) J' => slices_IndexFunc_impl_Bill_impl_Bill__impl_Book_at_1_L2 n (some ((-1 : Int))) (fun t12 => some (t12)) J' s0 f1c0 (s0.length : Int) x) n ((0 : Int))
def impl_Book_at (n : Nat) (b0 : SBook) (id1 : Int) : Option Int :=
  (slices_IndexFunc_impl_Bill_impl_Bill__impl_Book_at_1 n b0.Bills id1).bind fun r1 => some (r1)
def slices_Index_int_int_L2 {R : Type} (n : Nat) (kx0 : Option R) (kxr : Int → Option R) (J : Int → Option R) (s1 : List Int) (v2 : Int) (t3 : Int) (t4 : Int) : Option R :=
  (bif (decide (t4 < t3)) then ix t4 s1.length ((bif (decide (v2 = (s1.getD t4.toNat (0 : Int)))) then kxr t4 else J (w64 (t4 + (1 : Int))))) else kx0)
def slices_Index_int_int (n : Nat) (s0 : List Int) (v1 : Int) : Option Int :=
  loopN (fun (x : Int) J' => slices_Index_int_int_L2 n (some ((-1 : Int))) (fun t8 => some (t8)) J' s0 v1 (s0.length : Int) x) n ((0 : Int))
def slices_Contains_int_int (n : Nat) (s0 : List Int) (v1 : Int) : Option Bool :=
  (slices_Index_int_int n s0 v1).bind fun r1 => some ((decide (r1 ≥ (0 : Int))))
def impl_TitleOf_L10 {R : Type} (n : Nat) (kx0 : Option R) (kxr : ByteArray → Bool → Option R) (J : Int → Option R) (t10 : List ByteArray) (t11 : Int) (t12 : Int) : Option R :=
  (bif (decide (t12 < t11)) then ix t12 t10.length ((bif (!(decide ((t10.getD t12.toNat (str [])) = str []))) then kxr (t10.getD t12.toNat (str [])) true else J (w64 (t12 + (1 : Int))))) else kx0)
def impl_TitleOf_k0 (n : Nat)  (i7 : Int) (b0 : SBook) : Option (ByteArray × Bool) :=
  ix i7 b0.Bills.length ((bd (b0.Bills.getD i7.toNat dSBill) fun (e8 : SBill) => (bif (!(decide (e8.Order = str []))) then some (e8.Order, true) else loopN (fun (x : Int) J' => impl_TitleOf_L10 n (some (str [], true)) (fun t19 t20 => some (t19, t20)) J' e8.Held (e8.Held.length : Int) x) n ((0 : Int)))))
def impl_TitleOf (n : Nat) (b0 : SBook) (id1 : Int) : Option (ByteArray × Bool) :=
  (impl_BookOk n b0).bind fun r1 => (bif (!r1) then some (str [], false) else (impl_Book_at n b0 id1).bind fun r23 => (bif (decide (r23 < (0 : Int))) then some (str [], false) else (slices_Contains_int_int n b0.Freed id1).bind fun r25 => (bif r25 then some (str [], false) else impl_TitleOf_k0 n  r23 b0)))
def laws_eqStringS_L4 {R : Type} (n : Nat) (kx0 : Option R) (kxr : Bool → Option R) (J : Int → Option R) (a1 : List ByteArray) (b2 : List ByteArray) (i3 : Int) : Option R :=
  (bif (decide (i3 < (a1.length : Int))) then ix i3 a1.length (ix i3 b2.length ((bif (!(decide ((a1.getD i3.toNat (str [])) = (b2.getD i3.toNat (str []))))) then kxr false else J (w64 (i3 + (1 : Int)))))) else kx0)
def laws_eqStringS (n : Nat) (a0 : List ByteArray) (b1 : List ByteArray) : Option Bool :=
  (bif (!(decide ((a0.length : Int) = (b1.length : Int)))) then some (false) else loopN (fun (x : Int) J' => laws_eqStringS_L4 n (some (true)) (fun t9 => some (t9)) J' a0 b1 x) n ((0 : Int)))
def laws_eqBill_k0 (n : Nat)  (a0 : SBill) (b1 : SBill) : Option Bool :=
  (bif (!(decide (a0.Shipper = b1.Shipper))) then some (false) else (bif (!(decide (a0.Order = b1.Order))) then some (false) else (bif (!(decide (a0.Many = b1.Many))) then some (false) else (laws_eqStringS n a0.Held b1.Held).bind fun r4 => (bif (!r4) then some (false) else some (true)))))
def laws_eqBill (n : Nat) (a0 : SBill) (b1 : SBill) : Option Bool :=
  (bif (!(decide (a0.Id = b1.Id))) then some (false) else laws_eqBill_k0 n  a0 b1)
def laws_eqBillS_L4 {R : Type} (n : Nat) (kx0 : Option R) (kxr : Bool → Option R) (J : Int → Option R) (a1 : List SBill) (b2 : List SBill) (i3 : Int) : Option R :=
  (bif (decide (i3 < (a1.length : Int))) then ix i3 a1.length ((bd (a1.getD i3.toNat dSBill) fun (e9 : SBill) => ix i3 b2.length ((bd (b2.getD i3.toNat dSBill) fun (e10 : SBill) => (laws_eqBill n e9 e10).bind fun r11 => (bif (!r11) then kxr false else J (w64 (i3 + (1 : Int)))))))) else kx0)
def laws_eqBillS (n : Nat) (a0 : List SBill) (b1 : List SBill) : Option Bool :=
  (bif (!(decide ((a0.length : Int) = (b1.length : Int)))) then some (false) else loopN (fun (x : Int) J' => laws_eqBillS_L4 n (some (true)) (fun t15 => some (t15)) J' a0 b1 x) n ((0 : Int)))
def laws_eqIntS_L4 {R : Type} (n : Nat) (kx0 : Option R) (kxr : Bool → Option R) (J : Int → Option R) (a1 : List Int) (b2 : List Int) (i3 : Int) : Option R :=
  (bif (decide (i3 < (a1.length : Int))) then ix i3 a1.length (ix i3 b2.length ((bif (!(decide ((a1.getD i3.toNat (0 : Int)) = (b2.getD i3.toNat (0 : Int))))) then kxr false else J (w64 (i3 + (1 : Int)))))) else kx0)
def laws_eqIntS (n : Nat) (a0 : List Int) (b1 : List Int) : Option Bool :=
  (bif (!(decide ((a0.length : Int) = (b1.length : Int)))) then some (false) else loopN (fun (x : Int) J' => laws_eqIntS_L4 n (some (true)) (fun t9 => some (t9)) J' a0 b1 x) n ((0 : Int)))
def laws_eqBook (n : Nat) (a0 : SBook) (b1 : SBook) : Option Bool :=
  (laws_eqBillS n a0.Bills b1.Bills).bind fun r1 => (bif (!r1) then some (false) else (laws_eqIntS n a0.Freed b1.Freed).bind fun r3 => (bif (!r3) then some (false) else some (true)))
def laws_FnExactTitleOf_k0 (n : Nat)  (aId1 : Int) (aB0 : SBook) : Option Bool :=
  (laws_toBook n aB0).bind fun r2 => (spec_TitleOf n r2 aId1).bind fun r3 => (laws_toBook n aB0).bind fun r4 => (impl_TitleOf n r4 aId1).bind fun r5 => (bif (!(decide (r5.1 = r3.1))) then some (false) else (bif (!(r5.2 == r3.2)) then some (false) else (laws_toBook n aB0).bind fun r19 => (laws_eqBook n r4 r19).bind fun r20 => (bif (!r20) then some (false) else some (true))))
def laws_FnExactTitleOf (n : Nat) (aB0 : SBook) (aId1 : Int) : Option Bool :=
  (laws_szBook n aB0 (1048576 : Int)).bind fun r1 => (bif (decide (r1 < (0 : Int))) then some (true) else laws_FnExactTitleOf_k0 n  aId1 aB0)
def rng (a b x : Int) : Prop := a ≤ x ∧ x ≤ b
def wfSBill (x : SBill) : Prop := rng (-9223372036854775808) 9223372036854775807 x.Id ∧ x.Shipper.size ≤ 9223372036854775807 ∧ x.Order.size ≤ 9223372036854775807 ∧ rng (-9223372036854775808) 9223372036854775807 x.Many ∧ (x.Held.length ≤ 9223372036854775807 ∧ ∀ y ∈ x.Held, y.size ≤ 9223372036854775807)
def wfSBook (x : SBook) : Prop := (x.Bills.length ≤ 9223372036854775807 ∧ ∀ y ∈ x.Bills, wfSBill y) ∧ (x.Freed.length ≤ 9223372036854775807 ∧ ∀ y ∈ x.Freed, rng (-9223372036854775808) 9223372036854775807 y)
end Go.Sm
end

section
set_option linter.unusedSimpArgs false
set_option linter.deprecated false
set_option linter.unusedSectionVars false
set_option linter.unusedVariables false
namespace Go.Sm
/-! ### Of the words that printed functions are made of -/
theorem w64_id {x : Int} (h1 : -9223372036854775808 ≤ x) (h2 : x ≤ 9223372036854775807) : w64 x = x := by
  show (let m := x % (2 ^ 64 : Int); if (true && decide ((2 : Int) ^ 63 ≤ m)) = true then m - 2 ^ 64 else m) = x
  simp only [Bool.true_and, decide_eq_true_eq]
  split <;> omega
theorem w64_rng (x : Int) : -9223372036854775808 ≤ w64 x ∧ w64 x ≤ 9223372036854775807 := by
  show -9223372036854775808 ≤ (let m := x % (2 ^ 64 : Int); if (true && decide ((2 : Int) ^ 63 ≤ m)) = true then m - 2 ^ 64 else m) ∧ (let m := x % (2 ^ 64 : Int); if (true && decide ((2 : Int) ^ 63 ≤ m)) = true then m - 2 ^ 64 else m) ≤ 9223372036854775807
  simp only [Bool.true_and, decide_eq_true_eq]
  split <;> omega
theorem chk_of {R : Type} {b : Bool} {x : Option R} (h : b = true) : chk b x = x := by rw [h]; rfl
theorem chk_true {R : Type} {x : Option R} : chk true x = x := rfl
theorem chk_dec {R : Type} {p : Prop} [Decidable p] {x : Option R} (h : p) : chk (decide p) x = x := chk_of (decide_eq_true h)
theorem ix_of {R : Type} {i : Int} {len : Nat} {x : Option R} (h0 : 0 ≤ i) (h1 : i < (len : Int)) : ix i len x = x := by
  unfold ix
  rw [decide_eq_true h0, decide_eq_true h1]
  rfl
theorem ix_nat {R : Type} {i len : Nat} {x : Option R} (h1 : i < len) : ix (i : Int) len x = x := ix_of (by omega) (by omega)
theorem bif_dec {α : Type} {p : Prop} [Decidable p] {x y : α} : (bif decide p then x else y) = if p then x else y := by
  by_cases h : p <;> simp [h]
theorem bif_not {α : Type} {b : Bool} {x y : α} : (bif !b then x else y) = bif b then y else x := by cases b <;> rfl
theorem bif_and {α : Type} {a b : Bool} {x y : α} : (bif a && b then x else y) = bif a then (bif b then x else y) else y := by cases a <;> rfl
theorem loopN_succ {X R : Type} (b : X → (X → Option R) → Option R) (m : Nat) (x : X) : loopN b (m + 1) x = b x (loopN b m) := rfl
/-- What holds of a loop: by what is left to go. -/
theorem loopN_ind {X R : Type} {b : X → (X → Option R) → Option R} (μ : X → Nat) (I : X → Prop) (Q : X → Option R → Prop)
    (h : ∀ x J, I x → (∀ y, I y → μ y < μ x → Q y (J y)) → Q x (b x J)) : ∀ n x, I x → μ x < n → Q x (loopN b n x)
  | 0, x, hi, hm => absurd hm (Nat.not_lt_zero _)
  | n + 1, x, hi, hm => h x (loopN b n) hi fun y hy hl => loopN_ind μ I Q h n y hy (by omega)
theorem getD_eq {α : Type} {l : List α} {i : Nat} {d : α} (h : i < l.length) : l.getD i d = l[i] := by
  simp [List.getD, h]
theorem w64_succ {k : Nat} (h : k < 9223372036854775807) : w64 ((k : Int) + 1) = ((k + 1 : Nat) : Int) := by
  rw [w64_id (by omega) (by omega)]
  rfl
theorem take_succ_getD {α : Type} {l : List α} {i : Nat} {d : α} (h : i < l.length) : l.take (i + 1) = l.take i ++ [l.getD i d] := by
  rw [List.take_succ, getD_eq h, List.getElem?_eq_getElem h]
  rfl
theorem drop_getD {α : Type} {l : List α} {i : Nat} {d : α} (h : i < l.length) : l.drop i = l.getD i d :: l.drop (i + 1) := by
  rw [getD_eq h]
  exact List.drop_eq_getElem_cons h
theorem bd_eq {α β : Type} (e : α) (f : α → β) : bd e f = f e := rfl
theorem bd_set {α β : Type} {Q : β → Prop} {F : List α → β} {p : List α} {i : Nat} {x : α} (h : ∀ l : List α, l.length = p.length → Q (F l)) : Q (bd (p.set i x) F) := h _ (by simp)
theorem bd_is {α β : Type} {Q : β → Prop} {F : α → β} {e : α} (h : ∀ v : α, v = e → Q (F v)) : Q (bd e F) := h _ rfl
theorem bd_val {α β : Type} {Q : β → Prop} {F : α → β} {e : α} (h : ∀ v : α, Q (F v)) : Q (bd e F) := h _
theorem chk_q {R : Type} {Q : Option R → Prop} {b : Bool} {x : Option R} (h : b = true) (hx : Q x) : Q (chk b x) := by rw [chk_of h]; exact hx
theorem ix_q {R : Type} {Q : Option R → Prop} {i : Int} {len : Nat} {x : Option R} (h0 : 0 ≤ i) (h1 : i < (len : Int)) (hx : Q x) : Q (ix i len x) := by rw [ix_of h0 h1]; exact hx
theorem bd_upd {α β : Type} {Q : β → Prop} {F : List α → β} {p : List α} {i : Nat} {x d : α} (hi : i < p.length) (h : ∀ l : List α, l.length = p.length → l.getD i d = x → (∀ j, j ≠ i → l.getD j d = p.getD j d) → Q (F l)) : Q (bd (p.set i x) F) :=
  h _ (by simp) (by simp [List.getD, hi]) (fun j hj => by simp [List.getD, List.getElem?_set, Ne.symm hj])
/-- A list written from the front. -/
theorem set_take {α : Type} {a : List α} {d : α} {m k : Nat} (h : k < a.length) (hm : m = a.length := by rfl) : (a.take k ++ (List.replicate m d).drop k).set k (a.getD k d) = a.take (k + 1) ++ (List.replicate m d).drop (k + 1) := by
  subst hm
  have h1 : (a.take k).length = k := by simp; omega
  rw [List.set_append_right _ _ (by omega), h1, Nat.sub_self, take_succ_getD h, List.append_assoc]
  congr 1
  rw [List.drop_eq_getElem_cons (by simp; exact h)]
  rfl
/-! ### Loops over 0 .. len, by what is left -/
/-- Steps k, k+1, .. told one after the other; J: what comes behind a step. -/
def forK {S R : Type} (step : Nat → S → (S → Option R) → Option R) (fin : S → Option R) : Nat → Nat → S → Option R
  | 0, _, s => fin s
  | m + 1, k, s => step k s fun s' => forK step fin m (k + 1) s'
theorem loop_forK {X S R : Type} {b : X → (X → Option R) → Option R} {enc : Nat → S → X} {len : Nat} {step : Nat → S → (S → Option R) → Option R} {fin : S → Option R} (I : Nat → S → Prop)
    (hstep : ∀ k s J J', k < len → I k s → (∀ s', I (k + 1) s' → J (enc (k + 1) s') = J' s') → b (enc k s) J = step k s J') (hfin : ∀ s J, I len s → b (enc len s) J = fin s) :
    ∀ m k s n, k + m = len → m < n → I k s → loopN b n (enc k s) = forK step fin m k s
  | 0, k, s, 0, _, h, _ => absurd h (Nat.lt_irrefl _)
  | 0, k, s, n + 1, hk, _, hi => by
    have hk : k = len := by omega
    subst hk
    exact hfin s _ hi
  | m + 1, k, s, 0, _, h, _ => absurd h (Nat.not_lt_zero _)
  | m + 1, k, s, n + 1, hk, hn, hi => by
    show b (enc k s) (loopN b n) = step k s fun s' => forK step fin m (k + 1) s'
    exact hstep k s _ _ (by omega) hi fun s' hi' => loop_forK I hstep hfin m (k + 1) s' n (by omega) (by omega) hi'
/-- The first k at which f answers; at none: z. -/
def scanK {R : Type} (f : Nat → Option (Option R)) (z : Option R) : Nat → Nat → Option R
  | 0, _ => z
  | m + 1, k => match f k with
    | some r => r
    | none => scanK f z m (k + 1)
theorem loop_scan {X R : Type} {b : X → (X → Option R) → Option R} {enc : Nat → X} {len : Nat} {f : Nat → Option (Option R)} {z : Option R}
    (hstep : ∀ k J, k < len → b (enc k) J = match f k with | some r => r | none => J (enc (k + 1))) (hfin : ∀ J, b (enc len) J = z) :
    ∀ m k n, k + m = len → m < n → loopN b n (enc k) = scanK f z m k
  | 0, k, 0, _, h => absurd h (Nat.lt_irrefl _)
  | 0, k, n + 1, hk, _ => by
    have hk : k = len := by omega
    subst hk
    exact hfin _
  | m + 1, k, 0, _, h => absurd h (Nat.not_lt_zero _)
  | m + 1, k, n + 1, hk, hn => by
    show b (enc k) (loopN b n) = _
    rw [hstep k _ (by omega)]
    unfold scanK
    cases f k with
    | some r => rfl
    | none => exact loop_scan hstep hfin m (k + 1) n (by omega) (by omega)
/-- Is p so of all of k, .. k + m - 1? -/
theorem scan_all {R : Type} {p : Nat → Bool} {r z : Option R} : ∀ m k, scanK (fun k => bif p k then none else some r) z m k = bif (List.range' k m).all p then z else r
  | 0, k => rfl
  | m + 1, k => by
    rw [scanK, List.range'_succ, List.all_cons]
    cases h : p k with
    | true => simp only [cond_true, Bool.true_and]; exact scan_all m (k + 1)
    | false => rfl
theorem scan_any {R : Type} {p : Nat → Bool} {r z : Option R} : ∀ m k, scanK (fun k => bif p k then some r else none) z m k = bif (List.range' k m).any p then r else z
  | 0, k => rfl
  | m + 1, k => by
    rw [scanK, List.range'_succ, List.any_cons]
    cases h : p k with
    | false => simp only [cond_false, Bool.false_or]; exact scan_any m (k + 1)
    | true => rfl
theorem mgetI_mputI {β : Type} (l : List (Int × β)) (n m : Int) (v : β) : mgetI (mputI l n v) m = if m = n then some v else mgetI l m := by
  unfold mgetI mputI
  induction l with
  | nil =>
    by_cases h : m = n <;> simp [h]
  | cons a l ih =>
    rw [List.findIdx?_cons]
    by_cases h : n = a.1
    · simp only [h, decide_true, if_true, Option.elim_some, List.set_cons_zero, List.find?_cons]
      by_cases h2 : m = a.1
      · simp [h2]
      · simp [h2]
    · simp only [h, decide_false, Bool.false_eq_true, if_false]
      cases hf : l.findIdx? (fun e => decide (n = e.1)) with
      | none =>
        rw [hf] at ih
        simp only [Option.elim_none] at ih
        simp only [Option.map_none, Option.elim_none, List.cons_append, List.find?_cons]
        by_cases h2 : m = a.1
        · have : m ≠ n := fun e => h (e ▸ h2)
          simp [h2]
          simp [h2] at this
          simp [this]
        · simp only [h2, decide_false]
          exact ih
      | some i =>
        rw [hf] at ih
        simp only [Option.elim_some] at ih
        simp only [Option.map_some, Option.elim_some, List.set_cons_succ, List.find?_cons]
        by_cases h2 : m = a.1
        · have : m ≠ n := fun e => h (e ▸ h2)
          simp [h2]
          simp [h2] at this
          simp [this]
        · simp only [h2, decide_false]
          exact ih
theorem mgetI_nil {β : Type} (m : Int) : mgetI ([] : List (Int × β)) m = none := rfl
/-! ### Chains of tests -/
theorem bif_and' {α : Type} {a b : Bool} {x y : α} : (bif a then (bif b then x else y) else y) = bif a && b then x else y := by cases a <;> rfl
theorem bif_or' {α : Type} {a b : Bool} {x y : α} : (bif a then y else (bif b then x else y)) = bif !a && b then x else y := by cases a <;> rfl
theorem bif_and2 {α : Type} {a b : Bool} {x y : α} : (bif a then (bif b then y else x) else y) = bif a && !b then x else y := by cases a <;> cases b <;> rfl
theorem bif_or2 {α : Type} {a b : Bool} {x y : α} : (bif a then y else (bif b then y else x)) = bif !a && !b then x else y := by cases a <;> cases b <;> rfl
theorem bif_some {α β : Type} {a : Bool} {x y : α} {f : α → Option β} : (bif a then some x else some y).bind f = bif a then f x else f y := by cases a <;> rfl
theorem bif_tf {a : Bool} : (bif a then some true else some false) = some a := by cases a <;> rfl
theorem bif_ft {a : Bool} : (bif a then some false else some true) = some (!a) := by cases a <;> rfl
theorem bif_sf {a b : Bool} : (bif a then some b else some false) = some (a && b) := by cases a <;> rfl
theorem all_range_succ {p : Nat → Bool} {k : Nat} : (List.range (k + 1)).all p = ((List.range k).all p && p k) := by
  rw [List.range_succ, List.all_append]
  simp
theorem any_range_succ {p : Nat → Bool} {k : Nat} : (List.range (k + 1)).any p = ((List.range k).any p || p k) := by
  rw [List.range_succ, List.any_append]
  simp
theorem all_range_not {p : Nat → Bool} {k m : Nat} (hk : k < m) (h : p k = false) : (List.range m).all p = false := by
  rw [Bool.eq_false_iff]
  intro e
  rw [List.all_eq_true] at e
  rw [e k (List.mem_range.2 hk)] at h
  cases h
theorem any_range_of {p : Nat → Bool} {k m : Nat} (hk : k < m) (h : p k = true) : (List.range m).any p = true := by
  rw [List.any_eq_true]
  exact ⟨k, List.mem_range.2 hk, h⟩
/-- A loop that looks at k = 0, 1, .. and leaves at the first that is not so. -/
theorem loop_all {R : Type} {b : Int → (Int → Option R) → Option R} {len : Nat} {p : Nat → Bool} {no yes : Option R} (hlen : len ≤ 9223372036854775807)
    (hstep : ∀ (k : Nat) (J : Int → Option R), k < len → (∀ j, j < k → p j = true) → b (k : Int) J = bif p k then J ((k + 1 : Nat) : Int) else no) (hfin : ∀ J, (∀ j, j < len → p j = true) → b (len : Int) J = yes) {n : Nat} (hn : len < n) :
    loopN b n (0 : Int) = bif (List.range len).all p then yes else no := by
  refine loopN_ind (fun x => len - x.toNat) (fun x => ∃ k : Nat, k ≤ len ∧ x = (k : Int) ∧ (List.range k).all p = true) (fun x r => r = bif (List.range len).all p then yes else no) ?_ n _ ⟨0, by omega, rfl, rfl⟩ (by simp; omega)
  rintro _ J ⟨k, hk, rfl, hb⟩ ih
  have hb' : ∀ j, j < k → p j = true := fun j hj => List.all_eq_true.1 hb j (List.mem_range.2 hj)
  by_cases h : k < len
  · rw [hstep k J h hb']
    cases hp : p k with
    | true => exact ih _ ⟨k + 1, h, rfl, by rw [all_range_succ, hb, hp]; rfl⟩ (by simp; omega)
    | false => rw [all_range_not h hp]; rfl
  · have : k = len := by omega
    subst this
    rw [hfin _ hb', hb]
    rfl
/-- The same, a state turned on the way (its invariant: I). -/
theorem loop_allS {S R : Type} {X : Type} {enc : Int → S → X} {b : X → (X → Option R) → Option R} {len : Nat} {p : Nat → Bool} {I : Nat → S → Prop} {no yes : Option R}
    (hstep : ∀ (k : Nat) (s : S) (J : X → Option R), k < len → I k s → (∀ j, j < k → p j = true) → ∃ s', (p k = true → I (k + 1) s') ∧ b (enc (k : Int) s) J = bif p k then J (enc ((k + 1 : Nat) : Int) s') else no) (hfin : ∀ s J, I len s → (∀ j, j < len → p j = true) → b (enc (len : Int) s) J = yes) {n : Nat} (hn : len < n) {s0 : S} (h0 : I 0 s0) :
    loopN b n (enc (0 : Int) s0) = bif (List.range len).all p then yes else no := by
  have key : ∀ m (k : Nat) (s : S) n, k + m = len → m < n → I k s → (List.range k).all p = true → loopN b n (enc (k : Int) s) = bif (List.range len).all p then yes else no := by
    intro m
    induction m with
    | zero =>
      intro k s n hk hn hi hb
      have hb' : ∀ j, j < k → p j = true := fun j hj => List.all_eq_true.1 hb j (List.mem_range.2 hj)
      have hk : k = len := by omega
      subst hk
      cases n with
      | zero => omega
      | succ n => rw [loopN_succ, hfin s _ hi hb', hb]; rfl
    | succ m ih =>
      intro k s n hk hn hi hb
      have hb' : ∀ j, j < k → p j = true := fun j hj => List.all_eq_true.1 hb j (List.mem_range.2 hj)
      cases n with
      | zero => omega
      | succ n =>
        rw [loopN_succ]
        obtain ⟨s', h1, h2⟩ := hstep k s (loopN b n) (by omega) hi hb'
        rw [h2]
        cases hp : p k with
        | true => exact ih (k + 1) s' n (by omega) (by omega) (h1 hp) (by rw [all_range_succ, hb, hp]; rfl)
        | false => rw [all_range_not (by omega : k < len) hp]; rfl
  exact key len 0 s0 n (by omega) hn h0 rfl
/-- A loop over 0 .. len that never leaves early; its state: I. -/
theorem loop_runS {S R : Type} {X : Type} {enc : Int → S → X} {b : X → (X → Option R) → Option R} {len : Nat} {I : Nat → S → Prop} {Q : Option R → Prop}
    (hstep : ∀ (k : Nat) (s : S) (J : X → Option R), k < len → I k s → ∃ s', I (k + 1) s' ∧ b (enc (k : Int) s) J = J (enc ((k + 1 : Nat) : Int) s')) (hfin : ∀ s J, I len s → Q (b (enc (len : Int) s) J)) {n : Nat} (hn : len < n) {s0 : S} (h0 : I 0 s0) :
    Q (loopN b n (enc (0 : Int) s0)) := by
  have key : ∀ m (k : Nat) (s : S) n, k + m = len → m < n → I k s → Q (loopN b n (enc (k : Int) s)) := by
    intro m
    induction m with
    | zero =>
      intro k s n hk hn hi
      have hk : k = len := by omega
      subst hk
      cases n with
      | zero => omega
      | succ n => rw [loopN_succ]; exact hfin s _ hi
    | succ m ih =>
      intro k s n hk hn hi
      cases n with
      | zero => omega
      | succ n =>
        rw [loopN_succ]
        obtain ⟨s', h1, h2⟩ := hstep k s (loopN b n) (by omega) hi
        rw [h2]
        exact ih (k + 1) s' n (by omega) (by omega) h1
  exact key len 0 s0 n (by omega) hn h0
/-! ### Sums over lists -/
def sumOf {α : Type} (f : α → Nat) : List α → Nat
  | [] => 0
  | a :: l => f a + sumOf f l
theorem sumOf_append {α : Type} (f : α → Nat) : ∀ a b : List α, sumOf f (a ++ b) = sumOf f a + sumOf f b
  | [], b => by simp [sumOf]
  | x :: a, b => by simp only [List.cons_append, sumOf, sumOf_append f a b]; omega
theorem sumOf_take_succ {α : Type} {f : α → Nat} {l : List α} {k : Nat} {d : α} (h : k < l.length) : sumOf f (l.take (k + 1)) = sumOf f (l.take k) + f (l.getD k d) := by
  rw [take_succ_getD (d := d) h, sumOf_append]
  simp [sumOf]
theorem sumOf_take_le {α : Type} (f : α → Nat) (l : List α) (k : Nat) : sumOf f (l.take k) ≤ sumOf f l := by
  have := sumOf_append f (l.take k) (l.drop k)
  rw [List.take_append_drop] at this
  omega
theorem sumOf_mem {α : Type} {f : α → Nat} {l : List α} {k : Nat} {d : α} (h : k < l.length) : f (l.getD k d) ≤ sumOf f l := by
  have h1 := sumOf_take_succ (f := f) (d := d) h
  have h2 := sumOf_take_le f l (k + 1)
  omega
theorem sumOf_lin {α : Type} {f g : α → Nat} {c s : Nat} (h : ∀ y, f y ≤ c * g y + s) : ∀ l : List α, sumOf f l ≤ c * sumOf g l + s * l.length
  | [] => by simp [sumOf]
  | a :: l => by
    have h1 := h a
    have h2 := sumOf_lin h l
    simp only [sumOf, List.length_cons, Nat.mul_add, Nat.mul_succ]
    omega
theorem sumOf_const {α : Type} (c : Nat) : ∀ l : List α, sumOf (fun _ => c) l = c * l.length
  | [] => by simp [sumOf]
  | a :: l => by simp only [sumOf, sumOf_const c l, List.length_cons, Nat.mul_succ]; omega
theorem getD_set {α : Type} {l : List α} {k : Nat} {x d : α} (h : k < l.length) : (l.set k x).getD k d = x := by simp [List.getD, h]
theorem getD_set_ne {α : Type} {l : List α} {k j : Nat} {x d : α} (h : j ≠ k) : (l.set k x).getD j d = l.getD j d := by simp [List.getD, List.getElem?_set, Ne.symm h]
theorem getD_mem {α : Type} {l : List α} {k : Nat} {d : α} (h : k < l.length) : l.getD k d ∈ l := by rw [getD_eq h]; exact List.getElem_mem h
theorem take_drop_set {α : Type} {a : List α} {d : α} {m k : Nat} {x : α} (h : k < a.length) (hm : m = a.length) (hx : x = a.getD k d) : (a.take k ++ (List.replicate m d).drop k).set k x = a.take (k + 1) ++ (List.replicate m d).drop (k + 1) := by
  subst hx
  exact set_take h hm
/-! ### The first that is so -/
def idxOf (p : Nat → Bool) (m : Nat) : Int := match (List.range m).find? p with
  | some k => (k : Int)
  | none => -1
theorem find_range_none {p : Nat → Bool} {m : Nat} (h : ∀ j, j < m → p j = false) : (List.range m).find? p = none := by
  rw [List.find?_eq_none]
  intro x hx
  rw [h x (List.mem_range.1 hx)]
  simp
theorem find_range_some {p : Nat → Bool} {m k : Nat} (hk : k < m) (hp : p k = true) (h : ∀ j, j < k → p j = false) : (List.range m).find? p = some k := by
  have e : m = k + (m - k) := by omega
  rw [e, List.range_add, List.find?_append, find_range_none h, Option.none_or]
  obtain ⟨r, hr⟩ : ∃ r, m - k = r + 1 := ⟨m - k - 1, by omega⟩
  rw [hr, List.range_succ_eq_map]
  simp [hp]
theorem idxOf_ge (p : Nat → Bool) (m : Nat) : decide (idxOf p m ≥ 0) = (List.range m).any p := by
  unfold idxOf
  cases h : (List.range m).find? p with
  | none =>
    rw [List.find?_eq_none] at h
    rw [show (List.range m).any p = false from by rw [List.any_eq_false]; exact h]
    rfl
  | some k =>
    have h1 := List.find?_some h
    rw [show (List.range m).any p = true from List.any_eq_true.2 ⟨k, List.mem_of_find?_eq_some h, h1⟩]
    exact decide_eq_true (by show (0 : Int) ≤ (k : Int); omega)
theorem idxOf_lt (p : Nat → Bool) (m : Nat) : decide (idxOf p m < 0) = !(List.range m).any p := by
  rw [← idxOf_ge]
  by_cases h : idxOf p m < 0
  · rw [decide_eq_true h, decide_eq_false (by omega)]; rfl
  · rw [decide_eq_false h, decide_eq_true (by omega)]; rfl
theorem find_range (p : Nat → Bool) : ∀ m, ((List.range m).find? p = none ∧ ∀ j, j < m → p j = false) ∨ ∃ k, (List.range m).find? p = some k ∧ k < m ∧ p k = true ∧ ∀ j, j < k → p j = false
  | 0 => .inl ⟨rfl, fun j hj => absurd hj (Nat.not_lt_zero _)⟩
  | m + 1 => by
    rcases find_range p m with ⟨h1, h2⟩ | ⟨k, h1, h2, h3, h4⟩
    · cases hp : p m with
      | true => exact .inr ⟨m, find_range_some (by omega) hp h2, by omega, hp, h2⟩
      | false =>
        have : ∀ j, j < m + 1 → p j = false := fun j hj => by
          by_cases e : j = m
          · rw [e]; exact hp
          · exact h2 j (by omega)
        exact .inl ⟨find_range_none this, this⟩
    · exact .inr ⟨k, find_range_some (by omega) h3 h4, by omega, h3, h4⟩
theorem idxOf_spec (p : Nat → Bool) (m : Nat) : (idxOf p m = -1 ∧ ∀ j, j < m → p j = false) ∨ ∃ k : Nat, idxOf p m = (k : Int) ∧ k < m ∧ p k = true ∧ ∀ j, j < k → p j = false := by
  unfold idxOf
  rcases find_range p m with ⟨h1, h2⟩ | ⟨k, h1, h2, h3, h4⟩
  · rw [h1]; exact .inl ⟨rfl, h2⟩
  · rw [h1]; exact .inr ⟨k, rfl, h2, h3, h4⟩
/-- A loop that looks at k = 0, 1, .. and leaves at the first that is so. -/
theorem loop_find {R : Type} {b : Int → (Int → Option R) → Option R} {len : Nat} {p : Nat → Bool} {yes : Nat → Option R} {no : Option R} (hlen : len ≤ 9223372036854775807)
    (hstep : ∀ (k : Nat) (J : Int → Option R), k < len → (∀ j, j < k → p j = false) → b (k : Int) J = bif p k then yes k else J ((k + 1 : Nat) : Int)) (hfin : ∀ J, (∀ j, j < len → p j = false) → b (len : Int) J = no) {n : Nat} (hn : len < n) :
    loopN b n (0 : Int) = match (List.range len).find? p with | some k => yes k | none => no := by
  refine loopN_ind (fun x => len - x.toNat) (fun x => ∃ k : Nat, k ≤ len ∧ x = (k : Int) ∧ ∀ j, j < k → p j = false) (fun x r => r = match (List.range len).find? p with | some k => yes k | none => no) ?_ n _ ⟨0, by omega, rfl, fun j hj => absurd hj (Nat.not_lt_zero _)⟩ (by simp; omega)
  rintro _ J ⟨k, hk, rfl, hb⟩ ih
  by_cases h : k < len
  · rw [hstep k J h hb]
    cases hp : p k with
    | false => exact ih _ ⟨k + 1, h, rfl, fun j hj => by
        by_cases e : j = k
        · rw [e]; exact hp
        · exact hb j (by omega)⟩ (by simp; omega)
    | true => rw [find_range_some h hp hb]; rfl
  · have : k = len := by omega
    subst this
    rw [hfin _ hb, find_range_none hb]
theorem loop_idx {b : Int → (Int → Option Int) → Option Int} {len : Nat} {p : Nat → Bool} (hlen : len ≤ 9223372036854775807)
    (hstep : ∀ (k : Nat) (J : Int → Option Int), k < len → (∀ j, j < k → p j = false) → b (k : Int) J = bif p k then some (k : Int) else J ((k + 1 : Nat) : Int)) (hfin : ∀ J, (∀ j, j < len → p j = false) → b (len : Int) J = some (-1)) {n : Nat} (hn : len < n) :
    loopN b n (0 : Int) = some (idxOf p len) := by
  rw [loop_find (yes := fun k => some (k : Int)) (no := some (-1)) hlen hstep hfin hn]
  unfold idxOf
  cases (List.range len).find? p <;> rfl
theorem byteAt_rng (s : ByteArray) (k : Nat) : 0 ≤ byteAt s k ∧ byteAt s k ≤ 255 := by
  unfold byteAt
  have := (s.data.getD k 0).toNat_lt
  omega
theorem range_any {α : Type} {l : List α} {d : α} {f : α → Bool} : (List.range l.length).any (fun k => f (l.getD k d)) = l.any f := by
  induction l with
  | nil => rfl
  | cons a l ih =>
    rw [List.length_cons, List.range_succ_eq_map, List.any_cons, List.any_map, List.any_cons, ← ih]
    rfl
theorem range_all {α : Type} {l : List α} {d : α} {f : α → Bool} : (List.range l.length).all (fun k => f (l.getD k d)) = l.all f := by
  induction l with
  | nil => rfl
  | cons a l ih =>
    rw [List.length_cons, List.range_succ_eq_map, List.all_cons, List.all_map, List.all_cons, ← ih]
    rfl
theorem all_congr_lt {p q : Nat → Bool} {m : Nat} (h : ∀ k, k < m → p k = q k) : (List.range m).all p = (List.range m).all q := by
  rw [Bool.eq_iff_iff, List.all_eq_true, List.all_eq_true]
  constructor
  · intro g x hx; rw [← h x (List.mem_range.1 hx)]; exact g x hx
  · intro g x hx; rw [h x (List.mem_range.1 hx)]; exact g x hx
theorem any_congr_lt {p q : Nat → Bool} {m : Nat} (h : ∀ k, k < m → p k = q k) : (List.range m).any p = (List.range m).any q := by
  rw [Bool.eq_iff_iff, List.any_eq_true, List.any_eq_true]
  constructor
  · rintro ⟨x, hx, g⟩; exact ⟨x, hx, by rw [← h x (List.mem_range.1 hx)]; exact g⟩
  · rintro ⟨x, hx, g⟩; exact ⟨x, hx, by rw [h x (List.mem_range.1 hx)]; exact g⟩
theorem guard_sz {w : Nat} {x : Option Bool} (h : w ≤ 1048576 → x = some true) : (bif decide ((if (w : Int) ≤ 1048576 then 1048576 - (w : Int) else -1) < 0) then some true else x) = some true := by
  by_cases c : (w : Int) ≤ 1048576
  · rw [if_pos c, decide_eq_false (by omega), cond_false]
    exact h (by omega)
  · rw [if_neg c]
    rfl
end Go.Sm
end

section
set_option linter.unusedSimpArgs false
set_option linter.deprecated false
set_option linter.unusedSectionVars false
set_option linter.unusedVariables false
set_option linter.unusedSimpArgs false
namespace Go.Sm
attribute [local irreducible] bd chk ix loopN
def w_LBA (a : List ByteArray) : Nat := a.length + sumOf (fun y => y.size) a
theorem laws_szStringS_ok {n : Nat} (a : List ByteArray) {left : Int} (h : (a.length ≤ 9223372036854775807 ∧ ∀ y ∈ a, y.size ≤ 9223372036854775807)) (h0 : 0 ≤ left) (h1 : left ≤ 1048576) (hn : 1000000000 < n) : laws_szStringS n a left = some (if (w_LBA a : Int) ≤ left then left - (w_LBA a : Int) else -1) := by
  have hw : w_LBA a = a.length + sumOf (fun y => y.size) a := rfl
  unfold laws_szStringS
  rw [w64_id (by have := h.1; omega) (by omega), bd_eq, bif_dec]
  by_cases c : (a.length : Int) ≤ left
  case neg => rw [if_pos (by omega), if_neg (by omega)]
  rw [if_neg (by omega)]
  refine loopN_ind (fun x => a.length - x.2.toNat) (fun x => ∃ k : Nat, k ≤ a.length ∧ x = (left - (a.length : Int) - (sumOf (fun y => y.size) (a.take k) : Int), (k : Int)) ∧ (sumOf (fun y => y.size) (a.take k) : Int) ≤ left - (a.length : Int))
    (fun x r => r = some (if (w_LBA a : Int) ≤ left then left - (w_LBA a : Int) else -1)) ?_ n _ ⟨0, by omega, by simp [sumOf], by simp [sumOf]; omega⟩ (by simp; omega)
  rintro _ J ⟨k, hk, rfl, hb⟩ ih
  unfold laws_szStringS_L5
  by_cases h2 : k < a.length
  · have s1 := sumOf_take_succ (f := fun y => y.size) (d := (str [])) h2
    have s2 := sumOf_take_le (fun y => y.size) a (k + 1)
    try simp only at s1
    simp only [Int.ofNat_lt, h2, decide_true, cond_true, ix_nat h2, Int.toNat_natCast, bd_eq]
    rw [w64_id (by have := h.2 _ (getD_mem (d := (str [])) h2); omega) (by omega), bif_dec]
    by_cases c2 : ((a.getD k (str [])).size : Int) ≤ left - (a.length : Int) - (sumOf (fun y => y.size) (a.take k) : Int)
    · rw [if_neg (by omega), w64_succ (by omega)]
      exact ih (_, ((k + 1 : Nat) : Int)) ⟨k + 1, h2, Prod.ext (by dsimp only; omega) rfl, by omega⟩ (by simp; omega)
    · rw [if_pos (by omega), if_neg (by omega)]
  · have : k = a.length := by omega
    subst this
    rw [List.take_length] at hb ⊢
    simp only [Int.lt_irrefl, decide_false, cond_false]
    rw [if_pos (by omega)]
    congr 1
    omega
def w_SBill (a : SBill) : Nat := a.Shipper.size + a.Order.size + w_LBA a.Held
theorem laws_szBill_ok {n : Nat} (a : SBill) {left : Int} (h : wfSBill a) (h0 : 0 ≤ left) (h1 : left ≤ 1048576) (hn : 1000000000 < n) : laws_szBill n a left = some (if (w_SBill a : Int) ≤ left then left - (w_SBill a : Int) else -1) := by
  have hw : w_SBill a = a.Shipper.size + a.Order.size + w_LBA a.Held := rfl
  unfold laws_szBill
  rw [w64_id (by have := h.2.1; omega) (by omega), bd_eq, bif_dec]
  by_cases c0 : (a.Shipper.size : Int) ≤ left
  case neg => rw [if_pos (by omega), if_neg (by omega)]
  rw [if_neg (by omega)]
  rw [w64_id (by have := h.2.2.1; omega) (by omega), bd_eq, bif_dec]
  by_cases c1 : (a.Order.size : Int) ≤ left - (a.Shipper.size : Int)
  case neg => rw [if_pos (by omega), if_neg (by omega)]
  rw [if_neg (by omega)]
  rw [laws_szStringS_ok (n := n) a.Held h.2.2.2.2 (by omega) (by omega) hn, Option.bind_some, bif_dec]
  by_cases c2 : (w_LBA a.Held : Int) ≤ left - (a.Shipper.size : Int) - (a.Order.size : Int)
  case neg => rw [if_neg c2, if_pos (by omega), if_neg (by omega)]
  rw [if_pos c2, if_neg (by omega)]
  rw [if_pos (by omega)]
  try (refine congrArg some ?_; omega)
def w_LSBill (a : List SBill) : Nat := a.length + sumOf (fun y => w_SBill y) a
theorem laws_szBillS_ok {n : Nat} (a : List SBill) {left : Int} (h : (a.length ≤ 9223372036854775807 ∧ ∀ y ∈ a, wfSBill y)) (h0 : 0 ≤ left) (h1 : left ≤ 1048576) (hn : 1000000000 < n) : laws_szBillS n a left = some (if (w_LSBill a : Int) ≤ left then left - (w_LSBill a : Int) else -1) := by
  have hw : w_LSBill a = a.length + sumOf (fun y => w_SBill y) a := rfl
  unfold laws_szBillS
  rw [w64_id (by have := h.1; omega) (by omega), bd_eq, bif_dec]
  by_cases c : (a.length : Int) ≤ left
  case neg => rw [if_pos (by omega), if_neg (by omega)]
  rw [if_neg (by omega)]
  refine loopN_ind (fun x => a.length - x.2.toNat) (fun x => ∃ k : Nat, k ≤ a.length ∧ x = (left - (a.length : Int) - (sumOf (fun y => w_SBill y) (a.take k) : Int), (k : Int)) ∧ (sumOf (fun y => w_SBill y) (a.take k) : Int) ≤ left - (a.length : Int))
    (fun x r => r = some (if (w_LSBill a : Int) ≤ left then left - (w_LSBill a : Int) else -1)) ?_ n _ ⟨0, by omega, by simp [sumOf], by simp [sumOf]; omega⟩ (by simp; omega)
  rintro _ J ⟨k, hk, rfl, hb⟩ ih
  unfold laws_szBillS_L5
  by_cases h2 : k < a.length
  · have s1 := sumOf_take_succ (f := fun y => w_SBill y) (d := dSBill) h2
    have s2 := sumOf_take_le (fun y => w_SBill y) a (k + 1)
    try simp only at s1
    simp only [Int.ofNat_lt, h2, decide_true, cond_true, ix_nat h2, Int.toNat_natCast, bd_eq]
    rw [laws_szBill_ok (n := n) (a.getD k dSBill) (h.2 _ (getD_mem h2)) (by omega) (by omega) hn, Option.bind_some, bif_dec]
    by_cases c2 : (w_SBill (a.getD k dSBill) : Int) ≤ left - (a.length : Int) - (sumOf (fun y => w_SBill y) (a.take k) : Int)
    · rw [if_pos c2, if_neg (by omega), w64_succ (by omega)]
      exact ih (_, ((k + 1 : Nat) : Int)) ⟨k + 1, h2, Prod.ext (by dsimp only; omega) rfl, by omega⟩ (by simp; omega)
    · rw [if_neg c2, if_pos (by omega), if_neg (by omega)]
  · have : k = a.length := by omega
    subst this
    rw [List.take_length] at hb ⊢
    simp only [Int.lt_irrefl, decide_false, cond_false]
    rw [if_pos (by omega)]
    congr 1
    omega
def w_LInt (a : List Int) : Nat := a.length
theorem laws_szIntS_ok {n : Nat} (a : List Int) {left : Int} (h : (a.length ≤ 9223372036854775807 ∧ ∀ y ∈ a, rng (-9223372036854775808) 9223372036854775807 y)) (h0 : 0 ≤ left) (h1 : left ≤ 1048576) (hn : 1000000000 < n) : laws_szIntS n a left = some (if (w_LInt a : Int) ≤ left then left - (w_LInt a : Int) else -1) := by
  have hw : w_LInt a = a.length := rfl
  unfold laws_szIntS
  rw [w64_id (by have := h.1; omega) (by omega), bd_eq, bif_dec]
  by_cases c : (a.length : Int) ≤ left
  · rw [if_neg (by omega), if_pos (by omega)]
    congr 1
  · rw [if_pos (by omega), if_neg (by omega)]
def w_SBook (a : SBook) : Nat := w_LSBill a.Bills + w_LInt a.Freed
theorem laws_szBook_ok {n : Nat} (a : SBook) {left : Int} (h : wfSBook a) (h0 : 0 ≤ left) (h1 : left ≤ 1048576) (hn : 1000000000 < n) : laws_szBook n a left = some (if (w_SBook a : Int) ≤ left then left - (w_SBook a : Int) else -1) := by
  have hw : w_SBook a = w_LSBill a.Bills + w_LInt a.Freed := rfl
  unfold laws_szBook
  rw [laws_szBillS_ok (n := n) a.Bills h.1 (by omega) (by omega) hn, Option.bind_some, bif_dec]
  by_cases c0 : (w_LSBill a.Bills : Int) ≤ left
  case neg => rw [if_neg c0, if_pos (by omega), if_neg (by omega)]
  rw [if_pos c0, if_neg (by omega)]
  rw [laws_szIntS_ok (n := n) a.Freed h.2 (by omega) (by omega) hn, Option.bind_some, bif_dec]
  by_cases c1 : (w_LInt a.Freed : Int) ≤ left - (w_LSBill a.Bills : Int)
  case neg => rw [if_neg c1, if_pos (by omega), if_neg (by omega)]
  rw [if_pos c1, if_neg (by omega)]
  rw [if_pos (by omega)]
  try (refine congrArg some ?_; omega)
theorem laws_toStringS_ok {n : Nat} (a : List ByteArray) (hb : w_LBA a ≤ 100000000) (hn : 1000000000 < n) : laws_toStringS n a = some a := by
  have hw0 : a.length ≤ 100000000 := by have hw : w_LBA a = a.length + sumOf (fun y => y.size) a := rfl; omega
  unfold laws_toStringS
  rw [chk_dec (by omega), chk_dec (by omega), chk_dec (by omega)]
  refine loopN_ind (fun x => a.length - x.1.toNat) (fun x => ∃ k : Nat, k ≤ a.length ∧ x = ((k : Int), a.take k ++ (List.replicate a.length (str [])).drop k)) (fun x r => r = some a) ?_ n _ ⟨0, by omega, by simp⟩ (by simp; omega)
  rintro _ J ⟨k, hk, rfl⟩ ih
  unfold laws_toStringS_L3
  dsimp only
  have hl : (a.take k ++ (List.replicate a.length (str [])).drop k).length = a.length := by simp; omega
  by_cases h : k < a.length
  · have g := ih (((k + 1 : Nat) : Int), a.take (k + 1) ++ (List.replicate a.length (str [])).drop (k + 1)) ⟨k + 1, h, rfl⟩ (by simp; omega)
    have s1 := sumOf_mem (f := fun y => y.size) (d := (str [])) h
    have hw : w_LBA a = a.length + sumOf (fun y => y.size) a := rfl
    try simp only at s1
    have hk2 : k < (a.take k ++ (List.replicate a.length (str [])).drop k).length := by omega
    simp only [Int.ofNat_lt, h, hk2, decide_true, cond_true, ix_nat h, ix_nat hk2, chk_of, bd_eq, Option.bind_some, Int.toNat_natCast, w64_succ (show k < 9223372036854775807 by omega)]
    rw [take_drop_set (d := (str [])) h rfl rfl]
    exact g
  · have : k = a.length := by omega
    subst this
    simp
theorem laws_toBill_ok {n : Nat} (a : SBill) (h : w_SBill a ≤ 100000000) (hn : 1000000000 < n) : laws_toBill n a = some a := by
  have hw : w_SBill a = a.Shipper.size + a.Order.size + w_LBA a.Held := rfl
  simp [laws_toBill, laws_toStringS_ok (n := n) a.Held (by omega) hn]
theorem laws_toBillS_ok {n : Nat} (a : List SBill) (hb : w_LSBill a ≤ 100000000) (hn : 1000000000 < n) : laws_toBillS n a = some a := by
  have hw0 : a.length ≤ 100000000 := by have hw : w_LSBill a = a.length + sumOf (fun y => w_SBill y) a := rfl; omega
  unfold laws_toBillS
  rw [chk_dec (by omega), chk_dec (by omega), chk_dec (by omega)]
  refine loopN_ind (fun x => a.length - x.1.toNat) (fun x => ∃ k : Nat, k ≤ a.length ∧ x = ((k : Int), a.take k ++ (List.replicate a.length dSBill).drop k)) (fun x r => r = some a) ?_ n _ ⟨0, by omega, by simp⟩ (by simp; omega)
  rintro _ J ⟨k, hk, rfl⟩ ih
  unfold laws_toBillS_L3
  dsimp only
  have hl : (a.take k ++ (List.replicate a.length dSBill).drop k).length = a.length := by simp; omega
  by_cases h : k < a.length
  · have g := ih (((k + 1 : Nat) : Int), a.take (k + 1) ++ (List.replicate a.length dSBill).drop (k + 1)) ⟨k + 1, h, rfl⟩ (by simp; omega)
    have s1 := sumOf_mem (f := fun y => w_SBill y) (d := dSBill) h
    have hw : w_LSBill a = a.length + sumOf (fun y => w_SBill y) a := rfl
    try simp only at s1
    have hk2 : k < (a.take k ++ (List.replicate a.length dSBill).drop k).length := by omega
    simp only [Int.ofNat_lt, h, hk2, decide_true, cond_true, ix_nat h, ix_nat hk2, chk_of, bd_eq, Option.bind_some, Int.toNat_natCast, w64_succ (show k < 9223372036854775807 by omega), laws_toBill_ok (n := n) (a.getD k dSBill) (by omega) hn]
    rw [take_drop_set (d := dSBill) h rfl rfl]
    exact g
  · have : k = a.length := by omega
    subst this
    simp
theorem laws_toIntS_ok {n : Nat} (a : List Int) (hb : w_LInt a ≤ 100000000) (hn : 1000000000 < n) : laws_toIntS n a = some a := by
  have hw0 : a.length ≤ 100000000 := by have hw : w_LInt a = a.length := rfl; omega
  unfold laws_toIntS
  rw [chk_dec (by omega), chk_dec (by omega), chk_dec (by omega)]
  refine loopN_ind (fun x => a.length - x.1.toNat) (fun x => ∃ k : Nat, k ≤ a.length ∧ x = ((k : Int), a.take k ++ (List.replicate a.length (0 : Int)).drop k)) (fun x r => r = some a) ?_ n _ ⟨0, by omega, by simp⟩ (by simp; omega)
  rintro _ J ⟨k, hk, rfl⟩ ih
  unfold laws_toIntS_L3
  dsimp only
  have hl : (a.take k ++ (List.replicate a.length (0 : Int)).drop k).length = a.length := by simp; omega
  by_cases h : k < a.length
  · have g := ih (((k + 1 : Nat) : Int), a.take (k + 1) ++ (List.replicate a.length (0 : Int)).drop (k + 1)) ⟨k + 1, h, rfl⟩ (by simp; omega)
    have hk2 : k < (a.take k ++ (List.replicate a.length (0 : Int)).drop k).length := by omega
    simp only [Int.ofNat_lt, h, hk2, decide_true, cond_true, ix_nat h, ix_nat hk2, chk_of, bd_eq, Option.bind_some, Int.toNat_natCast, w64_succ (show k < 9223372036854775807 by omega)]
    rw [take_drop_set (d := (0 : Int)) h rfl rfl]
    exact g
  · have : k = a.length := by omega
    subst this
    simp
theorem laws_toBook_ok {n : Nat} (a : SBook) (h : w_SBook a ≤ 100000000) (hn : 1000000000 < n) : laws_toBook n a = some a := by
  have hw : w_SBook a = w_LSBill a.Bills + w_LInt a.Freed := rfl
  simp [laws_toBook, laws_toBillS_ok (n := n) a.Bills (by omega) hn, laws_toIntS_ok (n := n) a.Freed (by omega) hn]
theorem laws_eqStringS_ok {n : Nat} (a : List ByteArray) (hb : w_LBA a ≤ 100000000) (hn : 1000000000 < n) : laws_eqStringS n a a = some true := by
  have hw0 : a.length ≤ 100000000 := by have hw : w_LBA a = a.length + sumOf (fun y => y.size) a := rfl; omega
  unfold laws_eqStringS
  simp only [decide_true, Bool.not_true, cond_false]
  refine loopN_ind (fun x => a.length - x.toNat) (fun x => ∃ k : Nat, k ≤ a.length ∧ x = (k : Int)) (fun x r => r = some true) ?_ n _ ⟨0, by omega, rfl⟩ (by simp; omega)
  rintro _ J ⟨k, hk, rfl⟩ ih
  unfold laws_eqStringS_L4
  by_cases h : k < a.length
  · have g := ih ((k + 1 : Nat) : Int) ⟨k + 1, h, rfl⟩ (by simp; omega)
    have s1 := sumOf_mem (f := fun y => y.size) (d := (str [])) h
    have hw : w_LBA a = a.length + sumOf (fun y => y.size) a := rfl
    try simp only at s1
    simp only [Int.ofNat_lt, h, decide_true, cond_true, ix_nat h, Bool.not_true, cond_false, bd_eq, Option.bind_some, beq_self_eq_true, Int.toNat_natCast, w64_succ (show k < 9223372036854775807 by omega)]
    exact g
  · simp [h]
theorem laws_eqBill_ok {n : Nat} (a : SBill) (h : w_SBill a ≤ 100000000) (hn : 1000000000 < n) : laws_eqBill n a a = some true := by
  have hw : w_SBill a = a.Shipper.size + a.Order.size + w_LBA a.Held := rfl
  simp [laws_eqBill, laws_eqBill_k0, laws_eqStringS_ok (n := n) a.Held (by omega) hn]
theorem laws_eqBillS_ok {n : Nat} (a : List SBill) (hb : w_LSBill a ≤ 100000000) (hn : 1000000000 < n) : laws_eqBillS n a a = some true := by
  have hw0 : a.length ≤ 100000000 := by have hw : w_LSBill a = a.length + sumOf (fun y => w_SBill y) a := rfl; omega
  unfold laws_eqBillS
  simp only [decide_true, Bool.not_true, cond_false]
  refine loopN_ind (fun x => a.length - x.toNat) (fun x => ∃ k : Nat, k ≤ a.length ∧ x = (k : Int)) (fun x r => r = some true) ?_ n _ ⟨0, by omega, rfl⟩ (by simp; omega)
  rintro _ J ⟨k, hk, rfl⟩ ih
  unfold laws_eqBillS_L4
  by_cases h : k < a.length
  · have g := ih ((k + 1 : Nat) : Int) ⟨k + 1, h, rfl⟩ (by simp; omega)
    have s1 := sumOf_mem (f := fun y => w_SBill y) (d := dSBill) h
    have hw : w_LSBill a = a.length + sumOf (fun y => w_SBill y) a := rfl
    try simp only at s1
    simp only [Int.ofNat_lt, h, decide_true, cond_true, ix_nat h, Bool.not_true, cond_false, bd_eq, Option.bind_some, beq_self_eq_true, Int.toNat_natCast, w64_succ (show k < 9223372036854775807 by omega), laws_eqBill_ok (n := n) (a.getD k dSBill) (by omega) hn]
    exact g
  · simp [h]
theorem laws_eqIntS_ok {n : Nat} (a : List Int) (hb : w_LInt a ≤ 100000000) (hn : 1000000000 < n) : laws_eqIntS n a a = some true := by
  have hw0 : a.length ≤ 100000000 := by have hw : w_LInt a = a.length := rfl; omega
  unfold laws_eqIntS
  simp only [decide_true, Bool.not_true, cond_false]
  refine loopN_ind (fun x => a.length - x.toNat) (fun x => ∃ k : Nat, k ≤ a.length ∧ x = (k : Int)) (fun x r => r = some true) ?_ n _ ⟨0, by omega, rfl⟩ (by simp; omega)
  rintro _ J ⟨k, hk, rfl⟩ ih
  unfold laws_eqIntS_L4
  by_cases h : k < a.length
  · have g := ih ((k + 1 : Nat) : Int) ⟨k + 1, h, rfl⟩ (by simp; omega)
    simp only [Int.ofNat_lt, h, decide_true, cond_true, ix_nat h, Bool.not_true, cond_false, bd_eq, Option.bind_some, beq_self_eq_true, Int.toNat_natCast, w64_succ (show k < 9223372036854775807 by omega)]
    exact g
  · simp [h]
theorem laws_eqBook_ok {n : Nat} (a : SBook) (h : w_SBook a ≤ 100000000) (hn : 1000000000 < n) : laws_eqBook n a a = some true := by
  have hw : w_SBook a = w_LSBill a.Bills + w_LInt a.Freed := rfl
  simp [laws_eqBook, laws_eqBillS_ok (n := n) a.Bills (by omega) hn, laws_eqIntS_ok (n := n) a.Freed (by omega) hn]
end Go.Sm
end

section
set_option linter.unusedSimpArgs false
set_option linter.deprecated false
set_option linter.unusedSectionVars false
set_option linter.unusedVariables false
set_option linter.unusedSimpArgs false
namespace Go.Sm
attribute [local irreducible] bd chk ix loopN
theorem in_spec (n : Nat) (x a b : Int) : spec_l1In n x a b = some (decide (a ≤ x ∧ x ≤ b)) := by
  unfold spec_l1In
  by_cases h0 : a ≤ x <;> by_cases h1 : x ≤ b <;> simp [h0, h1]
theorem in_impl (n : Nat) (x a b : Int) : impl_in n x a b = some (decide (a ≤ x ∧ x ≤ b)) := by
  unfold impl_in
  by_cases h0 : a ≤ x <;> by_cases h1 : x ≤ b <;> simp [h0, h1]
/-! ### Names -/
def charOk (c : Int) : Bool := decide (97 ≤ c ∧ c ≤ 122) || (decide (65 ≤ c ∧ c ≤ 90) || (decide (48 ≤ c ∧ c ≤ 57) || decide (c = 45)))
def nameB (s : ByteArray) : Bool := decide (1 ≤ (s.size : Int) ∧ (s.size : Int) ≤ 20) && (List.range s.size).all fun k => charOk (byteAt s k)
theorem char_spec {α : Type} (c : Int) (x y : α) : (bif !decide (97 ≤ c ∧ c ≤ 122) then (bif !decide (65 ≤ c ∧ c ≤ 90) then (bif !decide (48 ≤ c ∧ c ≤ 57) then (bif !decide (c = 45) then x else y) else y) else y) else y) = bif charOk c then y else x := by
  unfold charOk
  cases decide (97 ≤ c ∧ c ≤ 122) <;> cases decide (65 ≤ c ∧ c ≤ 90) <;> cases decide (48 ≤ c ∧ c ≤ 57) <;> cases decide (c = 45) <;> rfl
theorem char_impl {α : Type} (c : Int) (x y : α) : (bif (decide (c < (97 : Int))) then (bif (decide (c < (65 : Int))) then (bif (decide (c < (48 : Int))) then (bif (!(decide (c = (45 : Int)))) then x else y) else (bif (decide (c > (57 : Int))) then (bif (!(decide (c = (45 : Int)))) then x else y) else y)) else (bif (decide (c > (90 : Int))) then (bif (decide (c < (48 : Int))) then (bif (!(decide (c = (45 : Int)))) then x else y) else (bif (decide (c > (57 : Int))) then (bif (!(decide (c = (45 : Int)))) then x else y) else y)) else y)) else (bif (decide (c > (122 : Int))) then (bif (decide (c < (65 : Int))) then (bif (decide (c < (48 : Int))) then (bif (!(decide (c = (45 : Int)))) then x else y) else (bif (decide (c > (57 : Int))) then (bif (!(decide (c = (45 : Int)))) then x else y) else y)) else (bif (decide (c > (90 : Int))) then (bif (decide (c < (48 : Int))) then (bif (!(decide (c = (45 : Int)))) then x else y) else (bif (decide (c > (57 : Int))) then (bif (!(decide (c = (45 : Int)))) then x else y) else y)) else y)) else y)) = bif charOk c then y else x := by
  unfold charOk
  have hc : c < 45 ∨ c = 45 ∨ (45 < c ∧ c < 48) ∨ (48 ≤ c ∧ c ≤ 57) ∨ (57 < c ∧ c < 65) ∨ (65 ≤ c ∧ c ≤ 90) ∨ (90 < c ∧ c < 97) ∨ (97 ≤ c ∧ c ≤ 122) ∨ 122 < c := by omega
  rcases hc with h | h | h | h | h | h | h | h | h
  · simp only [decide_eq_true (show (c : Int) < 97 by omega), decide_eq_true (show (c : Int) < 65 by omega), decide_eq_true (show (c : Int) < 48 by omega), decide_eq_false (show ¬ (c : Int) > 57 by omega), decide_eq_false (show ¬ (c : Int) > 90 by omega), decide_eq_false (show ¬ (c : Int) > 122 by omega), decide_eq_false (show ¬ (c : Int) = 45 by omega), decide_eq_false (show ¬ (97 ≤ c ∧ c ≤ 122) by omega), decide_eq_false (show ¬ (65 ≤ c ∧ c ≤ 90) by omega), decide_eq_false (show ¬ (48 ≤ c ∧ c ≤ 57) by omega), cond_true, cond_false, Bool.not_true, Bool.not_false, Bool.true_or, Bool.false_or]
  · simp only [decide_eq_true (show (c : Int) < 97 by omega), decide_eq_true (show (c : Int) < 65 by omega), decide_eq_true (show (c : Int) < 48 by omega), decide_eq_false (show ¬ (c : Int) > 57 by omega), decide_eq_false (show ¬ (c : Int) > 90 by omega), decide_eq_false (show ¬ (c : Int) > 122 by omega), decide_eq_true (show (c : Int) = 45 by omega), decide_eq_false (show ¬ (97 ≤ c ∧ c ≤ 122) by omega), decide_eq_false (show ¬ (65 ≤ c ∧ c ≤ 90) by omega), decide_eq_false (show ¬ (48 ≤ c ∧ c ≤ 57) by omega), cond_true, cond_false, Bool.not_true, Bool.not_false, Bool.true_or, Bool.false_or]
  · simp only [decide_eq_true (show (c : Int) < 97 by omega), decide_eq_true (show (c : Int) < 65 by omega), decide_eq_true (show (c : Int) < 48 by omega), decide_eq_false (show ¬ (c : Int) > 57 by omega), decide_eq_false (show ¬ (c : Int) > 90 by omega), decide_eq_false (show ¬ (c : Int) > 122 by omega), decide_eq_false (show ¬ (c : Int) = 45 by omega), decide_eq_false (show ¬ (97 ≤ c ∧ c ≤ 122) by omega), decide_eq_false (show ¬ (65 ≤ c ∧ c ≤ 90) by omega), decide_eq_false (show ¬ (48 ≤ c ∧ c ≤ 57) by omega), cond_true, cond_false, Bool.not_true, Bool.not_false, Bool.true_or, Bool.false_or]
  · simp only [decide_eq_true (show (c : Int) < 97 by omega), decide_eq_true (show (c : Int) < 65 by omega), decide_eq_false (show ¬ (c : Int) < 48 by omega), decide_eq_false (show ¬ (c : Int) > 57 by omega), decide_eq_false (show ¬ (c : Int) > 90 by omega), decide_eq_false (show ¬ (c : Int) > 122 by omega), decide_eq_false (show ¬ (c : Int) = 45 by omega), decide_eq_false (show ¬ (97 ≤ c ∧ c ≤ 122) by omega), decide_eq_false (show ¬ (65 ≤ c ∧ c ≤ 90) by omega), decide_eq_true (show 48 ≤ c ∧ c ≤ 57 by omega), cond_true, cond_false, Bool.not_true, Bool.not_false, Bool.true_or, Bool.false_or]
  · simp only [decide_eq_true (show (c : Int) < 97 by omega), decide_eq_true (show (c : Int) < 65 by omega), decide_eq_false (show ¬ (c : Int) < 48 by omega), decide_eq_true (show (c : Int) > 57 by omega), decide_eq_false (show ¬ (c : Int) > 90 by omega), decide_eq_false (show ¬ (c : Int) > 122 by omega), decide_eq_false (show ¬ (c : Int) = 45 by omega), decide_eq_false (show ¬ (97 ≤ c ∧ c ≤ 122) by omega), decide_eq_false (show ¬ (65 ≤ c ∧ c ≤ 90) by omega), decide_eq_false (show ¬ (48 ≤ c ∧ c ≤ 57) by omega), cond_true, cond_false, Bool.not_true, Bool.not_false, Bool.true_or, Bool.false_or]
  · simp only [decide_eq_true (show (c : Int) < 97 by omega), decide_eq_false (show ¬ (c : Int) < 65 by omega), decide_eq_false (show ¬ (c : Int) < 48 by omega), decide_eq_true (show (c : Int) > 57 by omega), decide_eq_false (show ¬ (c : Int) > 90 by omega), decide_eq_false (show ¬ (c : Int) > 122 by omega), decide_eq_false (show ¬ (c : Int) = 45 by omega), decide_eq_false (show ¬ (97 ≤ c ∧ c ≤ 122) by omega), decide_eq_true (show 65 ≤ c ∧ c ≤ 90 by omega), decide_eq_false (show ¬ (48 ≤ c ∧ c ≤ 57) by omega), cond_true, cond_false, Bool.not_true, Bool.not_false, Bool.true_or, Bool.false_or]
  · simp only [decide_eq_true (show (c : Int) < 97 by omega), decide_eq_false (show ¬ (c : Int) < 65 by omega), decide_eq_false (show ¬ (c : Int) < 48 by omega), decide_eq_true (show (c : Int) > 57 by omega), decide_eq_true (show (c : Int) > 90 by omega), decide_eq_false (show ¬ (c : Int) > 122 by omega), decide_eq_false (show ¬ (c : Int) = 45 by omega), decide_eq_false (show ¬ (97 ≤ c ∧ c ≤ 122) by omega), decide_eq_false (show ¬ (65 ≤ c ∧ c ≤ 90) by omega), decide_eq_false (show ¬ (48 ≤ c ∧ c ≤ 57) by omega), cond_true, cond_false, Bool.not_true, Bool.not_false, Bool.true_or, Bool.false_or]
  · simp only [decide_eq_false (show ¬ (c : Int) < 97 by omega), decide_eq_false (show ¬ (c : Int) < 65 by omega), decide_eq_false (show ¬ (c : Int) < 48 by omega), decide_eq_true (show (c : Int) > 57 by omega), decide_eq_true (show (c : Int) > 90 by omega), decide_eq_false (show ¬ (c : Int) > 122 by omega), decide_eq_false (show ¬ (c : Int) = 45 by omega), decide_eq_true (show 97 ≤ c ∧ c ≤ 122 by omega), decide_eq_false (show ¬ (65 ≤ c ∧ c ≤ 90) by omega), decide_eq_false (show ¬ (48 ≤ c ∧ c ≤ 57) by omega), cond_true, cond_false, Bool.not_true, Bool.not_false, Bool.true_or, Bool.false_or]
  · simp only [decide_eq_false (show ¬ (c : Int) < 97 by omega), decide_eq_false (show ¬ (c : Int) < 65 by omega), decide_eq_false (show ¬ (c : Int) < 48 by omega), decide_eq_true (show (c : Int) > 57 by omega), decide_eq_true (show (c : Int) > 90 by omega), decide_eq_true (show (c : Int) > 122 by omega), decide_eq_false (show ¬ (c : Int) = 45 by omega), decide_eq_false (show ¬ (97 ≤ c ∧ c ≤ 122) by omega), decide_eq_false (show ¬ (65 ≤ c ∧ c ≤ 90) by omega), decide_eq_false (show ¬ (48 ≤ c ∧ c ≤ 57) by omega), cond_true, cond_false, Bool.not_true, Bool.not_false, Bool.true_or, Bool.false_or]
theorem name_spec {n : Nat} (s : ByteArray) (hs : s.size ≤ 100000000) (hn : 1000000000 < n) : spec_l1Name n s = some (nameB s) := by
  unfold spec_l1Name
  rw [loop_all (p := fun k => charOk (byteAt s k)) (len := s.size) (no := some false) (yes := some (decide (1 ≤ (s.size : Int) ∧ (s.size : Int) ≤ 20))) (by omega) (fun k J h _ => ?_) (fun J _ => ?_) (by omega)]
  · rw [bif_sf, nameB, Bool.and_comm]
  · unfold spec_l1Name_L2 spec_l1Name_k0
    have hb := byteAt_rng s k
    have e : w64 (byteAt s k) = byteAt s k := w64_id (by omega) (by omega)
    simp only [Int.ofNat_lt, h, decide_true, cond_true, ix_nat h, Int.toNat_natCast, e, in_spec, Option.bind_some, w64_succ (show k < 9223372036854775807 by omega)]
    exact char_spec _ _ _
  · unfold spec_l1Name_L2
    simp only [Int.lt_irrefl, decide_false, cond_false, in_spec, Option.bind_some]
theorem name_impl {n : Nat} (s : ByteArray) (hs : s.size ≤ 100000000) (hn : 1000000000 < n) : impl_nameOk n s = some (nameB s) := by
  unfold impl_nameOk nameB
  by_cases h1 : s.size < 1
  · rw [decide_eq_true (show (s.size : Int) < 1 by omega), cond_true, decide_eq_false (by omega)]; rfl
  · by_cases h2 : s.size > 20
    · rw [decide_eq_false (show ¬ (s.size : Int) < 1 by omega), cond_false, decide_eq_true (show (s.size : Int) > 20 by omega), cond_true, decide_eq_false (by omega)]; rfl
    · rw [decide_eq_false (show ¬ (s.size : Int) < 1 by omega), cond_false, decide_eq_false (show ¬ (s.size : Int) > 20 by omega), cond_false, decide_eq_true (show 1 ≤ (s.size : Int) ∧ (s.size : Int) ≤ 20 by omega)]
      rw [loop_all (p := fun k => charOk (byteAt s k)) (len := s.size) (no := some false) (yes := some true) (by omega) (fun k J h _ => ?_) (fun J _ => ?_) (by omega)]
      · rw [bif_tf, Bool.true_and]
      · unfold impl_nameOk_L4 impl_nameOk_k0
        simp only [Int.ofNat_lt, h, decide_true, cond_true, ix_nat h, Int.toNat_natCast, w64_succ (show k < 9223372036854775807 by omega)]
        exact char_impl _ _ _
      · unfold impl_nameOk_L4
        simp only [Int.lt_irrefl, decide_false, cond_false]
def emptyB (s : ByteArray) : Bool := decide (s = str []) || nameB s
theorem empty_impl {n : Nat} (s : ByteArray) (hs : s.size ≤ 100000000) (hn : 1000000000 < n) : impl_emptyOrName n s = some (emptyB s) := by
  unfold impl_emptyOrName emptyB
  rw [name_impl s hs hn]
  cases decide (s = str []) <;> rfl
/-! ### Books -/
def heldAll (l : List ByteArray) : Bool := (List.range l.length).all fun k => emptyB (l.getD k (str []))
def billBase (x : SBill) : Bool := nameB x.Shipper && (emptyB x.Order && (decide (1 ≤ x.Many ∧ x.Many ≤ 5) && (decide ((x.Held.length : Int) = x.Many) && heldAll x.Held)))
def billOk (l : List SBill) (k : Nat) : Bool := decide (1 ≤ (l.getD k dSBill).Id ∧ (l.getD k dSBill).Id ≤ 1000000) && ((decide (k = 0) || !decide ((l.getD (k - 1) dSBill).Id ≥ (l.getD k dSBill).Id)) && billBase (l.getD k dSBill))
def hasBill (l : List SBill) (m : Nat) (q : Int) : Bool := (List.range m).any fun j => decide ((l.getD j dSBill).Id = q)
def freedOk (b : SBook) (k : Nat) : Bool := hasBill b.Bills b.Bills.length (b.Freed.getD k 0) && (decide (k = 0) || !decide (b.Freed.getD (k - 1) 0 ≥ b.Freed.getD k 0))
def bookB (b : SBook) : Bool := decide (b.Bills.length ≤ 30) && ((List.range b.Bills.length).all (billOk b.Bills) && (List.range b.Freed.length).all (freedOk b))
theorem hasBill_succ (l : List SBill) (m : Nat) (q : Int) : hasBill l (m + 1) q = (hasBill l m q || decide ((l.getD m dSBill).Id = q)) := by
  unfold hasBill
  rw [any_range_succ]
/-- What is known of a book's sizes. -/
structure BookSz (b : SBook) : Prop where
  bills : b.Bills.length ≤ 100000000
  freed : b.Freed.length ≤ 100000000
  each : ∀ k, k < b.Bills.length → (b.Bills.getD k dSBill).Shipper.size ≤ 100000000 ∧ (b.Bills.getD k dSBill).Order.size ≤ 100000000 ∧ (b.Bills.getD k dSBill).Held.length ≤ 100000000 ∧ ∀ j, j < (b.Bills.getD k dSBill).Held.length → ((b.Bills.getD k dSBill).Held.getD j (str [])).size ≤ 100000000
theorem bookSz (b : SBook) (h : w_SBook b ≤ 100000000) : BookSz b := by
  have h1 : w_SBook b = w_LSBill b.Bills + w_LInt b.Freed := rfl
  have h2 : w_LSBill b.Bills = b.Bills.length + sumOf (fun y => w_SBill y) b.Bills := rfl
  have h3 : w_LInt b.Freed = b.Freed.length := rfl
  refine ⟨by omega, by omega, fun k hk => ?_⟩
  have s := sumOf_mem (f := fun y => w_SBill y) (d := dSBill) hk
  have h4 : w_SBill (b.Bills.getD k dSBill) = (b.Bills.getD k dSBill).Shipper.size + (b.Bills.getD k dSBill).Order.size + w_LBA (b.Bills.getD k dSBill).Held := rfl
  have h5 : w_LBA (b.Bills.getD k dSBill).Held = (b.Bills.getD k dSBill).Held.length + sumOf (fun y => y.size) (b.Bills.getD k dSBill).Held := rfl
  refine ⟨by omega, by omega, by omega, fun j hj => ?_⟩
  have s2 := sumOf_mem (f := fun y : ByteArray => y.size) (d := str []) hj
  try simp only at s2
  omega
theorem held_spec {R : Type} {n : Nat} (kx : Option R) (kxr : Bool → Option R) (i : Int) (b : SBook) (x : SBill) (hl : x.Held.length ≤ 100000000) (hh : ∀ j, j < x.Held.length → (x.Held.getD j (str [])).size ≤ 100000000) (hn : 1000000000 < n) :
    loopN (fun (y : Int) J' => spec_BookOk_L8 n kx (fun t => kxr t) J' i y b x) n (0 : Int) = bif heldAll x.Held then kx else kxr false := by
  rw [loop_all (p := fun k => emptyB (x.Held.getD k (str []))) (len := x.Held.length) (no := kxr false) (yes := kx) (by omega) (fun k J h _ => ?_) (fun J _ => ?_) (by omega)]
  · rfl
  · unfold spec_BookOk_L8 spec_BookOk_k0
    simp only [Int.ofNat_lt, h, decide_true, cond_true, ix_nat h, Int.toNat_natCast, name_spec _ (hh k h) hn, Option.bind_some, w64_succ (show k < 9223372036854775807 by omega), emptyB]
    cases decide (x.Held.getD k (str []) = str []) <;> cases nameB (x.Held.getD k (str [])) <;> rfl
  · unfold spec_BookOk_L8
    simp only [Int.lt_irrefl, decide_false, cond_false]
theorem order_spec {α : Type} {c d : Bool} {x y : α} : (bif !c then (bif !d then x else y) else y) = bif c || d then y else x := by cases c <;> cases d <;> rfl
theorem find_spec {n : Nat} (b : SBook) (id : Int) (h : b.Bills.length ≤ 100000000) (hn : 1000000000 < n) : spec_l14Find n b id = some (idxOf (fun j => decide ((b.Bills.getD j dSBill).Id = id)) b.Bills.length) := by
  unfold spec_l14Find
  refine loop_idx (by omega) (fun k J h2 _ => ?_) (fun J _ => ?_) (by omega)
  · unfold spec_l14Find_L2
    simp only [Int.ofNat_lt, h2, decide_true, cond_true, ix_nat h2, bd_eq, Int.toNat_natCast, w64_succ (show k < 9223372036854775807 by omega)]
  · unfold spec_l14Find_L2
    simp only [Int.lt_irrefl, decide_false, cond_false]
theorem book_spec {n : Nat} (b : SBook) (hz : BookSz b) (hn : 1000000000 < n) : spec_BookOk n b = some (bookB b) := by
  have hl := hz.bills
  have hf := hz.freed
  unfold spec_BookOk
  rw [loop_all (p := billOk b.Bills) (len := b.Bills.length) (no := some false) (yes := some ((List.range b.Freed.length).all (freedOk b) && decide (b.Bills.length ≤ 30))) (by omega) (fun k J h _ => ?_) (fun J _ => ?_) (by omega)]
  · rw [bif_sf, bookB]
    cases (List.range b.Bills.length).all (billOk b.Bills) <;> cases (List.range b.Freed.length).all (freedOk b) <;> cases decide (b.Bills.length ≤ 30) <;> rfl
  · obtain ⟨z1, z2, z3, z4⟩ := hz.each k h
    have hh := fun kx => held_spec (n := n) kx (fun t => some t) (k : Int) b (b.Bills.getD k dSBill) z3 z4 hn
    unfold spec_BookOk_L2 spec_BookOk_k1
    cases k with
    | zero =>
      simp only [Int.ofNat_lt, h, decide_true, cond_true, ix_nat h, bd_eq, Int.toNat_natCast, in_spec, Option.bind_some, w64_succ (show 0 < 9223372036854775807 by omega), show ¬ ((0 : Nat) : Int) > 0 by omega, decide_false, cond_false, name_spec _ z1 hn, name_spec _ z2 hn, hh]
      unfold billOk billBase emptyB
      cases decide ((b.Bills.getD 0 dSBill).Order = str []) <;> simp only [decide_true, Bool.true_or, Bool.false_or, bif_not, bif_and', bif_or', bif_and2, bif_or2, Bool.not_not, Bool.and_assoc, Bool.and_true, Bool.true_and, Bool.false_and, Bool.not_false, Bool.not_true, cond_true, cond_false]
    | succ k =>
      have e3 : w64 (((k + 1 : Nat) : Int) - 1) = (k : Int) := by rw [w64_id (by omega) (by omega)]; omega
      simp only [Int.ofNat_lt, h, decide_true, cond_true, ix_nat h, bd_eq, Int.toNat_natCast, in_spec, Option.bind_some, w64_succ (show k + 1 < 9223372036854775807 by omega), show ((k + 1 : Nat) : Int) > 0 by omega, e3, ix_nat (show k < b.Bills.length by omega), name_spec _ z1 hn, name_spec _ z2 hn, hh]
      unfold billOk billBase emptyB
      cases decide ((b.Bills.getD (k + 1) dSBill).Order = str []) <;> simp only [decide_true, decide_false, Nat.succ_ne_zero, Nat.add_sub_cancel, Bool.true_or, Bool.false_or, bif_not, bif_and', bif_or', bif_and2, bif_or2, Bool.not_not, Bool.and_assoc, Bool.and_true, Bool.true_and, Bool.false_and, Bool.not_false, Bool.not_true, cond_true, cond_false]
  · unfold spec_BookOk_L2
    simp only [Int.lt_irrefl, decide_false, cond_false]
    rw [loop_all (p := freedOk b) (len := b.Freed.length) (no := some false) (yes := some (decide (b.Bills.length ≤ 30))) (by omega) (fun k J h _ => ?_) (fun J _ => ?_) (by omega)]
    · rw [bif_sf]
    · unfold spec_BookOk_L13 spec_BookOk_k2
      have hlt := idxOf_lt (fun j => decide ((b.Bills.getD j dSBill).Id = b.Freed.getD k 0)) b.Bills.length
      cases k with
      | zero =>
        simp only [Int.ofNat_lt, h, decide_true, cond_true, ix_nat h, Int.toNat_natCast, find_spec b _ hl hn, Option.bind_some, hlt, show ¬ ((0 : Nat) : Int) > 0 by omega, decide_false, cond_false, w64_succ (show 0 < 9223372036854775807 by omega)]
        unfold freedOk hasBill
        simp only [decide_true, Bool.true_or, bif_not, bif_and', bif_or', bif_and2, bif_or2, Bool.not_not, Bool.and_assoc, Bool.and_true, Bool.true_and, Bool.false_and, Bool.not_false, Bool.not_true, cond_true, cond_false]
      | succ k =>
        have e3 : w64 (((k + 1 : Nat) : Int) - 1) = (k : Int) := by rw [w64_id (by omega) (by omega)]; omega
        simp only [Int.ofNat_lt, h, decide_true, cond_true, ix_nat h, Int.toNat_natCast, find_spec b _ hl hn, Option.bind_some, hlt, show ((k + 1 : Nat) : Int) > 0 by omega, e3, ix_nat (show k < b.Freed.length by omega), w64_succ (show k + 1 < 9223372036854775807 by omega)]
        unfold freedOk hasBill
        simp only [decide_false, Nat.succ_ne_zero, Nat.add_sub_cancel, Bool.false_or, bif_not, bif_and', bif_or', bif_and2, bif_or2, Bool.not_not, Bool.and_assoc, Bool.and_true, Bool.true_and, Bool.false_and, Bool.not_false, Bool.not_true, cond_true, cond_false]
    · unfold spec_BookOk_L13
      simp only [Int.lt_irrefl, decide_false, cond_false]
      congr 1
      simp only [decide_eq_decide]
      omega
theorem held_impl {n : Nat} (l : List ByteArray) (hl : l.length ≤ 100000000) (hh : ∀ j, j < l.length → (l.getD j (str [])).size ≤ 100000000) (hn : 1000000000 < n) : slices_ContainsFunc_string_string__impl_BookOk_1 n l = some (!heldAll l) := by
  unfold slices_ContainsFunc_string_string__impl_BookOk_1 slices_IndexFunc_string_string__impl_BookOk_1
  rw [loop_idx (p := fun k => !emptyB (l.getD k (str []))) (len := l.length) (by omega) (fun k J h _ => ?_) (fun J _ => ?_) (by omega)]
  · rw [Option.bind_some, idxOf_ge]
    congr 1
    unfold heldAll
    rw [List.not_all_eq_any_not]
  · unfold slices_IndexFunc_string_string__impl_BookOk_1_L2 impl_BookOk_1
    simp only [Int.ofNat_lt, h, decide_true, cond_true, ix_nat h, Int.toNat_natCast, empty_impl _ (hh k h) hn, Option.bind_some, w64_succ (show k < 9223372036854775807 by omega)]
  · unfold slices_IndexFunc_string_string__impl_BookOk_1_L2
    simp only [Int.lt_irrefl, decide_false, cond_false]
theorem book_impl {n : Nat} (b : SBook) (hz : BookSz b) (hn : 1000000000 < n) : impl_BookOk n b = some (bookB b) := by
  have hl := hz.bills
  have hf := hz.freed
  unfold impl_BookOk bookB
  by_cases h30 : b.Bills.length ≤ 30
  · rw [decide_eq_false (show ¬ (b.Bills.length : Int) > 30 by omega), cond_false, decide_eq_true h30, Bool.true_and]
    unfold impl_BookOk_k2
    have := loop_allS (S := List (Int × Bool)) (X := Int × List (Int × Bool)) (enc := fun k s => (k, s)) (b := fun x J' => impl_BookOk_L5 n (fun t74 => loopN (fun (x : Int) J' => impl_BookOk_L12 n (some (true)) (fun t90 => some (t90)) J' b.Freed (b.Freed.length : Int) x b t74) n ((0 : Int))) (fun t92 => some (t92)) (fun t93 t94 => J' (t93, t94)) b.Bills (b.Bills.length : Int) x.1 b x.2) (len := b.Bills.length) (p := billOk b.Bills)
      (I := fun k s => ∀ q, (mgetI s q).getD false = hasBill b.Bills k q) (no := some false) (yes := some ((List.range b.Freed.length).all (freedOk b))) (fun k s J h hi _ => ?_) (fun s J hi _ => ?_) (n := n) (by omega) (s0 := []) (fun q => by simp [mgetI, hasBill])
    · refine this.trans ?_
      rw [bif_sf]
    · obtain ⟨z1, z2, z3, z4⟩ := hz.each k h
      refine ⟨mputI s (b.Bills.getD k dSBill).Id true, fun _ q => ?_, ?_⟩
      · rw [mgetI_mputI, hasBill_succ, ← hi q]
        by_cases hq : q = (b.Bills.getD k dSBill).Id
        · rw [if_pos hq, decide_eq_true hq.symm, Bool.or_true]; rfl
        · rw [if_neg hq, decide_eq_false (Ne.symm hq), Bool.or_false]
      · unfold impl_BookOk_L5 impl_BookOk_k0 impl_idRight
        cases k with
        | zero =>
          simp only [Int.ofNat_lt, h, decide_true, cond_true, ix_nat h, bd_eq, Int.toNat_natCast, in_impl, Option.bind_some, w64_succ (show 0 < 9223372036854775807 by omega), show ¬ ((0 : Nat) : Int) > 0 by omega, decide_false, cond_false, name_impl _ z1 hn, empty_impl _ z2 hn, held_impl _ z3 z4 hn]
          unfold billOk billBase
          simp only [decide_true, Bool.true_or, bif_not, bif_and', bif_or', bif_and2, bif_or2, Bool.not_not, Bool.and_assoc, Bool.and_true, Bool.true_and, Bool.false_and, Bool.not_false, Bool.not_true, cond_true, cond_false]
        | succ k =>
          have e3 : w64 (((k + 1 : Nat) : Int) - 1) = (k : Int) := by rw [w64_id (by omega) (by omega)]; omega
          simp only [Int.ofNat_lt, h, decide_true, cond_true, ix_nat h, bd_eq, Int.toNat_natCast, in_impl, Option.bind_some, w64_succ (show k + 1 < 9223372036854775807 by omega), show ((k + 1 : Nat) : Int) > 0 by omega, e3, ix_nat (show k < b.Bills.length by omega), name_impl _ z1 hn, empty_impl _ z2 hn, held_impl _ z3 z4 hn]
          unfold billOk billBase
          simp only [decide_false, Nat.succ_ne_zero, Nat.add_sub_cancel, Bool.false_or, bif_not, bif_and', bif_or', bif_and2, bif_or2, Bool.not_not, Bool.and_assoc, Bool.and_true, Bool.true_and, Bool.false_and, Bool.not_false, Bool.not_true, cond_true, cond_false]
    · unfold impl_BookOk_L5
      simp only [Int.lt_irrefl, decide_false, cond_false]
      rw [loop_all (p := freedOk b) (len := b.Freed.length) (no := some false) (yes := some true) (by omega) (fun k J h _ => ?_) (fun J _ => ?_) (by omega)]
      · rw [bif_tf]
      · unfold impl_BookOk_L12 impl_BookOk_k1
        cases k with
        | zero =>
          simp only [Int.ofNat_lt, h, decide_true, cond_true, ix_nat h, bd_eq, Int.toNat_natCast, hi, show ¬ ((0 : Nat) : Int) > 0 by omega, decide_false, cond_false, w64_succ (show 0 < 9223372036854775807 by omega)]
          unfold freedOk
          simp only [decide_true, Bool.true_or, bif_not, bif_and', bif_or', bif_and2, bif_or2, Bool.not_not, Bool.and_assoc, Bool.and_true, Bool.true_and, Bool.false_and, Bool.not_false, Bool.not_true, cond_true, cond_false]
        | succ k =>
          have e3 : w64 (((k + 1 : Nat) : Int) - 1) = (k : Int) := by rw [w64_id (by omega) (by omega)]; omega
          simp only [Int.ofNat_lt, h, decide_true, cond_true, ix_nat h, bd_eq, Int.toNat_natCast, hi, show ((k + 1 : Nat) : Int) > 0 by omega, e3, ix_nat (show k < b.Freed.length by omega), w64_succ (show k + 1 < 9223372036854775807 by omega)]
          unfold freedOk
          simp only [decide_false, Nat.succ_ne_zero, Nat.add_sub_cancel, Bool.false_or, bif_not, bif_and', bif_or', bif_and2, bif_or2, Bool.not_not, Bool.and_assoc, Bool.and_true, Bool.true_and, Bool.false_and, Bool.not_false, Bool.not_true, cond_true, cond_false]
      · unfold impl_BookOk_L12
        simp only [Int.lt_irrefl, decide_false, cond_false]
  · rw [decide_eq_true (show (b.Bills.length : Int) > 30 by omega), cond_true, decide_eq_false h30]
    rfl
end Go.Sm
end

section
set_option linter.unusedSimpArgs false
set_option linter.deprecated false
set_option linter.unusedSectionVars false
set_option linter.unusedVariables false
set_option linter.unusedSimpArgs false
namespace Go.Sm
attribute [local irreducible] bd chk ix loopN
def firstHeld (l : List ByteArray) : ByteArray := match (List.range l.length).find? (fun k => !decide (l.getD k (str []) = str [])) with
  | some k => l.getD k (str [])
  | none => str []
def titleAt (x : SBill) : ByteArray × Bool := bif !decide (x.Order = str []) then (x.Order, true) else (firstHeld x.Held, true)
def isFreed (b : SBook) (id : Int) : Bool := (List.range b.Freed.length).any fun k => decide (b.Freed.getD k 0 = id)
def titleR (b : SBook) (id : Int) : ByteArray × Bool :=
  bif bookB b && (hasBill b.Bills b.Bills.length id && !isFreed b id) then titleAt (b.Bills.getD (idxOf (fun j => decide ((b.Bills.getD j dSBill).Id = id)) b.Bills.length).toNat dSBill) else (str [], false)
theorem has_spec {n : Nat} (l : List Int) (x : Int) (hl : l.length ≤ 100000000) (hn : 1000000000 < n) : spec_l9Has n l x = some ((List.range l.length).any fun k => decide (l.getD k 0 = x)) := by
  unfold spec_l9Has
  rw [loop_find (p := fun k => decide (l.getD k 0 = x)) (len := l.length) (yes := fun _ => some true) (no := some false) (by omega) (fun k J h _ => ?_) (fun J _ => ?_) (by omega)]
  · rcases find_range (fun k => decide (l.getD k 0 = x)) l.length with ⟨h1, h2⟩ | ⟨k, h1, h2, h3, h4⟩
    · rw [h1, show (List.range l.length).any (fun k => decide (l.getD k 0 = x)) = false from by rw [List.any_eq_false]; intro y hy; rw [h2 y (List.mem_range.1 hy)]; simp]
    · rw [h1, any_range_of h2 h3]
  · unfold spec_l9Has_L2
    simp only [Int.ofNat_lt, h, decide_true, cond_true, ix_nat h, Int.toNat_natCast, w64_succ (show k < 9223372036854775807 by omega)]
  · unfold spec_l9Has_L2
    simp only [Int.lt_irrefl, decide_false, cond_false]
theorem contains_impl {n : Nat} (l : List Int) (x : Int) (hl : l.length ≤ 100000000) (hn : 1000000000 < n) : slices_Contains_int_int n l x = some ((List.range l.length).any fun k => decide (l.getD k 0 = x)) := by
  unfold slices_Contains_int_int slices_Index_int_int
  rw [loop_idx (p := fun k => decide (l.getD k 0 = x)) (len := l.length) (by omega) (fun k J h _ => ?_) (fun J _ => ?_) (by omega)]
  · rw [Option.bind_some, idxOf_ge]
  · unfold slices_Index_int_int_L2
    simp only [Int.ofNat_lt, h, decide_true, cond_true, ix_nat h, Int.toNat_natCast, w64_succ (show k < 9223372036854775807 by omega)]
    rw [show decide (x = l.getD k 0) = decide (l.getD k 0 = x) from by simp only [decide_eq_decide]; exact ⟨Eq.symm, Eq.symm⟩]
  · unfold slices_Index_int_int_L2
    simp only [Int.lt_irrefl, decide_false, cond_false]
theorem at_impl {n : Nat} (b : SBook) (id : Int) (h : b.Bills.length ≤ 100000000) (hn : 1000000000 < n) : impl_Book_at n b id = some (idxOf (fun j => decide ((b.Bills.getD j dSBill).Id = id)) b.Bills.length) := by
  unfold impl_Book_at slices_IndexFunc_impl_Bill_impl_Bill__impl_Book_at_1
  rw [loop_idx (p := fun j => decide ((b.Bills.getD j dSBill).Id = id)) (len := b.Bills.length) (by omega) (fun k J h _ => ?_) (fun J _ => ?_) (by omega)]
  · rfl
  · unfold slices_IndexFunc_impl_Bill_impl_Bill__impl_Book_at_1_L2 impl_Book_at_1
    simp only [Int.ofNat_lt, h, decide_true, cond_true, ix_nat h, bd_eq, Option.bind_some, Int.toNat_natCast, w64_succ (show k < 9223372036854775807 by omega)]
  · unfold slices_IndexFunc_impl_Bill_impl_Bill__impl_Book_at_1_L2
    simp only [Int.lt_irrefl, decide_false, cond_false]
theorem first_of {l : List ByteArray} : (match (List.range l.length).find? (fun k => !decide (l.getD k (str []) = str [])) with | some k => some (l.getD k (str []), true) | none => some (str [], true)) = some (firstHeld l, true) := by
  unfold firstHeld
  cases (List.range l.length).find? (fun k => !decide (l.getD k (str []) = str [])) <;> rfl
theorem title_spec {n : Nat} (b : SBook) (id : Int) (hz : BookSz b) (hn : 1000000000 < n) : spec_TitleOf n b id = some (titleR b id) := by
  have hlt := idxOf_lt (fun j => decide ((b.Bills.getD j dSBill).Id = id)) b.Bills.length
  unfold spec_TitleOf titleR
  rw [find_spec b id hz.bills hn, Option.bind_some, book_spec b hz hn, Option.bind_some, has_spec _ _ hz.freed hn, Option.bind_some, hlt]
  rw [show (List.range b.Bills.length).any (fun j => decide ((b.Bills.getD j dSBill).Id = id)) = hasBill b.Bills b.Bills.length id from rfl]
  rw [show (List.range b.Freed.length).any (fun k => decide (b.Freed.getD k 0 = id)) = isFreed b id from rfl]
  cases h1 : bookB b with
  | false => rfl
  | true =>
    cases h2 : hasBill b.Bills b.Bills.length id with
    | false => rfl
    | true =>
      cases h3 : isFreed b id with
      | true => rfl
      | false =>
        simp only [Bool.not_true, Bool.not_false, cond_false, cond_true, Bool.and_true]
        rcases idxOf_spec (fun j => decide ((b.Bills.getD j dSBill).Id = id)) b.Bills.length with ⟨g1, g2⟩ | ⟨k, g1, g2, g3, g4⟩
        · exfalso
          rw [g1, show (List.range b.Bills.length).any (fun j => decide ((b.Bills.getD j dSBill).Id = id)) = true from h2] at hlt
          cases hlt
        · rw [g1]
          unfold spec_TitleOf_k0
          rw [ix_nat g2, bd_eq, Int.toNat_natCast]
          unfold titleAt
          cases decide ((b.Bills.getD k dSBill).Order = str []) with
          | false => rfl
          | true =>
            simp only [Bool.not_true, cond_false]
            obtain ⟨_, _, z3, _⟩ := hz.each k g2
            rw [loop_find (p := fun j => !decide ((b.Bills.getD k dSBill).Held.getD j (str []) = str [])) (len := (b.Bills.getD k dSBill).Held.length) (yes := fun j => some ((b.Bills.getD k dSBill).Held.getD j (str []), true)) (no := some (str [], true)) (by omega) (fun j J h _ => ?_) (fun J _ => ?_) (by omega)]
            · exact first_of
            · unfold spec_TitleOf_L8
              simp only [Int.ofNat_lt, h, decide_true, cond_true, ix_nat h, Int.toNat_natCast, w64_succ (show j < 9223372036854775807 by omega)]
            · unfold spec_TitleOf_L8
              simp only [Int.lt_irrefl, decide_false, cond_false]
theorem title_impl {n : Nat} (b : SBook) (id : Int) (hz : BookSz b) (hn : 1000000000 < n) : impl_TitleOf n b id = some (titleR b id) := by
  have hlt := idxOf_lt (fun j => decide ((b.Bills.getD j dSBill).Id = id)) b.Bills.length
  unfold impl_TitleOf titleR
  rw [at_impl b id hz.bills hn, Option.bind_some, book_impl b hz hn, Option.bind_some, contains_impl _ _ hz.freed hn, Option.bind_some, hlt]
  rw [show (List.range b.Bills.length).any (fun j => decide ((b.Bills.getD j dSBill).Id = id)) = hasBill b.Bills b.Bills.length id from rfl]
  rw [show (List.range b.Freed.length).any (fun k => decide (b.Freed.getD k 0 = id)) = isFreed b id from rfl]
  cases h1 : bookB b with
  | false => rfl
  | true =>
    cases h2 : hasBill b.Bills b.Bills.length id with
    | false => rfl
    | true =>
      cases h3 : isFreed b id with
      | true => rfl
      | false =>
        simp only [Bool.not_true, Bool.not_false, cond_false, cond_true, Bool.and_true]
        rcases idxOf_spec (fun j => decide ((b.Bills.getD j dSBill).Id = id)) b.Bills.length with ⟨g1, g2⟩ | ⟨k, g1, g2, g3, g4⟩
        · exfalso
          rw [g1, show (List.range b.Bills.length).any (fun j => decide ((b.Bills.getD j dSBill).Id = id)) = true from h2] at hlt
          cases hlt
        · rw [g1]
          unfold impl_TitleOf_k0
          rw [ix_nat g2, bd_eq, Int.toNat_natCast]
          unfold titleAt
          cases decide ((b.Bills.getD k dSBill).Order = str []) with
          | false => rfl
          | true =>
            simp only [Bool.not_true, cond_false]
            obtain ⟨_, _, z3, _⟩ := hz.each k g2
            rw [loop_find (p := fun j => !decide ((b.Bills.getD k dSBill).Held.getD j (str []) = str [])) (len := (b.Bills.getD k dSBill).Held.length) (yes := fun j => some ((b.Bills.getD k dSBill).Held.getD j (str []), true)) (no := some (str [], true)) (by omega) (fun j J h _ => ?_) (fun J _ => ?_) (by omega)]
            · exact first_of
            · unfold impl_TitleOf_L10
              simp only [Int.ofNat_lt, h, decide_true, cond_true, ix_nat h, Int.toNat_natCast, w64_succ (show j < 9223372036854775807 by omega)]
            · unfold impl_TitleOf_L10
              simp only [Int.lt_irrefl, decide_false, cond_false]
theorem laws_FnExactTitleOf_true (aB0 : SBook) (aId1 : Int) (h0 : wfSBook aB0) (h1 : rng (-9223372036854775808) 9223372036854775807 aId1) : ∃ n, laws_FnExactTitleOf n aB0 aId1 = some true := by
  refine ⟨1000000001, ?_⟩
  generalize hN : (1000000001 : Nat) = n
  have hn : 1000000000 < n := by omega
  unfold laws_FnExactTitleOf
  rw [laws_szBook_ok (n := n) aB0 (left := 1048576) h0 (by omega) (by omega) hn, Option.bind_some]
  refine guard_sz fun hw => ?_
  unfold laws_FnExactTitleOf_k0
  simp only [laws_toBook_ok aB0 (by omega) hn, Option.bind_some, title_spec aB0 aId1 (bookSz aB0 (by omega)) hn, title_impl aB0 aId1 (bookSz aB0 (by omega)) hn, laws_eqBook_ok aB0 (by omega) hn, decide_true, beq_self_eq_true, Bool.not_true, cond_false]
end Go.Sm
end
