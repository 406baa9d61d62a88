import Derived.Test.YtefibegfcfbcjaaEngA
/- The functions as plain functions over data, and that the law answers true for all arguments. PortOk: the written-out check and the built one answer alike for every port. -/
section
set_option linter.unusedSimpArgs false
set_option linter.deprecated false
set_option linter.unusedSectionVars false
set_option linter.unusedVariables false
namespace Go.Sm
structure SCall where
  Id : Int
  Long : Int
  From : Int
  To : Int
  At : Int
structure SYard where
  High : Int
  Stacks : List (List Int)
structure SBill where
  Id : Int
  Shipper : ByteArray
  Order : ByteArray
  Many : Int
  Held : List ByteArray
structure SBook where
  Bills : List SBill
  Freed : List Int
structure SLot where
  Id : Int
  Owner : Int
  Many : Int
  Value : Int
  Rate : Int
  State : Int
  Bond : Int
structure STrader where
  Money : Int
  Bond : Int
  Bound : Int
structure SHouse where
  Lots : List SLot
  Traders : List STrader
  Taken : Int
structure SPort where
  Long : Int
  Calls : List SCall
  Yard : SYard
  Book : SBook
  House : SHouse
def dSCall : SCall := ⟨(0 : Int), (0 : Int), (0 : Int), (0 : Int), (0 : Int)⟩
def dSYard : SYard := ⟨(0 : Int), []⟩
def dSBill : SBill := ⟨(0 : Int), str [], str [], (0 : Int), []⟩
def dSBook : SBook := ⟨[], []⟩
def dSLot : SLot := ⟨(0 : Int), (0 : Int), (0 : Int), (0 : Int), (0 : Int), (0 : Int), (0 : Int)⟩
def dSTrader : STrader := ⟨(0 : Int), (0 : Int), (0 : Int)⟩
def dSHouse : SHouse := ⟨[], [], (0 : Int)⟩
def dSPort : SPort := ⟨(0 : Int), [], dSYard, dSBook, dSHouse⟩
def laws_szCallS (n : Nat) (a0 : List SCall) (left1 : Int) : Option Int :=
  (bd (w64 (left1 - (a0.length : Int))) fun (v1 : Int) => (bif (decide (v1 < (0 : Int))) then some ((-1 : Int)) else some (v1)))
def laws_szIntS (n : Nat) (a0 : List Int) (left1 : Int) : Option Int :=
  (bd (w64 (left1 - (a0.length : Int))) fun (v1 : Int) => (bif (decide (v1 < (0 : Int))) then some ((-1 : Int)) else some (v1)))
def laws_szIntSS_L5 {R : Type} (n : Nat) (kx0 : Int → Option R) (kxr : Int → Option R) (J : Int → Int → Option R) (a3 : List (List Int)) (left4 : Int) (i5 : Int) : Option R :=
  (bif (decide (i5 < (a3.length : Int))) then ix i5 a3.length ((laws_szIntS n (a3.getD i5.toNat []) left4).bind fun r11 => (bif (decide (r11 < (0 : Int))) then kxr (-1 : Int) else J r11 (w64 (i5 + (1 : Int))))) else kx0 left4)
def laws_szIntSS (n : Nat) (a0 : List (List Int)) (left1 : Int) : Option Int :=
  (bd (w64 (left1 - (a0.length : Int))) fun (v1 : Int) => (bif (decide (v1 < (0 : Int))) then some ((-1 : Int)) else loopN (fun (x : Int × Int) J' => laws_szIntSS_L5 n (fun left18 => some (left18)) (fun t19 => some (t19)) (fun left20 i21 => J' (left20, i21)) a0 x.1 x.2) n (v1, (0 : Int))))
def laws_szYard (n : Nat) (a0 : SYard) (left1 : Int) : Option Int :=
  (laws_szIntSS n a0.Stacks left1).bind fun r1 => (bif (decide (r1 < (0 : Int))) then some ((-1 : Int)) else some (r1))
def laws_szStringS_L5 {R : Type} (n : Nat) (kx0 : Int → Option R) (kxr : Int → Option R) (J : Int → Int → Option R) (a3 : List ByteArray) (left4 : Int) (i5 : Int) : Option R :=
  (bif (decide (i5 < (a3.length : Int))) then ix i5 a3.length ((bd (w64 (left4 - ((a3.getD i5.toNat (str [])).size : Int))) fun (v11 : Int) => (bif (decide (v11 < (0 : Int))) then kxr (-1 : Int) else J v11 (w64 (i5 + (1 : Int)))))) else kx0 left4)
def laws_szStringS (n : Nat) (a0 : List ByteArray) (left1 : Int) : Option Int :=
  (bd (w64 (left1 - (a0.length : Int))) fun (v1 : Int) => (bif (decide (v1 < (0 : Int))) then some ((-1 : Int)) else loopN (fun (x : Int × Int) J' => laws_szStringS_L5 n (fun left18 => some (left18)) (fun t19 => some (t19)) (fun left20 i21 => J' (left20, i21)) a0 x.1 x.2) n (v1, (0 : Int))))
def laws_szBill (n : Nat) (a0 : SBill) (left1 : Int) : Option Int :=
  (bd (w64 (left1 - (a0.Shipper.size : Int))) fun (v1 : Int) => (bif (decide (v1 < (0 : Int))) then some ((-1 : Int)) else (bd (w64 (v1 - (a0.Order.size : Int))) fun (v9 : Int) => (bif (decide (v9 < (0 : Int))) then some ((-1 : Int)) else (laws_szStringS n a0.Held v9).bind fun r11 => (bif (decide (r11 < (0 : Int))) then some ((-1 : Int)) else some (r11))))))
def laws_szBillS_L5 {R : Type} (n : Nat) (kx0 : Int → Option R) (kxr : Int → Option R) (J : Int → Int → Option R) (a3 : List SBill) (left4 : Int) (i5 : Int) : Option R :=
  (bif (decide (i5 < (a3.length : Int))) then ix i5 a3.length ((bd (a3.getD i5.toNat dSBill) fun (e12 : SBill) => (laws_szBill n e12 left4).bind fun r13 => (bif (decide (r13 < (0 : Int))) then kxr (-1 : Int) else J r13 (w64 (i5 + (1 : Int)))))) else kx0 left4)
def laws_szBillS (n : Nat) (a0 : List SBill) (left1 : Int) : Option Int :=
  (bd (w64 (left1 - (a0.length : Int))) fun (v1 : Int) => (bif (decide (v1 < (0 : Int))) then some ((-1 : Int)) else loopN (fun (x : Int × Int) J' => laws_szBillS_L5 n (fun left20 => some (left20)) (fun t21 => some (t21)) (fun left22 i23 => J' (left22, i23)) a0 x.1 x.2) n (v1, (0 : Int))))
def laws_szBook (n : Nat) (a0 : SBook) (left1 : Int) : Option Int :=
  (laws_szBillS n a0.Bills left1).bind fun r1 => (bif (decide (r1 < (0 : Int))) then some ((-1 : Int)) else (laws_szIntS n a0.Freed r1).bind fun r5 => (bif (decide (r5 < (0 : Int))) then some ((-1 : Int)) else some (r5)))
def laws_szLotS (n : Nat) (a0 : List SLot) (left1 : Int) : Option Int :=
  (bd (w64 (left1 - (a0.length : Int))) fun (v1 : Int) => (bif (decide (v1 < (0 : Int))) then some ((-1 : Int)) else some (v1)))
def laws_szTraderS (n : Nat) (a0 : List STrader) (left1 : Int) : Option Int :=
  (bd (w64 (left1 - (a0.length : Int))) fun (v1 : Int) => (bif (decide (v1 < (0 : Int))) then some ((-1 : Int)) else some (v1)))
def laws_szHouse (n : Nat) (a0 : SHouse) (left1 : Int) : Option Int :=
  (laws_szLotS n a0.Lots left1).bind fun r1 => (bif (decide (r1 < (0 : Int))) then some ((-1 : Int)) else (laws_szTraderS n a0.Traders r1).bind fun r5 => (bif (decide (r5 < (0 : Int))) then some ((-1 : Int)) else some (r5)))
def laws_szPort_k0 (n : Nat)  (left2 : Int) (a0 : SPort) : Option Int :=
  (laws_szYard n a0.Yard left2).bind fun r3 => (bif (decide (r3 < (0 : Int))) then some ((-1 : Int)) else (laws_szBook n a0.Book r3).bind fun r11 => (bif (decide (r11 < (0 : Int))) then some ((-1 : Int)) else (laws_szHouse n a0.House r11).bind fun r13 => (bif (decide (r13 < (0 : Int))) then some ((-1 : Int)) else some (r13))))
def laws_szPort (n : Nat) (a0 : SPort) (left1 : Int) : Option Int :=
  (laws_szCallS n a0.Calls left1).bind fun r1 => (bif (decide (r1 < (0 : Int))) then some ((-1 : Int)) else laws_szPort_k0 n  r1 a0)
def laws_toCall (n : Nat) (a0 : SCall) : Option SCall :=
  some (a0)
def laws_toCallS_L3 {R : Type} (n : Nat) (kx0 : List SCall → Option R) (J : Int → List SCall → Option R) (a1 : List SCall) (i2 : Int) (out3 : List SCall) : Option R :=
  (bif (decide (i2 < (a1.length : Int))) then ix i2 a1.length ((bd (a1.getD i2.toNat dSCall) fun (e8 : SCall) => (laws_toCall n e8).bind fun r9 => ix i2 out3.length (chk (decide (i2.toNat < out3.length)) (J (w64 (i2 + (1 : Int))) (out3.set i2.toNat r9))))) else kx0 out3)
def laws_toCallS (n : Nat) (a0 : List SCall) : Option (List SCall) :=
  chk (decide ((0 : Int) ≤ (a0.length : Int))) (chk (decide ((a0.length : Int) ≤ (a0.length : Int))) (chk (decide ((a0.length : Int) ≤ 9223372036854775807 ∧ (a0.length : Int) * (40 : Int) ≤ 281474976710656)) (loopN (fun (x : Int × List SCall) J' => laws_toCallS_L3 n (fun out10 => some (out10)) (fun i11 out12 => J' (i11, out12)) a0 x.1 x.2) n ((0 : Int), (List.replicate (a0.length : Int).toNat dSCall)))))
def laws_toIntS_L3 {R : Type} (n : Nat) (kx0 : List Int → Option R) (J : Int → List Int → Option R) (a1 : List Int) (i2 : Int) (out3 : List Int) : Option R :=
  (bif (decide (i2 < (a1.length : Int))) then ix i2 a1.length (ix i2 out3.length (chk (decide (i2.toNat < out3.length)) ((bd (out3.set i2.toNat (a1.getD i2.toNat (0 : Int))) fun (l7 : List Int) => J (w64 (i2 + (1 : Int))) l7)))) else kx0 out3)
def laws_toIntS (n : Nat) (a0 : List Int) : Option (List Int) :=
  chk (decide ((0 : Int) ≤ (a0.length : Int))) (chk (decide ((a0.length : Int) ≤ (a0.length : Int))) (chk (decide ((a0.length : Int) ≤ 9223372036854775807 ∧ (a0.length : Int) * (8 : Int) ≤ 281474976710656)) (loopN (fun (x : Int × List Int) J' => laws_toIntS_L3 n (fun out8 => some (out8)) (fun i9 out10 => J' (i9, out10)) a0 x.1 x.2) n ((0 : Int), (List.replicate (a0.length : Int).toNat (0 : Int))))))
def laws_toIntSS_L3 {R : Type} (n : Nat) (kx0 : List (List Int) → Option R) (J : Int → List (List Int) → Option R) (a1 : List (List Int)) (i2 : Int) (out3 : List (List Int)) : Option R :=
  (bif (decide (i2 < (a1.length : Int))) then ix i2 a1.length ((laws_toIntS n (a1.getD i2.toNat [])).bind fun r7 => ix i2 out3.length (chk (decide (i2.toNat < out3.length)) (J (w64 (i2 + (1 : Int))) (out3.set i2.toNat r7)))) else kx0 out3)
def laws_toIntSS (n : Nat) (a0 : List (List Int)) : Option (List (List Int)) :=
  chk (decide ((0 : Int) ≤ (a0.length : Int))) (chk (decide ((a0.length : Int) ≤ (a0.length : Int))) (chk (decide ((a0.length : Int) ≤ 9223372036854775807 ∧ (a0.length : Int) * (24 : Int) ≤ 281474976710656)) (loopN (fun (x : Int × List (List Int)) J' => laws_toIntSS_L3 n (fun out8 => some (out8)) (fun i9 out10 => J' (i9, out10)) a0 x.1 x.2) n ((0 : Int), (List.replicate (a0.length : Int).toNat [])))))
def laws_toYard (n : Nat) (a0 : SYard) : Option SYard :=
  (laws_toIntSS n a0.Stacks).bind fun r1 => some ((⟨a0.High, r1⟩ : SYard))
def laws_toStringS_L3 {R : Type} (n : Nat) (kx0 : List ByteArray → Option R) (J : Int → List ByteArray → Option R) (a1 : List ByteArray) (i2 : Int) (out3 : List ByteArray) : Option R :=
  (bif (decide (i2 < (a1.length : Int))) then ix i2 a1.length (ix i2 out3.length (chk (decide (i2.toNat < out3.length)) ((bd (out3.set i2.toNat (a1.getD i2.toNat (str []))) fun (l7 : List ByteArray) => J (w64 (i2 + (1 : Int))) l7)))) else kx0 out3)
def laws_toStringS (n : Nat) (a0 : List ByteArray) : Option (List ByteArray) :=
  chk (decide ((0 : Int) ≤ (a0.length : Int))) (chk (decide ((a0.length : Int) ≤ (a0.length : Int))) (chk (decide ((a0.length : Int) ≤ 9223372036854775807 ∧ (a0.length : Int) * (16 : Int) ≤ 281474976710656)) (loopN (fun (x : Int × List ByteArray) J' => laws_toStringS_L3 n (fun out8 => some (out8)) (fun i9 out10 => J' (i9, out10)) a0 x.1 x.2) n ((0 : Int), (List.replicate (a0.length : Int).toNat (str []))))))
def laws_toBill (n : Nat) (a0 : SBill) : Option SBill :=
  (laws_toStringS n a0.Held).bind fun r1 => some ((⟨a0.Id, a0.Shipper, a0.Order, a0.Many, r1⟩ : SBill))
def laws_toBillS_L3 {R : Type} (n : Nat) (kx0 : List SBill → Option R) (J : Int → List SBill → Option R) (a1 : List SBill) (i2 : Int) (out3 : List SBill) : Option R :=
  (bif (decide (i2 < (a1.length : Int))) then ix i2 a1.length ((bd (a1.getD i2.toNat dSBill) fun (e8 : SBill) => (laws_toBill n e8).bind fun r9 => ix i2 out3.length (chk (decide (i2.toNat < out3.length)) (J (w64 (i2 + (1 : Int))) (out3.set i2.toNat r9))))) else kx0 out3)
def laws_toBillS (n : Nat) (a0 : List SBill) : Option (List SBill) :=
  chk (decide ((0 : Int) ≤ (a0.length : Int))) (chk (decide ((a0.length : Int) ≤ (a0.length : Int))) (chk (decide ((a0.length : Int) ≤ 9223372036854775807 ∧ (a0.length : Int) * (72 : Int) ≤ 281474976710656)) (loopN (fun (x : Int × List SBill) J' => laws_toBillS_L3 n (fun out10 => some (out10)) (fun i11 out12 => J' (i11, out12)) a0 x.1 x.2) n ((0 : Int), (List.replicate (a0.length : Int).toNat dSBill)))))
def laws_toBook (n : Nat) (a0 : SBook) : Option SBook :=
  (laws_toBillS n a0.Bills).bind fun r1 => (laws_toIntS n a0.Freed).bind fun r2 => some ((⟨r1, r2⟩ : SBook))
def laws_toLot (n : Nat) (a0 : SLot) : Option SLot :=
  some (a0)
def laws_toLotS_L3 {R : Type} (n : Nat) (kx0 : List SLot → Option R) (J : Int → List SLot → Option R) (a1 : List SLot) (i2 : Int) (out3 : List SLot) : Option R :=
  (bif (decide (i2 < (a1.length : Int))) then ix i2 a1.length ((bd (a1.getD i2.toNat dSLot) fun (e8 : SLot) => (laws_toLot n e8).bind fun r9 => ix i2 out3.length (chk (decide (i2.toNat < out3.length)) (J (w64 (i2 + (1 : Int))) (out3.set i2.toNat r9))))) else kx0 out3)
def laws_toLotS (n : Nat) (a0 : List SLot) : Option (List SLot) :=
  chk (decide ((0 : Int) ≤ (a0.length : Int))) (chk (decide ((a0.length : Int) ≤ (a0.length : Int))) (chk (decide ((a0.length : Int) ≤ 9223372036854775807 ∧ (a0.length : Int) * (56 : Int) ≤ 281474976710656)) (loopN (fun (x : Int × List SLot) J' => laws_toLotS_L3 n (fun out10 => some (out10)) (fun i11 out12 => J' (i11, out12)) a0 x.1 x.2) n ((0 : Int), (List.replicate (a0.length : Int).toNat dSLot)))))
def laws_toTrader (n : Nat) (a0 : STrader) : Option STrader :=
  some (a0)
def laws_toTraderS_L3 {R : Type} (n : Nat) (kx0 : List STrader → Option R) (J : Int → List STrader → Option R) (a1 : List STrader) (i2 : Int) (out3 : List STrader) : Option R :=
  (bif (decide (i2 < (a1.length : Int))) then ix i2 a1.length ((bd (a1.getD i2.toNat dSTrader) fun (e8 : STrader) => (laws_toTrader n e8).bind fun r9 => ix i2 out3.length (chk (decide (i2.toNat < out3.length)) (J (w64 (i2 + (1 : Int))) (out3.set i2.toNat r9))))) else kx0 out3)
def laws_toTraderS (n : Nat) (a0 : List STrader) : Option (List STrader) :=
  chk (decide ((0 : Int) ≤ (a0.length : Int))) (chk (decide ((a0.length : Int) ≤ (a0.length : Int))) (chk (decide ((a0.length : Int) ≤ 9223372036854775807 ∧ (a0.length : Int) * (24 : Int) ≤ 281474976710656)) (loopN (fun (x : Int × List STrader) J' => laws_toTraderS_L3 n (fun out10 => some (out10)) (fun i11 out12 => J' (i11, out12)) a0 x.1 x.2) n ((0 : Int), (List.replicate (a0.length : Int).toNat dSTrader)))))
def laws_toHouse (n : Nat) (a0 : SHouse) : Option SHouse :=
  (laws_toLotS n a0.Lots).bind fun r1 => (laws_toTraderS n a0.Traders).bind fun r2 => some ((⟨r1, r2, a0.Taken⟩ : SHouse))
def laws_toPort (n : Nat) (a0 : SPort) : Option SPort :=
  (laws_toCallS n a0.Calls).bind fun r1 => (laws_toYard n a0.Yard).bind fun r2 => (laws_toBook n a0.Book).bind fun r3 => (laws_toHouse n a0.House).bind fun r4 => some ((⟨a0.Long, r1, r2, r3, r4⟩ : SPort))
def spec_l17Meet (n : Nat) (a0 : SCall) (b1 : SCall) : Option Bool :=
  (bif (decide (a0.At ≥ (0 : Int))) then (bif (decide (b1.At ≥ (0 : Int))) then (bif (decide (a0.From < b1.To)) then (bif (decide (b1.From < a0.To)) then (bif (decide (a0.At < (w64 (b1.At + b1.Long)))) then some ((decide (b1.At < (w64 (a0.At + a0.Long))))) else some (false)) else some (false)) else some (false)) else some (false)) else some (false))
def spec_l1In (n : Nat) (x0 : Int) (a1 : Int) (b2 : Int) : Option Bool :=
  (bif (decide (x0 ≥ a1)) then some ((decide (x0 ≤ b2))) else some (false))
def spec_l1Minute (n : Nat) (x0 : Int) : Option Bool :=
  (spec_l1In n x0 (0 : Int) (100000000 : Int)).bind fun r1 => some (r1)
def spec_CallsOk_k0 {R : Type} (n : Nat) (kx0 : Option R) (kxr : Bool → Option R) (J : Int → Option R) (long3 : Int) (calls4 : List SCall) (i6 : Int) : Option R :=
  ix i6 calls4.length ((bd (calls4.getD i6.toNat dSCall) fun (e7 : SCall) => (spec_l1In n e7.Id (1 : Int) (1000000 : Int)).bind fun r8 => (bif (!r8) then kxr false else (bif (decide (i6 > (0 : Int))) then ix (w64 (i6 - (1 : Int))) calls4.length ((bd (calls4.getD ((w64 (i6 - (1 : Int))).toNat) dSCall) fun (e10 : SCall) => (bif (decide (e10.Id ≥ e7.Id)) then kxr false else (spec_l1In n e7.Long (1 : Int) (1000 : Int)).bind fun r12 => (bif (!r12) then kxr false else (spec_l1Minute n e7.From).bind fun r14 => (bif (!r14) then kxr false else (spec_l1Minute n e7.To).bind fun r16 => (bif (!r16) then kxr false else (bif (decide (e7.From ≥ e7.To)) then kxr false else (spec_l1In n e7.At (-1 : Int) (1000 : Int)).bind fun r19 => (bif (!r19) then kxr false else (bif (decide (e7.At ≥ (0 : Int))) then (bif (decide ((w64 (e7.At + e7.Long)) > long3)) then kxr false else J (w64 (i6 + (1 : Int)))) else J (w64 (i6 + (1 : Int)))))))))))) else (spec_l1In n e7.Long (1 : Int) (1000 : Int)).bind fun r28 => (bif (!r28) then kxr false else (spec_l1Minute n e7.From).bind fun r30 => (bif (!r30) then kxr false else (spec_l1Minute n e7.To).bind fun r32 => (bif (!r32) then kxr false else (bif (decide (e7.From ≥ e7.To)) then kxr false else (spec_l1In n e7.At (-1 : Int) (1000 : Int)).bind fun r35 => (bif (!r35) then kxr false else (bif (decide (e7.At ≥ (0 : Int))) then (bif (decide ((w64 (e7.At + e7.Long)) > long3)) then kxr false else J (w64 (i6 + (1 : Int)))) else J (w64 (i6 + (1 : Int)))))))))))))
def spec_CallsOk_L4 {R : Type} (n : Nat) (kx0 : Option R) (kxr : Bool → Option R) (J : Int → Option R) (long3 : Int) (calls4 : List SCall) (i5 : Int) : Option R :=
  (bif (decide (i5 < (calls4.length : Int))) then spec_CallsOk_k0 n kx0 kxr J long3 calls4 i5 else kx0)
def spec_CallsOk (n : Nat) (long0 : Int) (calls1 : List SCall) : Option Bool :=
  (spec_l1In n long0 (1 : Int) (1000 : Int)).bind fun r1 => (bif (!r1) then some (false) else (bif (decide ((calls1.length : Int) > (24 : Int))) then some (false) else loopN (fun (x : Int) J' => spec_CallsOk_L4 n (some (true)) (fun t46 => some (t46)) J' long0 calls1 x) n ((0 : Int))))
def spec_Clear17_L5 {R : Type} (n : Nat) (kx2 : Option R) (kxr : Bool → Option R) (J : Int → Option R) (long5 : Int) (calls6 : List SCall) (i7 : Int) (k8 : Int) : Option R :=
  (bif (decide (k8 < i7)) then ix i7 calls6.length ((bd (calls6.getD i7.toNat dSCall) fun (e14 : SCall) => ix k8 calls6.length ((bd (calls6.getD k8.toNat dSCall) fun (e15 : SCall) => (spec_l17Meet n e14 e15).bind fun r16 => (bif r16 then kxr false else J (w64 (k8 + (1 : Int)))))))) else kx2)
def spec_Clear17_L2 {R : Type} (n : Nat) (kx0 : Option R) (kxr : Bool → Option R) (J : Int → Option R) (long1 : Int) (calls2 : List SCall) (i3 : Int) : Option R :=
  (bif (decide (i3 < (calls2.length : Int))) then loopN (fun (x : Int) J' => spec_Clear17_L5 n (J (w64 (i3 + (1 : Int)))) (fun t20 => kxr t20) J' long1 calls2 i3 x) n ((0 : Int)) else kx0)
def spec_Clear17 (n : Nat) (long0 : Int) (calls1 : List SCall) : Option Bool :=
  loopN (fun (x : Int) J' => spec_Clear17_L2 n ((spec_CallsOk n long0 calls1).bind fun r22 => some (r22)) (fun t23 => some (t23)) J' long0 calls1 x) n ((0 : Int))
def spec_l18Count_L6 {R : Type} (n : Nat) (kx2 : Int → Option R) (J : Int → Int → Option R) (box7 : Int) (n8 : Int) (s9 : Int) (t10 : Int) (y11 : SYard) : Option R :=
  ix s9 y11.Stacks.length ((bif (decide (t10 < ((y11.Stacks.getD s9.toNat []).length : Int))) then ix s9 y11.Stacks.length (ix t10 ((y11.Stacks.getD s9.toNat []).length) ((bif (decide (((y11.Stacks.getD s9.toNat []).getD t10.toNat (0 : Int)) = box7)) then J (w64 (n8 + (1 : Int))) (w64 (t10 + (1 : Int))) else J n8 (w64 (t10 + (1 : Int)))))) else kx2 n8))
def spec_l18Count_L3 {R : Type} (n : Nat) (kx0 : Int → Option R) (J : Int → Int → Option R) (box1 : Int) (n2 : Int) (s3 : Int) (y4 : SYard) : Option R :=
  (bif (decide (s3 < (y4.Stacks.length : Int))) then loopN (fun (x : Int × Int) J' => spec_l18Count_L6 n (fun n25 => J n25 (w64 (s3 + (1 : Int)))) (fun n26 t27 => J' (n26, t27)) box1 x.1 s3 x.2 y4) n (n2, (0 : Int)) else kx0 n2)
def spec_l18Count (n : Nat) (y0 : SYard) (box1 : Int) : Option Int :=
  loopN (fun (x : Int × Int) J' => spec_l18Count_L3 n (fun n28 => some (n28)) (fun n29 s30 => J' (n29, s30)) box1 x.1 x.2 y0) n ((0 : Int), (0 : Int))
def spec_YardOk_L4 {R : Type} (n : Nat) (kx0 : Option R) (kxr : Bool → Option R) (J : Int → Option R) (s4 : Int) (y5 : SYard) : Option R :=
  (bif (decide (s4 < (y5.Stacks.length : Int))) then ix s4 y5.Stacks.length ((bif (decide (((y5.Stacks.getD s4.toNat []).length : Int) > y5.High)) then kxr false else J (w64 (s4 + (1 : Int))))) else kx0)
def spec_YardOk_k0 {R : Type} (n : Nat) (kx4 : Option R) (kxr : Bool → Option R) (J : Int → Option R) (s12 : Int) (t15 : Int) (y14 : SYard) : Option R :=
  ix s12 y14.Stacks.length (ix t15 ((y14.Stacks.getD s12.toNat []).length) ((spec_l1In n ((y14.Stacks.getD s12.toNat []).getD t15.toNat (0 : Int)) (1 : Int) (1000000 : Int)).bind fun r16 => (bif (!r16) then kxr false else ix s12 y14.Stacks.length (ix t15 ((y14.Stacks.getD s12.toNat []).length) ((spec_l18Count n y14 ((y14.Stacks.getD s12.toNat []).getD t15.toNat (0 : Int))).bind fun r18 => (bif (!(decide (r18 = (1 : Int)))) then kxr false else J (w64 (t15 + (1 : Int)))))))))
def spec_YardOk_L12 {R : Type} (n : Nat) (kx4 : Option R) (kxr : Bool → Option R) (J : Int → Option R) (s12 : Int) (t13 : Int) (y14 : SYard) : Option R :=
  ix s12 y14.Stacks.length ((bif (decide (t13 < ((y14.Stacks.getD s12.toNat []).length : Int))) then spec_YardOk_k0 n kx4 kxr J s12 t13 y14 else kx4))
def spec_YardOk_L9 {R : Type} (n : Nat) (kx2 : Option R) (kxr : Bool → Option R) (J : Int → Option R) (s9 : Int) (y10 : SYard) : Option R :=
  (bif (decide (s9 < (y10.Stacks.length : Int))) then loopN (fun (x : Int) J' => spec_YardOk_L12 n (J (w64 (s9 + (1 : Int)))) (fun t25 => kxr t25) J' s9 x y10) n ((0 : Int)) else kx2)
def spec_YardOk (n : Nat) (y0 : SYard) : Option Bool :=
  (spec_l1In n y0.High (1 : Int) (6 : Int)).bind fun r1 => (bif (!r1) then some (false) else (spec_l1In n (y0.Stacks.length : Int) (1 : Int) (12 : Int)).bind fun r2 => (bif (!r2) then some (false) else loopN (fun (x : Int) J' => spec_YardOk_L4 n (loopN (fun (x : Int) J' => spec_YardOk_L9 n (some (true)) (fun t35 => some (t35)) J' x y0) n ((0 : Int))) (fun t37 => some (t37)) J' x y0) n ((0 : Int))))
def spec_l1Name_k0 {R : Type} (n : Nat) (kx0 : Option R) (kxr : Bool → Option R) (J : Int → Option R) (s1 : ByteArray) (i3 : Int) : Option R :=
  ix i3 s1.size ((spec_l1In n (w64 (byteAt s1 i3.toNat)) (97 : Int) (122 : Int)).bind fun r4 => (bif (!r4) then (spec_l1In n (w64 (byteAt s1 i3.toNat)) (65 : Int) (90 : Int)).bind fun r5 => (bif (!r5) then (spec_l1In n (w64 (byteAt s1 i3.toNat)) (48 : Int) (57 : Int)).bind fun r6 => (bif (!r6) then (bif (!(decide ((w64 (byteAt s1 i3.toNat)) = (45 : Int)))) then kxr false else J (w64 (i3 + (1 : Int)))) else J (w64 (i3 + (1 : Int)))) else J (w64 (i3 + (1 : Int)))) else J (w64 (i3 + (1 : Int)))))
def spec_l1Name_L2 {R : Type} (n : Nat) (kx0 : Option R) (kxr : Bool → Option R) (J : Int → Option R) (s1 : ByteArray) (i2 : Int) : Option R :=
  (bif (decide (i2 < (s1.size : Int))) then spec_l1Name_k0 n kx0 kxr J s1 i2 else kx0)
def spec_l1Name (n : Nat) (s0 : ByteArray) : Option Bool :=
  loopN (fun (x : Int) J' => spec_l1Name_L2 n ((spec_l1In n (s0.size : Int) (1 : Int) (20 : Int)).bind fun r18 => some (r18)) (fun t19 => some (t19)) J' s0 x) n ((0 : Int))
def spec_l14Find_L2 {R : Type} (n : Nat) (kx0 : Option R) (kxr : Int → Option R) (J : Int → Option R) (id1 : Int) (i2 : Int) (b3 : SBook) : Option R :=
  (bif (decide (i2 < (b3.Bills.length : Int))) then ix i2 b3.Bills.length ((bd (b3.Bills.getD i2.toNat dSBill) fun (e7 : SBill) => (bif (decide (e7.Id = id1)) then kxr i2 else J (w64 (i2 + (1 : Int)))))) else kx0)
def spec_l14Find (n : Nat) (b0 : SBook) (id1 : Int) : Option Int :=
  loopN (fun (x : Int) J' => spec_l14Find_L2 n (some ((-1 : Int))) (fun t9 => some (t9)) J' id1 x b0) n ((0 : Int))
def spec_BookOk_k0 {R : Type} (n : Nat) (kx2 : Option R) (kxr : Bool → Option R) (J : Int → Option R) (i25 : Int) (k29 : Int) (b27 : SBook) (x28 : SBill) : Option R :=
  ix k29 x28.Held.length ((bif (!(decide ((x28.Held.getD k29.toNat (str [])) = str []))) then ix k29 x28.Held.length ((spec_l1Name n (x28.Held.getD k29.toNat (str []))).bind fun r30 => (bif (!r30) then kxr false else J (w64 (k29 + (1 : Int))))) else J (w64 (k29 + (1 : Int)))))
def spec_BookOk_L8 {R : Type} (n : Nat) (kx2 : Option R) (kxr : Bool → Option R) (J : Int → Option R) (i25 : Int) (k26 : Int) (b27 : SBook) (x28 : SBill) : Option R :=
  (bif (decide (k26 < (x28.Held.length : Int))) then spec_BookOk_k0 n kx2 kxr J i25 k26 b27 x28 else kx2)
def spec_BookOk_k1 {R : Type} (n : Nat) (kx0 : Option R) (kxr : Bool → Option R) (J : Int → Option R) (i3 : Int) (b2 : SBook) : Option R :=
  ix i3 b2.Bills.length ((bd (b2.Bills.getD i3.toNat dSBill) fun (e4 : SBill) => (spec_l1In n e4.Id (1 : Int) (1000000 : Int)).bind fun r5 => (bif (!r5) then kxr false else (bif (decide (i3 > (0 : Int))) then ix (w64 (i3 - (1 : Int))) b2.Bills.length ((bd (b2.Bills.getD ((w64 (i3 - (1 : Int))).toNat) dSBill) fun (e8 : SBill) => (bif (decide (e8.Id ≥ e4.Id)) then kxr false else (spec_l1Name n e4.Shipper).bind fun r11 => (bif (!r11) then kxr false else (bif (!(decide (e4.Order = str []))) then (spec_l1Name n e4.Order).bind fun r14 => (bif (!r14) then kxr false else (spec_l1In n e4.Many (1 : Int) (5 : Int)).bind fun r17 => (bif (!r17) then kxr false else (bif (!(decide ((e4.Held.length : Int) = e4.Many))) then kxr false else loopN (fun (x : Int) J' => spec_BookOk_L8 n (J (w64 (i3 + (1 : Int)))) (fun t47 => kxr t47) J' i3 x b2 e4) n ((0 : Int))))) else (spec_l1In n e4.Many (1 : Int) (5 : Int)).bind fun r49 => (bif (!r49) then kxr false else (bif (!(decide ((e4.Held.length : Int) = e4.Many))) then kxr false else loopN (fun (x : Int) J' => spec_BookOk_L8 n (J (w64 (i3 + (1 : Int)))) (fun t58 => kxr t58) J' i3 x b2 e4) n ((0 : Int))))))))) else (spec_l1Name n e4.Shipper).bind fun r60 => (bif (!r60) then kxr false else (bif (!(decide (e4.Order = str []))) then (spec_l1Name n e4.Order).bind fun r63 => (bif (!r63) then kxr false else (spec_l1In n e4.Many (1 : Int) (5 : Int)).bind fun r66 => (bif (!r66) then kxr false else (bif (!(decide ((e4.Held.length : Int) = e4.Many))) then kxr false else loopN (fun (x : Int) J' => spec_BookOk_L8 n (J (w64 (i3 + (1 : Int)))) (fun t75 => kxr t75) J' i3 x b2 e4) n ((0 : Int))))) else (spec_l1In n e4.Many (1 : Int) (5 : Int)).bind fun r77 => (bif (!r77) then kxr false else (bif (!(decide ((e4.Held.length : Int) = e4.Many))) then kxr false else loopN (fun (x : Int) J' => spec_BookOk_L8 n (J (w64 (i3 + (1 : Int)))) (fun t86 => kxr t86) J' i3 x b2 e4) n ((0 : Int))))))))))
def spec_BookOk_L2 {R : Type} (n : Nat) (kx0 : Option R) (kxr : Bool → Option R) (J : Int → Option R) (i1 : Int) (b2 : SBook) : Option R :=
  (bif (decide (i1 < (b2.Bills.length : Int))) then spec_BookOk_k1 n kx0 kxr J i1 b2 else kx0)
def spec_BookOk_k2 {R : Type} (n : Nat) (kx4 : Option R) (kxr : Bool → Option R) (J : Int → Option R) (i90 : Int) (b89 : SBook) : Option R :=
  ix i90 b89.Freed.length ((spec_l14Find n b89 (b89.Freed.getD i90.toNat (0 : Int))).bind fun r91 => (bif (decide (r91 < (0 : Int))) then kxr false else (bif (decide (i90 > (0 : Int))) then ix (w64 (i90 - (1 : Int))) b89.Freed.length (ix i90 b89.Freed.length ((bif (decide ((b89.Freed.getD ((w64 (i90 - (1 : Int))).toNat) (0 : Int)) ≥ (b89.Freed.getD i90.toNat (0 : Int)))) then kxr false else J (w64 (i90 + (1 : Int)))))) else J (w64 (i90 + (1 : Int))))))
def spec_BookOk_L13 {R : Type} (n : Nat) (kx4 : Option R) (kxr : Bool → Option R) (J : Int → Option R) (i88 : Int) (b89 : SBook) : Option R :=
  (bif (decide (i88 < (b89.Freed.length : Int))) then spec_BookOk_k2 n kx4 kxr J i88 b89 else kx4)
def spec_BookOk (n : Nat) (b0 : SBook) : Option Bool :=
  loopN (fun (x : Int) J' => spec_BookOk_L2 n (loopN (fun (x : Int) J' => spec_BookOk_L13 n (some ((decide ((b0.Bills.length : Int) ≤ (30 : Int))))) (fun t100 => some (t100)) J' x b0) n ((0 : Int))) (fun t102 => some (t102)) J' x b0) n ((0 : Int))
def spec_Duty6 (n : Nat) (many0 : Int) (value1 : Int) (rate2 : Int) : Option (Int × Bool) :=
  (spec_l1In n many0 (1 : Int) (1000000 : Int)).bind fun r1 => (bif (!r1) then some ((0 : Int), false) else (spec_l1In n value1 (0 : Int) (1000000 : Int)).bind fun r2 => (bif (!r2) then some ((0 : Int), false) else (spec_l1In n rate2 (0 : Int) (5000 : Int)).bind fun r3 => (bif (!r3) then some ((0 : Int), false) else (bd (w64 ((w64 (many0 * value1)) * rate2)) fun (v9 : Int) => (bd (w64 (Int.tdiv v9 (1000 : Int))) fun (v10 : Int) => some (v10, true))))))
def spec_HouseOk_k0 {R : Type} (n : Nat) (kx0 : List Int → Option R) (kxr : Bool → Option R) (J : Int → List Int → Option R) (i43 : Int) (h4 : SHouse) (bound44 : List Int) (x45 : SLot) : Option R :=
  ix x45.Owner bound44.length (chk (decide (x45.Owner.toNat < bound44.length)) ((bd (w64 ((bound44.getD x45.Owner.toNat (0 : Int)) + (0 : Int))) fun (v46 : Int) => ix x45.Owner bound44.length (chk (decide (x45.Owner.toNat < bound44.length)) ((bd (bound44.set x45.Owner.toNat v46) fun (l47 : List Int) => J (w64 (i43 + (1 : Int))) l47))))))
def spec_HouseOk_k1 {R : Type} (n : Nat) (kx0 : List Int → Option R) (kxr : Bool → Option R) (J : Int → List Int → Option R) (i57 : Int) (duty58 : Int) (h4 : SHouse) (bound59 : List Int) (x60 : SLot) : Option R :=
  ix x60.Owner bound59.length (chk (decide (x60.Owner.toNat < bound59.length)) ((bd (w64 ((bound59.getD x60.Owner.toNat (0 : Int)) + duty58)) fun (v61 : Int) => ix x60.Owner bound59.length (chk (decide (x60.Owner.toNat < bound59.length)) ((bd (bound59.set x60.Owner.toNat v61) fun (l62 : List Int) => J (w64 (i57 + (1 : Int))) l62))))))
def spec_HouseOk_k2 {R : Type} (n : Nat) (kx0 : List Int → Option R) (kxr : Bool → Option R) (J : Int → List Int → Option R) (i31 : Int) (duty32 : Int) (t33 : Bool) (h4 : SHouse) (bound34 : List Int) (x35 : SLot) : Option R :=
  (bif t33 then kxr false else (bif (!(decide (x35.State = (3 : Int)))) then (bif (!(decide (x35.Bond = (0 : Int)))) then kxr false else spec_HouseOk_k0 n kx0 kxr J i31 h4 bound34 x35) else (bif (!(decide (x35.Bond = duty32))) then kxr false else spec_HouseOk_k1 n kx0 kxr J i31 duty32 h4 bound34 x35)))
def spec_HouseOk_k3 {R : Type} (n : Nat) (kx0 : List Int → Option R) (kxr : Bool → Option R) (J : Int → List Int → Option R) (i6 : Int) (h4 : SHouse) (bound7 : List Int) : Option R :=
  ix i6 h4.Lots.length ((bd (h4.Lots.getD i6.toNat dSLot) fun (e8 : SLot) => (spec_Duty6 n e8.Many e8.Value e8.Rate).bind fun r9 => (bif (!r9.2) then kxr false else (spec_l1In n e8.Id (1 : Int) (1000000 : Int)).bind fun r14 => (bif (!r14) then kxr false else (bif (decide (i6 > (0 : Int))) then ix (w64 (i6 - (1 : Int))) h4.Lots.length ((bd (h4.Lots.getD ((w64 (i6 - (1 : Int))).toNat) dSLot) fun (e19 : SLot) => (bif (decide (e19.Id ≥ e8.Id)) then kxr false else (bd (w64 ((h4.Traders.length : Int) - (1 : Int))) fun (v24 : Int) => (spec_l1In n e8.Owner (0 : Int) v24).bind fun r25 => (bif (!r25) then kxr false else (spec_l1In n e8.State (1 : Int) (5 : Int)).bind fun r30 => spec_HouseOk_k2 n kx0 kxr J i6 r9.1 (!r30) h4 bound7 e8))))) else (bd (w64 ((h4.Traders.length : Int) - (1 : Int))) fun (v83 : Int) => (spec_l1In n e8.Owner (0 : Int) v83).bind fun r84 => (bif (!r84) then kxr false else (spec_l1In n e8.State (1 : Int) (5 : Int)).bind fun r89 => spec_HouseOk_k2 n kx0 kxr J i6 r9.1 (!r89) h4 bound7 e8)))))))
def spec_HouseOk_L5 {R : Type} (n : Nat) (kx0 : List Int → Option R) (kxr : Bool → Option R) (J : Int → List Int → Option R) (i3 : Int) (h4 : SHouse) (bound5 : List Int) : Option R :=
  (bif (decide (i3 < (h4.Lots.length : Int))) then spec_HouseOk_k3 n kx0 kxr J i3 h4 bound5 else kx0 bound5)
def spec_HouseOk_k4 {R : Type} (n : Nat) (kx2 : Option R) (kxr : Bool → Option R) (J : Int → Option R) (i99 : Int) (h97 : SHouse) (bound98 : List Int) : Option R :=
  ix i99 h97.Traders.length ((bd (h97.Traders.getD i99.toNat dSTrader) fun (e100 : STrader) => (spec_l1In n e100.Money (0 : Int) (1000000000000000 : Int)).bind fun r101 => (bif (!r101) then kxr false else (spec_l1In n e100.Bond (0 : Int) (1000000000000000 : Int)).bind fun r103 => (bif (!r103) then kxr false else (spec_l1In n e100.Bound (0 : Int) e100.Bond).bind fun r105 => (bif (!r105) then kxr false else ix i99 bound98.length (chk (decide (i99.toNat < bound98.length)) ((bif (!(decide (e100.Bound = (bound98.getD i99.toNat (0 : Int))))) then kxr false else J (w64 (i99 + (1 : Int)))))))))))
def spec_HouseOk_L17 {R : Type} (n : Nat) (kx2 : Option R) (kxr : Bool → Option R) (J : Int → Option R) (i96 : Int) (h97 : SHouse) (bound98 : List Int) : Option R :=
  (bif (decide (i96 < (h97.Traders.length : Int))) then spec_HouseOk_k4 n kx2 kxr J i96 h97 bound98 else kx2)
def spec_HouseOk_k5 (n : Nat)  (h0 : SHouse) : Option Bool :=
  chk (decide ((0 : Int) ≤ (h0.Traders.length : Int))) (chk (decide ((h0.Traders.length : Int) ≤ (h0.Traders.length : Int))) (chk (decide ((h0.Traders.length : Int) ≤ 9223372036854775807 ∧ (h0.Traders.length : Int) * (8 : Int) ≤ 281474976710656)) (loopN (fun (x : Int × List Int) J' => spec_HouseOk_L5 n (fun bound95 => loopN (fun (x : Int) J' => spec_HouseOk_L17 n (some (true)) (fun t111 => some (t111)) J' x h0 bound95) n ((0 : Int))) (fun t113 => some (t113)) (fun i114 bound115 => J' (i114, bound115)) x.1 h0 x.2) n ((0 : Int), (List.replicate (h0.Traders.length : Int).toNat (0 : Int))))))
def spec_HouseOk (n : Nat) (h0 : SHouse) : Option Bool :=
  (bif (decide ((h0.Lots.length : Int) > (40 : Int))) then some (false) else (bif (decide ((h0.Traders.length : Int) > (10 : Int))) then some (false) else (spec_l1In n h0.Taken (0 : Int) (1000000000000000 : Int)).bind fun r1 => (bif (!r1) then some (false) else spec_HouseOk_k5 n  h0)))
def spec_PortOk (n : Nat) (p0 : SPort) : Option Bool :=
  (spec_Clear17 n p0.Long p0.Calls).bind fun r1 => (bif r1 then (spec_YardOk n p0.Yard).bind fun r2 => (bif r2 then (spec_BookOk n p0.Book).bind fun r3 => (bif r3 then (spec_HouseOk n p0.House).bind fun r4 => some (r4) else some (false)) else some (false)) else some (false))
def impl_in (n : Nat) (n0 : Int) (least1 : Int) (most2 : Int) : Option Bool :=
  (bif (decide (n0 ≥ least1)) then some ((decide (n0 ≤ most2))) else some (false))
def impl_idRight (n : Nat) (n0 : Int) : Option Bool :=
  (impl_in n n0 (1 : Int) (1000000 : Int)).bind fun r1 => some (r1)
def impl_minuteOk (n : Nat) (n0 : Int) : Option Bool :=
  (impl_in n n0 (0 : Int) (100000000 : Int)).bind fun r1 => some (r1)
def impl_callOk (n : Nat) (long0 : Int) (c1 : SCall) : Option Bool :=
  (impl_idRight n c1.Id).bind fun r1 => (bif r1 then (impl_in n c1.Long (1 : Int) (1000 : Int)).bind fun r2 => (bif r2 then (impl_minuteOk n c1.From).bind fun r3 => (bif r3 then (impl_minuteOk n c1.To).bind fun r4 => (bif r4 then (bif (decide (c1.From < c1.To)) then (bif (decide (c1.At = (-1 : Int))) then some (true) else (impl_in n c1.At (0 : Int) (w64 (long0 - c1.Long))).bind fun r5 => some (r5)) else some (false)) else some (false)) else some (false)) else some (false)) else some (false))
def impl_CallsOk_k0 {R : Type} (n : Nat) (kx0 : Option R) (kxr : Bool → Option R) (J : Int → Option R) (long3 : Int) (calls4 : List SCall) (t5 : List SCall) (t6 : Int) (t8 : Int) : Option R :=
  ix t8 t5.length ((bd (t5.getD t8.toNat dSCall) fun (e9 : SCall) => (impl_callOk n long3 e9).bind fun r10 => (bif (!r10) then kxr false else (bif (decide (t8 > (0 : Int))) then ix (w64 (t8 - (1 : Int))) calls4.length ((bd (calls4.getD ((w64 (t8 - (1 : Int))).toNat) dSCall) fun (e12 : SCall) => (bif (decide (e12.Id ≥ e9.Id)) then kxr false else J (w64 (t8 + (1 : Int)))))) else J (w64 (t8 + (1 : Int)))))))
def impl_CallsOk_L4 {R : Type} (n : Nat) (kx0 : Option R) (kxr : Bool → Option R) (J : Int → Option R) (long3 : Int) (calls4 : List SCall) (t5 : List SCall) (t6 : Int) (t7 : Int) : Option R :=
  (bif (decide (t7 < t6)) then impl_CallsOk_k0 n kx0 kxr J long3 calls4 t5 t6 t7 else kx0)
def impl_CallsOk (n : Nat) (long0 : Int) (calls1 : List SCall) : Option Bool :=
  (impl_in n long0 (1 : Int) (1000 : Int)).bind fun r1 => (bif (!r1) then some (false) else (bif (decide ((calls1.length : Int) > (24 : Int))) then some (false) else loopN (fun (x : Int) J' => impl_CallsOk_L4 n (some (true)) (fun t24 => some (t24)) J' long0 calls1 calls1 (calls1.length : Int) x) n ((0 : Int))))
def impl_shares (n : Nat) (a0 : SCall) (b1 : SCall) : Option Bool :=
  (bif (decide (a0.At ≥ (0 : Int))) then (bif (decide (b1.At ≥ (0 : Int))) then (bif (decide (a0.From < b1.To)) then (bif (decide (b1.From < a0.To)) then (bif (decide (a0.At < (w64 (b1.At + b1.Long)))) then some ((decide (b1.At < (w64 (a0.At + a0.Long))))) else some (false)) else some (false)) else some (false)) else some (false)) else some (false))
def impl_Clear17_1 (n : Nat) (x0 : SCall) (a1 : SCall) : Option Bool :=
  (impl_shares n x0 a1).bind fun r1 => some (r1)
def slices_IndexFunc_impl_Call_impl_Call__impl_Clear17_1_L2 {R : Type} (n : Nat) (kx0 : Option R) (kxr : Int → Option R) (J : Int → Option R) (s1 : List SCall) (f2 : SCall) (t3 : Int) (t4 : Int) : Option R :=
  (bif (decide (t4 < t3)) then ix t4 s1.length ((bd (s1.getD t4.toNat dSCall) fun (e9 : SCall) => (impl_Clear17_1 n e9 f2).bind fun r10 => (bif r10 then kxr t4 else J (w64 (t4 + (1 : Int)))))) else kx0)
def slices_IndexFunc_impl_Call_impl_Call__impl_Clear17_1 (n : Nat) (s0 : List SCall) (f1c0 : SCall) : Option Int :=
  loopN (fun (x : Int) J' => slices_IndexFunc_impl_Call_impl_Call__impl_Clear17_1_L2 n (some ((-1 : Int))) (fun t12 => some (t12)) J' s0 f1c0 (s0.length : Int) x) n ((0 : Int))
def slices_ContainsFunc_impl_Call_impl_Call__impl_Clear17_1 (n : Nat) (s0 : List SCall) (f1c0 : SCall) : Option Bool :=
  (slices_IndexFunc_impl_Call_impl_Call__impl_Clear17_1 n s0 f1c0).bind fun r1 => some ((decide (r1 ≥ (0 : Int))))
def impl_Clear17_L4 {R : Type} (n : Nat) (kx0 : Option R) (kxr : Bool → Option R) (J : Int → Option R) (calls2 : List SCall) (t3 : List SCall) (t4 : Int) (t5 : Int) : Option R :=
  (bif (decide (t5 < t4)) then ix t5 t3.length ((bd (t3.getD t5.toNat dSCall) fun (e10 : SCall) => chk (decide ((0 : Int) ≤ t5)) (chk (decide (t5 ≤ (calls2.length : Int))) ((slices_ContainsFunc_impl_Call_impl_Call__impl_Clear17_1 n (calls2.take t5.toNat) e10).bind fun r11 => (bif r11 then kxr false else J (w64 (t5 + (1 : Int)))))))) else kx0)
def impl_Clear17 (n : Nat) (long0 : Int) (calls1 : List SCall) : Option Bool :=
  (impl_CallsOk n long0 calls1).bind fun r1 => (bif (!r1) then some (false) else loopN (fun (x : Int) J' => impl_Clear17_L4 n (some (true)) (fun t15 => some (t15)) J' calls1 calls1 (calls1.length : Int) x) n ((0 : Int)))
def impl_YardOk_k0 {R : Type} (n : Nat) (kx2 : List (Int × Bool) → Option R) (kxr : Bool → Option R) (J : Int → List (Int × Bool) → Option R) (t14 : List (List Int)) (t15 : Int) (t16 : Int) (t17 : List Int) (t18 : Int) (t22 : Int) (y20 : SYard) (t23 : List (Int × Bool)) : Option R :=
  ix t22 t17.length ((impl_idRight n (t17.getD t22.toNat (0 : Int))).bind fun r24 => (bif (!r24) then kxr false else (bd (mgetI t23 (t17.getD t22.toNat (0 : Int))) fun (g28 : Option Bool) => (bif (g28.getD false) then kxr false else (bd (mputI t23 (t17.getD t22.toNat (0 : Int)) true) fun (m43 : List (Int × Bool)) => J (w64 (t22 + (1 : Int))) m43)))))
def impl_YardOk_L10 {R : Type} (n : Nat) (kx2 : List (Int × Bool) → Option R) (kxr : Bool → Option R) (J : Int → List (Int × Bool) → Option R) (t14 : List (List Int)) (t15 : Int) (t16 : Int) (t17 : List Int) (t18 : Int) (t19 : Int) (y20 : SYard) (t21 : List (Int × Bool)) : Option R :=
  (bif (decide (t19 < t18)) then impl_YardOk_k0 n kx2 kxr J t14 t15 t16 t17 t18 t19 y20 t21 else kx2 t21)
def impl_YardOk_k1 {R : Type} (n : Nat) (kx0 : Option R) (kxr : Bool → Option R) (J : Int → List (Int × Bool) → Option R) (t4 : List (List Int)) (t5 : Int) (t9 : Int) (y7 : SYard) (t10 : List (Int × Bool)) : Option R :=
  ix t9 t4.length ((bif (decide (((t4.getD t9.toNat []).length : Int) > y7.High)) then kxr false else loopN (fun (x : Int × (List (Int × Bool))) J' => impl_YardOk_L10 n (fun t52 => J (w64 (t9 + (1 : Int))) t52) (fun t55 => kxr t55) (fun t56 t57 => J' (t56, t57)) t4 t5 t9 (t4.getD t9.toNat []) ((t4.getD t9.toNat []).length : Int) x.1 y7 x.2) n ((0 : Int), t10)))
def impl_YardOk_L5 {R : Type} (n : Nat) (kx0 : Option R) (kxr : Bool → Option R) (J : Int → List (Int × Bool) → Option R) (t4 : List (List Int)) (t5 : Int) (t6 : Int) (y7 : SYard) (t8 : List (Int × Bool)) : Option R :=
  (bif (decide (t6 < t5)) then impl_YardOk_k1 n kx0 kxr J t4 t5 t6 y7 t8 else kx0)
def impl_YardOk (n : Nat) (y0 : SYard) : Option Bool :=
  (impl_in n y0.High (1 : Int) (6 : Int)).bind fun r1 => (bif (!r1) then some (false) else (impl_in n (y0.Stacks.length : Int) (1 : Int) (12 : Int)).bind fun r2 => (bif (!r2) then some (false) else loopN (fun (x : Int × (List (Int × Bool))) J' => impl_YardOk_L5 n (some (true)) (fun t64 => some (t64)) (fun t65 t66 => J' (t65, t66)) y0.Stacks (y0.Stacks.length : Int) x.1 y0 x.2) n ((0 : Int), [])))
def impl_nameOk_k0 {R : Type} (n : Nat) (kx0 : Option R) (kxr : Bool → Option R) (J : Int → Option R) (s2 : ByteArray) (t3 : Int) (t5 : Int) : Option R :=
  ix t5 s2.size ((bif (decide ((byteAt s2 t5.toNat) < (97 : Int))) then (bif (decide ((byteAt s2 t5.toNat) < (65 : Int))) then (bif (decide ((byteAt s2 t5.toNat) < (48 : Int))) then (bif (!(decide ((byteAt s2 t5.toNat) = (45 : Int)))) then kxr false else J (w64 (t5 + (1 : Int)))) else (bif (decide ((byteAt s2 t5.toNat) > (57 : Int))) then (bif (!(decide ((byteAt s2 t5.toNat) = (45 : Int)))) then kxr false else J (w64 (t5 + (1 : Int)))) else J (w64 (t5 + (1 : Int))))) else (bif (decide ((byteAt s2 t5.toNat) > (90 : Int))) then (bif (decide ((byteAt s2 t5.toNat) < (48 : Int))) then (bif (!(decide ((byteAt s2 t5.toNat) = (45 : Int)))) then kxr false else J (w64 (t5 + (1 : Int)))) else (bif (decide ((byteAt s2 t5.toNat) > (57 : Int))) then (bif (!(decide ((byteAt s2 t5.toNat) = (45 : Int)))) then kxr false else J (w64 (t5 + (1 : Int)))) else J (w64 (t5 + (1 : Int))))) else J (w64 (t5 + (1 : Int))))) else (bif (decide ((byteAt s2 t5.toNat) > (122 : Int))) then (bif (decide ((byteAt s2 t5.toNat) < (65 : Int))) then (bif (decide ((byteAt s2 t5.toNat) < (48 : Int))) then (bif (!(decide ((byteAt s2 t5.toNat) = (45 : Int)))) then kxr false else J (w64 (t5 + (1 : Int)))) else (bif (decide ((byteAt s2 t5.toNat) > (57 : Int))) then (bif (!(decide ((byteAt s2 t5.toNat) = (45 : Int)))) then kxr false else J (w64 (t5 + (1 : Int)))) else J (w64 (t5 + (1 : Int))))) else (bif (decide ((byteAt s2 t5.toNat) > (90 : Int))) then (bif (decide ((byteAt s2 t5.toNat) < (48 : Int))) then (bif (!(decide ((byteAt s2 t5.toNat) = (45 : Int)))) then kxr false else J (w64 (t5 + (1 : Int)))) else (bif (decide ((byteAt s2 t5.toNat) > (57 : Int))) then (bif (!(decide ((byteAt s2 t5.toNat) = (45 : Int)))) then kxr false else J (w64 (t5 + (1 : Int)))) else J (w64 (t5 + (1 : Int))))) else J (w64 (t5 + (1 : Int))))) else J (w64 (t5 + (1 : Int))))))
def impl_nameOk_L4 {R : Type} (n : Nat) (kx0 : Option R) (kxr : Bool → Option R) (J : Int → Option R) (s2 : ByteArray) (t3 : Int) (t4 : Int) : Option R :=
  (bif (decide (t4 < t3)) then impl_nameOk_k0 n kx0 kxr J s2 t3 t4 else kx0)
def impl_nameOk (n : Nat) (s0 : ByteArray) : Option Bool :=
  (bif (decide ((s0.size : Int) < (1 : Int))) then some (false) else (bif (decide ((s0.size : Int) > (20 : Int))) then some (false) else loopN (fun (x : Int) J' => impl_nameOk_L4 n (some (true)) (fun t50 => some (t50)) J' s0 (s0.size : Int) x) n ((0 : Int))))
def impl_emptyOrName (n : Nat) (s0 : ByteArray) : Option Bool :=
  (bif (decide (s0 = str [])) then some (true) else (impl_nameOk n s0).bind fun r1 => some (r1))
def impl_BookOk_1 (n : Nat) (s0 : ByteArray) : Option Bool :=
  (impl_emptyOrName n s0).bind fun r1 => some ((!r1))
def slices_IndexFunc_string_string__impl_BookOk_1_L2 {R : Type} (n : Nat) (kx0 : Option R) (kxr : Int → Option R) (J : Int → Option R) (s1 : List ByteArray) (t2 : Int) (t3 : Int) : Option R :=
  (bif (decide (t3 < t2)) then ix t3 s1.length ((impl_BookOk_1 n (s1.getD t3.toNat (str []))).bind fun r7 => (bif r7 then kxr t3 else J (w64 (t3 + (1 : Int))))) else kx0)
def slices_IndexFunc_string_string__impl_BookOk_1 (n : Nat) (s0 : List ByteArray) : Option Int :=
  loopN (fun (x : Int) J' => slices_IndexFunc_string_string__impl_BookOk_1_L2 n (some ((-1 : Int))) (fun t9 => some (t9)) J' s0 (s0.length : Int) x) n ((0 : Int))
def slices_ContainsFunc_string_string__impl_BookOk_1 (n : Nat) (s0 : List ByteArray) : Option Bool :=
  (slices_IndexFunc_string_string__impl_BookOk_1 n s0).bind fun r1 => some ((decide (r1 ≥ (0 : Int))))
def impl_BookOk_k0 {R : Type} (n : Nat) (kx0 : List (Int × Bool) → Option R) (kxr : Bool → Option R) (J : Int → List (Int × Bool) → Option R) (t1 : List SBill) (t2 : Int) (t6 : Int) (b4 : SBook) (t7 : List (Int × Bool)) : Option R :=
  ix t6 t1.length ((bd (t1.getD t6.toNat dSBill) fun (e8 : SBill) => (impl_idRight n e8.Id).bind fun r9 => (bif (!r9) then kxr false else (bif (decide (t6 > (0 : Int))) then ix (w64 (t6 - (1 : Int))) b4.Bills.length ((bd (b4.Bills.getD ((w64 (t6 - (1 : Int))).toNat) dSBill) fun (e13 : SBill) => (bif (decide (e13.Id ≥ e8.Id)) then kxr false else (impl_nameOk n e8.Shipper).bind fun r17 => (bif (!r17) then kxr false else (impl_emptyOrName n e8.Order).bind fun r21 => (bif (!r21) then kxr false else (impl_in n e8.Many (1 : Int) (5 : Int)).bind fun r25 => (bif (!r25) then kxr false else (bif (!(decide ((e8.Held.length : Int) = e8.Many))) then kxr false else (slices_ContainsFunc_string_string__impl_BookOk_1 n e8.Held).bind fun r32 => (bif r32 then kxr false else J (w64 (t6 + (1 : Int))) (mputI t7 e8.Id true))))))))) else (impl_nameOk n e8.Shipper).bind fun r49 => (bif (!r49) then kxr false else (impl_emptyOrName n e8.Order).bind fun r53 => (bif (!r53) then kxr false else (impl_in n e8.Many (1 : Int) (5 : Int)).bind fun r57 => (bif (!r57) then kxr false else (bif (!(decide ((e8.Held.length : Int) = e8.Many))) then kxr false else (slices_ContainsFunc_string_string__impl_BookOk_1 n e8.Held).bind fun r64 => (bif r64 then kxr false else J (w64 (t6 + (1 : Int))) (mputI t7 e8.Id true))))))))))
def impl_BookOk_L5 {R : Type} (n : Nat) (kx0 : List (Int × Bool) → Option R) (kxr : Bool → Option R) (J : Int → List (Int × Bool) → Option R) (t1 : List SBill) (t2 : Int) (t3 : Int) (b4 : SBook) (t5 : List (Int × Bool)) : Option R :=
  (bif (decide (t3 < t2)) then impl_BookOk_k0 n kx0 kxr J t1 t2 t3 b4 t5 else kx0 t5)
def impl_BookOk_k1 {R : Type} (n : Nat) (kx2 : Option R) (kxr : Bool → Option R) (J : Int → Option R) (t75 : List Int) (t76 : Int) (t80 : Int) (b78 : SBook) (t79 : List (Int × Bool)) : Option R :=
  ix t80 t75.length ((bd (mgetI t79 (t75.getD t80.toNat (0 : Int))) fun (g81 : Option Bool) => (bif (!(g81.getD false)) then kxr false else (bif (decide (t80 > (0 : Int))) then ix (w64 (t80 - (1 : Int))) b78.Freed.length ((bif (decide ((b78.Freed.getD ((w64 (t80 - (1 : Int))).toNat) (0 : Int)) ≥ (t75.getD t80.toNat (0 : Int)))) then kxr false else J (w64 (t80 + (1 : Int))))) else J (w64 (t80 + (1 : Int)))))))
def impl_BookOk_L12 {R : Type} (n : Nat) (kx2 : Option R) (kxr : Bool → Option R) (J : Int → Option R) (t75 : List Int) (t76 : Int) (t77 : Int) (b78 : SBook) (t79 : List (Int × Bool)) : Option R :=
  (bif (decide (t77 < t76)) then impl_BookOk_k1 n kx2 kxr J t75 t76 t77 b78 t79 else kx2)
def impl_BookOk_k2 (n : Nat)  (b0 : SBook) : Option Bool :=
  loopN (fun (x : Int × (List (Int × Bool))) J' => impl_BookOk_L5 n (fun t74 => loopN (fun (x : Int) J' => impl_BookOk_L12 n (some (true)) (fun t90 => some (t90)) J' b0.Freed (b0.Freed.length : Int) x b0 t74) n ((0 : Int))) (fun t92 => some (t92)) (fun t93 t94 => J' (t93, t94)) b0.Bills (b0.Bills.length : Int) x.1 b0 x.2) n ((0 : Int), [])
def impl_BookOk (n : Nat) (b0 : SBook) : Option Bool :=
  (bif (decide ((b0.Bills.length : Int) > (30 : Int))) then some (false) else impl_BookOk_k2 n  b0)
def impl_lotRight (n : Nat) (many0 : Int) (value1 : Int) (rate2 : Int) : Option Bool :=
  (impl_in n many0 (1 : Int) (1000000 : Int)).bind fun r1 => (bif r1 then (impl_in n value1 (0 : Int) (1000000 : Int)).bind fun r2 => (bif r2 then (impl_in n rate2 (0 : Int) (5000 : Int)).bind fun r3 => some (r3) else some (false)) else some (false))
def impl_Duty6 (n : Nat) (many0 : Int) (value1 : Int) (rate2 : Int) : Option (Int × Bool) :=
  (impl_lotRight n many0 value1 rate2).bind fun r1 => (bif (!r1) then some ((0 : Int), false) else (bd (w64 ((w64 (many0 * value1)) * rate2)) fun (v4 : Int) => (bd (w64 (Int.tdiv v4 (1000 : Int))) fun (v5 : Int) => some (v5, true))))
def impl_Lot_duty (n : Nat) (l0 : SLot) : Option Int :=
  (impl_Duty6 n l0.Many l0.Value l0.Rate).bind fun r1 => some (r1.1)
def impl_HouseOk_k0 {R : Type} (n : Nat) (kx0 : List Int → Option R) (kxr : Bool → Option R) (J : Int → List Int → Option R) (t3 : List SLot) (t4 : Int) (t41 : Int) (h6 : SHouse) (bound42 : List Int) (l43 : SLot) : Option R :=
  ix l43.Owner bound42.length (chk (decide (l43.Owner.toNat < bound42.length)) ((bd (w64 ((bound42.getD l43.Owner.toNat (0 : Int)) + l43.Bond)) fun (v44 : Int) => ix l43.Owner bound42.length (chk (decide (l43.Owner.toNat < bound42.length)) ((bd (bound42.set l43.Owner.toNat v44) fun (l45 : List Int) => J (w64 (t41 + (1 : Int))) l45))))))
def impl_HouseOk_k1 {R : Type} (n : Nat) (kx0 : List Int → Option R) (kxr : Bool → Option R) (J : Int → List Int → Option R) (t3 : List SLot) (t4 : Int) (t33 : Int) (h6 : SHouse) (bound34 : List Int) (l35 : SLot) : Option R :=
  (bif (decide (l35.State = (3 : Int))) then (impl_Lot_duty n l35).bind fun r36 => (bif (!(decide (l35.Bond = r36))) then kxr false else impl_HouseOk_k0 n kx0 kxr J t3 t4 t33 h6 bound34 l35) else (bif (!(decide (l35.Bond = (0 : Int)))) then kxr false else impl_HouseOk_k0 n kx0 kxr J t3 t4 t33 h6 bound34 l35))
def impl_HouseOk_k2 {R : Type} (n : Nat) (kx0 : List Int → Option R) (kxr : Bool → Option R) (J : Int → List Int → Option R) (t3 : List SLot) (t4 : Int) (t8 : Int) (h6 : SHouse) (bound9 : List Int) : Option R :=
  ix t8 t3.length ((bd (t3.getD t8.toNat dSLot) fun (e10 : SLot) => (impl_idRight n e10.Id).bind fun r11 => (bif (!r11) then kxr false else (bif (decide (t8 > (0 : Int))) then ix (w64 (t8 - (1 : Int))) h6.Lots.length ((bd (h6.Lots.getD ((w64 (t8 - (1 : Int))).toNat) dSLot) fun (e15 : SLot) => (bif (decide (e15.Id ≥ e10.Id)) then kxr false else (bd (w64 ((h6.Traders.length : Int) - (1 : Int))) fun (v19 : Int) => (impl_in n e10.Owner (0 : Int) v19).bind fun r20 => (bif (!r20) then kxr false else (impl_lotRight n e10.Many e10.Value e10.Rate).bind fun r24 => (bif (!r24) then kxr false else (impl_in n e10.State (1 : Int) (5 : Int)).bind fun r28 => (bif (!r28) then kxr false else impl_HouseOk_k1 n kx0 kxr J t3 t4 t8 h6 bound9 e10))))))) else (bd (w64 ((h6.Traders.length : Int) - (1 : Int))) fun (v63 : Int) => (impl_in n e10.Owner (0 : Int) v63).bind fun r64 => (bif (!r64) then kxr false else (impl_lotRight n e10.Many e10.Value e10.Rate).bind fun r68 => (bif (!r68) then kxr false else (impl_in n e10.State (1 : Int) (5 : Int)).bind fun r72 => (bif (!r72) then kxr false else impl_HouseOk_k1 n kx0 kxr J t3 t4 t8 h6 bound9 e10))))))))
def impl_HouseOk_L5 {R : Type} (n : Nat) (kx0 : List Int → Option R) (kxr : Bool → Option R) (J : Int → List Int → Option R) (t3 : List SLot) (t4 : Int) (t5 : Int) (h6 : SHouse) (bound7 : List Int) : Option R :=
  (bif (decide (t5 < t4)) then impl_HouseOk_k2 n kx0 kxr J t3 t4 t5 h6 bound7 else kx0 bound7)
def impl_HouseOk_k3 {R : Type} (n : Nat) (kx2 : Option R) (kxr : Bool → Option R) (J : Int → Option R) (t81 : List STrader) (t82 : Int) (t85 : Int) (bound84 : List Int) : Option R :=
  ix t85 t81.length ((bd (t81.getD t85.toNat dSTrader) fun (e86 : STrader) => (impl_in n e86.Money (0 : Int) (1000000000000000 : Int)).bind fun r87 => (bif (!r87) then kxr false else (impl_in n e86.Bond (0 : Int) (1000000000000000 : Int)).bind fun r89 => (bif (!r89) then kxr false else (impl_in n e86.Bound (0 : Int) e86.Bond).bind fun r91 => (bif (!r91) then kxr false else ix t85 bound84.length (chk (decide (t85.toNat < bound84.length)) ((bif (!(decide (e86.Bound = (bound84.getD t85.toNat (0 : Int))))) then kxr false else J (w64 (t85 + (1 : Int)))))))))))
def impl_HouseOk_L17 {R : Type} (n : Nat) (kx2 : Option R) (kxr : Bool → Option R) (J : Int → Option R) (t81 : List STrader) (t82 : Int) (t83 : Int) (bound84 : List Int) : Option R :=
  (bif (decide (t83 < t82)) then impl_HouseOk_k3 n kx2 kxr J t81 t82 t83 bound84 else kx2)
def impl_HouseOk_k4 (n : Nat)  (h0 : SHouse) : Option Bool :=
  chk (decide ((0 : Int) ≤ (h0.Traders.length : Int))) (chk (decide ((h0.Traders.length : Int) ≤ (h0.Traders.length : Int))) (chk (decide ((h0.Traders.length : Int) ≤ 9223372036854775807 ∧ (h0.Traders.length : Int) * (8 : Int) ≤ 281474976710656)) (loopN (fun (x : Int × List Int) J' => impl_HouseOk_L5 n (fun bound80 => loopN (fun (x : Int) J' => impl_HouseOk_L17 n (some (true)) (fun t97 => some (t97)) J' h0.Traders (h0.Traders.length : Int) x bound80) n ((0 : Int))) (fun t99 => some (t99)) (fun t100 bound101 => J' (t100, bound101)) h0.Lots (h0.Lots.length : Int) x.1 h0 x.2) n ((0 : Int), (List.replicate (h0.Traders.length : Int).toNat (0 : Int))))))
def impl_HouseOk (n : Nat) (h0 : SHouse) : Option Bool :=
  (bif (decide ((h0.Lots.length : Int) > (40 : Int))) then some (false) else (bif (decide ((h0.Traders.length : Int) > (10 : Int))) then some (false) else (impl_in n h0.Taken (0 : Int) (1000000000000000 : Int)).bind fun r1 => (bif (!r1) then some (false) else impl_HouseOk_k4 n  h0)))
def impl_PortOk (n : Nat) (p0 : SPort) : Option Bool :=
  (impl_Clear17 n p0.Long p0.Calls).bind fun r1 => (bif r1 then (impl_YardOk n p0.Yard).bind fun r2 => (bif r2 then (impl_BookOk n p0.Book).bind fun r3 => (bif r3 then (impl_HouseOk n p0.House).bind fun r4 => some (r4) else some (false)) else some (false)) else some (false))
def laws_eqCall (n : Nat) (a0 : SCall) (b1 : SCall) : Option Bool :=
  (bif (!(decide (a0.Id = b1.Id))) then some (false) else (bif (!(decide (a0.Long = b1.Long))) then some (false) else (bif (!(decide (a0.From = b1.From))) then some (false) else (bif (!(decide (a0.To = b1.To))) then some (false) else (bif (!(decide (a0.At = b1.At))) then some (false) else some (true))))))
def laws_eqCallS_L4 {R : Type} (n : Nat) (kx0 : Option R) (kxr : Bool → Option R) (J : Int → Option R) (a1 : List SCall) (b2 : List SCall) (i3 : Int) : Option R :=
  (bif (decide (i3 < (a1.length : Int))) then ix i3 a1.length ((bd (a1.getD i3.toNat dSCall) fun (e9 : SCall) => ix i3 b2.length ((bd (b2.getD i3.toNat dSCall) fun (e10 : SCall) => (laws_eqCall n e9 e10).bind fun r11 => (bif (!r11) then kxr false else J (w64 (i3 + (1 : Int)))))))) else kx0)
def laws_eqCallS (n : Nat) (a0 : List SCall) (b1 : List SCall) : Option Bool :=
  (bif (!(decide ((a0.length : Int) = (b1.length : Int)))) then some (false) else loopN (fun (x : Int) J' => laws_eqCallS_L4 n (some (true)) (fun t15 => some (t15)) J' a0 b1 x) n ((0 : Int)))
def laws_eqIntS_L4 {R : Type} (n : Nat) (kx0 : Option R) (kxr : Bool → Option R) (J : Int → Option R) (a1 : List Int) (b2 : List Int) (i3 : Int) : Option R :=
  (bif (decide (i3 < (a1.length : Int))) then ix i3 a1.length (ix i3 b2.length ((bif (!(decide ((a1.getD i3.toNat (0 : Int)) = (b2.getD i3.toNat (0 : Int))))) then kxr false else J (w64 (i3 + (1 : Int)))))) else kx0)
def laws_eqIntS (n : Nat) (a0 : List Int) (b1 : List Int) : Option Bool :=
  (bif (!(decide ((a0.length : Int) = (b1.length : Int)))) then some (false) else loopN (fun (x : Int) J' => laws_eqIntS_L4 n (some (true)) (fun t9 => some (t9)) J' a0 b1 x) n ((0 : Int)))
def laws_eqIntSS_L4 {R : Type} (n : Nat) (kx0 : Option R) (kxr : Bool → Option R) (J : Int → Option R) (a1 : List (List Int)) (b2 : List (List Int)) (i3 : Int) : Option R :=
  (bif (decide (i3 < (a1.length : Int))) then ix i3 a1.length (ix i3 b2.length ((laws_eqIntS n (a1.getD i3.toNat []) (b2.getD i3.toNat [])).bind fun r7 => (bif (!r7) then kxr false else J (w64 (i3 + (1 : Int)))))) else kx0)
def laws_eqIntSS (n : Nat) (a0 : List (List Int)) (b1 : List (List Int)) : Option Bool :=
  (bif (!(decide ((a0.length : Int) = (b1.length : Int)))) then some (false) else loopN (fun (x : Int) J' => laws_eqIntSS_L4 n (some (true)) (fun t11 => some (t11)) J' a0 b1 x) n ((0 : Int)))
def laws_eqYard (n : Nat) (a0 : SYard) (b1 : SYard) : Option Bool :=
  (bif (!(decide (a0.High = b1.High))) then some (false) else (laws_eqIntSS n a0.Stacks b1.Stacks).bind fun r2 => (bif (!r2) then some (false) else some (true)))
def laws_eqStringS_L4 {R : Type} (n : Nat) (kx0 : Option R) (kxr : Bool → Option R) (J : Int → Option R) (a1 : List ByteArray) (b2 : List ByteArray) (i3 : Int) : Option R :=
  (bif (decide (i3 < (a1.length : Int))) then ix i3 a1.length (ix i3 b2.length ((bif (!(decide ((a1.getD i3.toNat (str [])) = (b2.getD i3.toNat (str []))))) then kxr false else J (w64 (i3 + (1 : Int)))))) else kx0)
def laws_eqStringS (n : Nat) (a0 : List ByteArray) (b1 : List ByteArray) : Option Bool :=
  (bif (!(decide ((a0.length : Int) = (b1.length : Int)))) then some (false) else loopN (fun (x : Int) J' => laws_eqStringS_L4 n (some (true)) (fun t9 => some (t9)) J' a0 b1 x) n ((0 : Int)))
def laws_eqBill_k0 (n : Nat)  (a0 : SBill) (b1 : SBill) : Option Bool :=
  (bif (!(decide (a0.Shipper = b1.Shipper))) then some (false) else (bif (!(decide (a0.Order = b1.Order))) then some (false) else (bif (!(decide (a0.Many = b1.Many))) then some (false) else (laws_eqStringS n a0.Held b1.Held).bind fun r4 => (bif (!r4) then some (false) else some (true)))))
def laws_eqBill (n : Nat) (a0 : SBill) (b1 : SBill) : Option Bool :=
  (bif (!(decide (a0.Id = b1.Id))) then some (false) else laws_eqBill_k0 n  a0 b1)
def laws_eqBillS_L4 {R : Type} (n : Nat) (kx0 : Option R) (kxr : Bool → Option R) (J : Int → Option R) (a1 : List SBill) (b2 : List SBill) (i3 : Int) : Option R :=
  (bif (decide (i3 < (a1.length : Int))) then ix i3 a1.length ((bd (a1.getD i3.toNat dSBill) fun (e9 : SBill) => ix i3 b2.length ((bd (b2.getD i3.toNat dSBill) fun (e10 : SBill) => (laws_eqBill n e9 e10).bind fun r11 => (bif (!r11) then kxr false else J (w64 (i3 + (1 : Int)))))))) else kx0)
def laws_eqBillS (n : Nat) (a0 : List SBill) (b1 : List SBill) : Option Bool :=
  (bif (!(decide ((a0.length : Int) = (b1.length : Int)))) then some (false) else loopN (fun (x : Int) J' => laws_eqBillS_L4 n (some (true)) (fun t15 => some (t15)) J' a0 b1 x) n ((0 : Int)))
def laws_eqBook (n : Nat) (a0 : SBook) (b1 : SBook) : Option Bool :=
  (laws_eqBillS n a0.Bills b1.Bills).bind fun r1 => (bif (!r1) then some (false) else (laws_eqIntS n a0.Freed b1.Freed).bind fun r3 => (bif (!r3) then some (false) else some (true)))
def laws_eqLot_k0 (n : Nat)  (a0 : SLot) (b1 : SLot) : Option Bool :=
  (bif (!(decide (a0.Many = b1.Many))) then some (false) else (bif (!(decide (a0.Value = b1.Value))) then some (false) else (bif (!(decide (a0.Rate = b1.Rate))) then some (false) else (bif (!(decide (a0.State = b1.State))) then some (false) else (bif (!(decide (a0.Bond = b1.Bond))) then some (false) else some (true))))))
def laws_eqLot (n : Nat) (a0 : SLot) (b1 : SLot) : Option Bool :=
  (bif (!(decide (a0.Id = b1.Id))) then some (false) else (bif (!(decide (a0.Owner = b1.Owner))) then some (false) else laws_eqLot_k0 n  a0 b1))
def laws_eqLotS_L4 {R : Type} (n : Nat) (kx0 : Option R) (kxr : Bool → Option R) (J : Int → Option R) (a1 : List SLot) (b2 : List SLot) (i3 : Int) : Option R :=
  (bif (decide (i3 < (a1.length : Int))) then ix i3 a1.length ((bd (a1.getD i3.toNat dSLot) fun (e9 : SLot) => ix i3 b2.length ((bd (b2.getD i3.toNat dSLot) fun (e10 : SLot) => (laws_eqLot n e9 e10).bind fun r11 => (bif (!r11) then kxr false else J (w64 (i3 + (1 : Int)))))))) else kx0)
def laws_eqLotS (n : Nat) (a0 : List SLot) (b1 : List SLot) : Option Bool :=
  (bif (!(decide ((a0.length : Int) = (b1.length : Int)))) then some (false) else loopN (fun (x : Int) J' => laws_eqLotS_L4 n (some (true)) (fun t15 => some (t15)) J' a0 b1 x) n ((0 : Int)))
def laws_eqTrader (n : Nat) (a0 : STrader) (b1 : STrader) : Option Bool :=
  (bif (!(decide (a0.Money = b1.Money))) then some (false) else (bif (!(decide (a0.Bond = b1.Bond))) then some (false) else (bif (!(decide (a0.Bound = b1.Bound))) then some (false) else some (true))))
def laws_eqTraderS_L4 {R : Type} (n : Nat) (kx0 : Option R) (kxr : Bool → Option R) (J : Int → Option R) (a1 : List STrader) (b2 : List STrader) (i3 : Int) : Option R :=
  (bif (decide (i3 < (a1.length : Int))) then ix i3 a1.length ((bd (a1.getD i3.toNat dSTrader) fun (e9 : STrader) => ix i3 b2.length ((bd (b2.getD i3.toNat dSTrader) fun (e10 : STrader) => (laws_eqTrader n e9 e10).bind fun r11 => (bif (!r11) then kxr false else J (w64 (i3 + (1 : Int)))))))) else kx0)
def laws_eqTraderS (n : Nat) (a0 : List STrader) (b1 : List STrader) : Option Bool :=
  (bif (!(decide ((a0.length : Int) = (b1.length : Int)))) then some (false) else loopN (fun (x : Int) J' => laws_eqTraderS_L4 n (some (true)) (fun t15 => some (t15)) J' a0 b1 x) n ((0 : Int)))
def laws_eqHouse (n : Nat) (a0 : SHouse) (b1 : SHouse) : Option Bool :=
  (laws_eqLotS n a0.Lots b1.Lots).bind fun r1 => (bif (!r1) then some (false) else (laws_eqTraderS n a0.Traders b1.Traders).bind fun r3 => (bif (!r3) then some (false) else (bif (!(decide (a0.Taken = b1.Taken))) then some (false) else some (true))))
def laws_eqPort_k0 (n : Nat)  (a0 : SPort) (b1 : SPort) : Option Bool :=
  (laws_eqCallS n a0.Calls b1.Calls).bind fun r1 => (bif (!r1) then some (false) else (laws_eqYard n a0.Yard b1.Yard).bind fun r8 => (bif (!r8) then some (false) else (laws_eqBook n a0.Book b1.Book).bind fun r9 => (bif (!r9) then some (false) else (laws_eqHouse n a0.House b1.House).bind fun r10 => (bif (!r10) then some (false) else some (true)))))
def laws_eqPort (n : Nat) (a0 : SPort) (b1 : SPort) : Option Bool :=
  (bif (!(decide (a0.Long = b1.Long))) then some (false) else laws_eqPort_k0 n  a0 b1)
def laws_FnExactPortOk (n : Nat) (aP0 : SPort) : Option Bool :=
  (laws_szPort n aP0 (1048576 : Int)).bind fun r1 => (bif (decide (r1 < (0 : Int))) then some (true) else (laws_toPort n aP0).bind fun r19 => (spec_PortOk n r19).bind fun r20 => (laws_toPort n aP0).bind fun r21 => (impl_PortOk n r21).bind fun r22 => (bif (!(r22 == r20)) then some (false) else (laws_toPort n aP0).bind fun r32 => (laws_eqPort n r21 r32).bind fun r33 => (bif (!r33) then some (false) else some (true))))
def rng (a b x : Int) : Prop := a ≤ x ∧ x ≤ b
def wfSCall (x : SCall) : Prop := rng (-9223372036854775808) 9223372036854775807 x.Id ∧ rng (-9223372036854775808) 9223372036854775807 x.Long ∧ rng (-9223372036854775808) 9223372036854775807 x.From ∧ rng (-9223372036854775808) 9223372036854775807 x.To ∧ rng (-9223372036854775808) 9223372036854775807 x.At
def wfSYard (x : SYard) : Prop := rng (-9223372036854775808) 9223372036854775807 x.High ∧ (x.Stacks.length ≤ 9223372036854775807 ∧ ∀ y ∈ x.Stacks, (y.length ≤ 9223372036854775807 ∧ ∀ z ∈ y, rng (-9223372036854775808) 9223372036854775807 z))
def wfSBill (x : SBill) : Prop := rng (-9223372036854775808) 9223372036854775807 x.Id ∧ x.Shipper.size ≤ 9223372036854775807 ∧ x.Order.size ≤ 9223372036854775807 ∧ rng (-9223372036854775808) 9223372036854775807 x.Many ∧ (x.Held.length ≤ 9223372036854775807 ∧ ∀ y ∈ x.Held, y.size ≤ 9223372036854775807)
def wfSBook (x : SBook) : Prop := (x.Bills.length ≤ 9223372036854775807 ∧ ∀ y ∈ x.Bills, wfSBill y) ∧ (x.Freed.length ≤ 9223372036854775807 ∧ ∀ y ∈ x.Freed, rng (-9223372036854775808) 9223372036854775807 y)
def wfSLot (x : SLot) : Prop := rng (-9223372036854775808) 9223372036854775807 x.Id ∧ rng (-9223372036854775808) 9223372036854775807 x.Owner ∧ rng (-9223372036854775808) 9223372036854775807 x.Many ∧ rng (-9223372036854775808) 9223372036854775807 x.Value ∧ rng (-9223372036854775808) 9223372036854775807 x.Rate ∧ rng (-9223372036854775808) 9223372036854775807 x.State ∧ rng (-9223372036854775808) 9223372036854775807 x.Bond
def wfSTrader (x : STrader) : Prop := rng (-9223372036854775808) 9223372036854775807 x.Money ∧ rng (-9223372036854775808) 9223372036854775807 x.Bond ∧ rng (-9223372036854775808) 9223372036854775807 x.Bound
def wfSHouse (x : SHouse) : Prop := (x.Lots.length ≤ 9223372036854775807 ∧ ∀ y ∈ x.Lots, wfSLot y) ∧ (x.Traders.length ≤ 9223372036854775807 ∧ ∀ y ∈ x.Traders, wfSTrader y) ∧ rng (-9223372036854775808) 9223372036854775807 x.Taken
def wfSPort (x : SPort) : Prop := rng (-9223372036854775808) 9223372036854775807 x.Long ∧ (x.Calls.length ≤ 9223372036854775807 ∧ ∀ y ∈ x.Calls, wfSCall y) ∧ wfSYard x.Yard ∧ wfSBook x.Book ∧ wfSHouse x.House
end Go.Sm
end

section
set_option linter.unusedSimpArgs false
set_option linter.deprecated false
set_option linter.unusedSectionVars false
set_option linter.unusedVariables false
namespace Go.Sm
/-! ### Of the words that printed functions are made of -/
theorem w64_id {x : Int} (h1 : -9223372036854775808 ≤ x) (h2 : x ≤ 9223372036854775807) : w64 x = x := by
  show (let m := x % (2 ^ 64 : Int); if (true && decide ((2 : Int) ^ 63 ≤ m)) = true then m - 2 ^ 64 else m) = x
  simp only [Bool.true_and, decide_eq_true_eq]
  split <;> omega
theorem w64_rng (x : Int) : -9223372036854775808 ≤ w64 x ∧ w64 x ≤ 9223372036854775807 := by
  show -9223372036854775808 ≤ (let m := x % (2 ^ 64 : Int); if (true && decide ((2 : Int) ^ 63 ≤ m)) = true then m - 2 ^ 64 else m) ∧ (let m := x % (2 ^ 64 : Int); if (true && decide ((2 : Int) ^ 63 ≤ m)) = true then m - 2 ^ 64 else m) ≤ 9223372036854775807
  simp only [Bool.true_and, decide_eq_true_eq]
  split <;> omega
theorem chk_of {R : Type} {b : Bool} {x : Option R} (h : b = true) : chk b x = x := by rw [h]; rfl
theorem chk_true {R : Type} {x : Option R} : chk true x = x := rfl
theorem chk_dec {R : Type} {p : Prop} [Decidable p] {x : Option R} (h : p) : chk (decide p) x = x := chk_of (decide_eq_true h)
theorem ix_of {R : Type} {i : Int} {len : Nat} {x : Option R} (h0 : 0 ≤ i) (h1 : i < (len : Int)) : ix i len x = x := by
  unfold ix
  rw [decide_eq_true h0, decide_eq_true h1]
  rfl
theorem ix_nat {R : Type} {i len : Nat} {x : Option R} (h1 : i < len) : ix (i : Int) len x = x := ix_of (by omega) (by omega)
theorem bif_dec {α : Type} {p : Prop} [Decidable p] {x y : α} : (bif decide p then x else y) = if p then x else y := by
  by_cases h : p <;> simp [h]
theorem bif_not {α : Type} {b : Bool} {x y : α} : (bif !b then x else y) = bif b then y else x := by cases b <;> rfl
theorem bif_and {α : Type} {a b : Bool} {x y : α} : (bif a && b then x else y) = bif a then (bif b then x else y) else y := by cases a <;> rfl
theorem loopN_succ {X R : Type} (b : X → (X → Option R) → Option R) (m : Nat) (x : X) : loopN b (m + 1) x = b x (loopN b m) := rfl
/-- What holds of a loop: by what is left to go. -/
theorem loopN_ind {X R : Type} {b : X → (X → Option R) → Option R} (μ : X → Nat) (I : X → Prop) (Q : X → Option R → Prop)
    (h : ∀ x J, I x → (∀ y, I y → μ y < μ x → Q y (J y)) → Q x (b x J)) : ∀ n x, I x → μ x < n → Q x (loopN b n x)
  | 0, x, hi, hm => absurd hm (Nat.not_lt_zero _)
  | n + 1, x, hi, hm => h x (loopN b n) hi fun y hy hl => loopN_ind μ I Q h n y hy (by omega)
theorem getD_eq {α : Type} {l : List α} {i : Nat} {d : α} (h : i < l.length) : l.getD i d = l[i] := by
  simp [List.getD, h]
theorem w64_succ {k : Nat} (h : k < 9223372036854775807) : w64 ((k : Int) + 1) = ((k + 1 : Nat) : Int) := by
  rw [w64_id (by omega) (by omega)]
  rfl
theorem take_succ_getD {α : Type} {l : List α} {i : Nat} {d : α} (h : i < l.length) : l.take (i + 1) = l.take i ++ [l.getD i d] := by
  rw [List.take_succ, getD_eq h, List.getElem?_eq_getElem h]
  rfl
theorem drop_getD {α : Type} {l : List α} {i : Nat} {d : α} (h : i < l.length) : l.drop i = l.getD i d :: l.drop (i + 1) := by
  rw [getD_eq h]
  exact List.drop_eq_getElem_cons h
theorem bd_eq {α β : Type} (e : α) (f : α → β) : bd e f = f e := rfl
theorem bd_set {α β : Type} {Q : β → Prop} {F : List α → β} {p : List α} {i : Nat} {x : α} (h : ∀ l : List α, l.length = p.length → Q (F l)) : Q (bd (p.set i x) F) := h _ (by simp)
theorem bd_is {α β : Type} {Q : β → Prop} {F : α → β} {e : α} (h : ∀ v : α, v = e → Q (F v)) : Q (bd e F) := h _ rfl
theorem bd_val {α β : Type} {Q : β → Prop} {F : α → β} {e : α} (h : ∀ v : α, Q (F v)) : Q (bd e F) := h _
theorem chk_q {R : Type} {Q : Option R → Prop} {b : Bool} {x : Option R} (h : b = true) (hx : Q x) : Q (chk b x) := by rw [chk_of h]; exact hx
theorem ix_q {R : Type} {Q : Option R → Prop} {i : Int} {len : Nat} {x : Option R} (h0 : 0 ≤ i) (h1 : i < (len : Int)) (hx : Q x) : Q (ix i len x) := by rw [ix_of h0 h1]; exact hx
theorem bd_upd {α β : Type} {Q : β → Prop} {F : List α → β} {p : List α} {i : Nat} {x d : α} (hi : i < p.length) (h : ∀ l : List α, l.length = p.length → l.getD i d = x → (∀ j, j ≠ i → l.getD j d = p.getD j d) → Q (F l)) : Q (bd (p.set i x) F) :=
  h _ (by simp) (by simp [List.getD, hi]) (fun j hj => by simp [List.getD, List.getElem?_set, Ne.symm hj])
/-- A list written from the front. -/
theorem set_take {α : Type} {a : List α} {d : α} {m k : Nat} (h : k < a.length) (hm : m = a.length := by rfl) : (a.take k ++ (List.replicate m d).drop k).set k (a.getD k d) = a.take (k + 1) ++ (List.replicate m d).drop (k + 1) := by
  subst hm
  have h1 : (a.take k).length = k := by simp; omega
  rw [List.set_append_right _ _ (by omega), h1, Nat.sub_self, take_succ_getD h, List.append_assoc]
  congr 1
  rw [List.drop_eq_getElem_cons (by simp; exact h)]
  rfl
/-! ### Loops over 0 .. len, by what is left -/
/-- Steps k, k+1, .. told one after the other; J: what comes behind a step. -/
def forK {S R : Type} (step : Nat → S → (S → Option R) → Option R) (fin : S → Option R) : Nat → Nat → S → Option R
  | 0, _, s => fin s
  | m + 1, k, s => step k s fun s' => forK step fin m (k + 1) s'
theorem loop_forK {X S R : Type} {b : X → (X → Option R) → Option R} {enc : Nat → S → X} {len : Nat} {step : Nat → S → (S → Option R) → Option R} {fin : S → Option R} (I : Nat → S → Prop)
    (hstep : ∀ k s J J', k < len → I k s → (∀ s', I (k + 1) s' → J (enc (k + 1) s') = J' s') → b (enc k s) J = step k s J') (hfin : ∀ s J, I len s → b (enc len s) J = fin s) :
    ∀ m k s n, k + m = len → m < n → I k s → loopN b n (enc k s) = forK step fin m k s
  | 0, k, s, 0, _, h, _ => absurd h (Nat.lt_irrefl _)
  | 0, k, s, n + 1, hk, _, hi => by
    have hk : k = len := by omega
    subst hk
    exact hfin s _ hi
  | m + 1, k, s, 0, _, h, _ => absurd h (Nat.not_lt_zero _)
  | m + 1, k, s, n + 1, hk, hn, hi => by
    show b (enc k s) (loopN b n) = step k s fun s' => forK step fin m (k + 1) s'
    exact hstep k s _ _ (by omega) hi fun s' hi' => loop_forK I hstep hfin m (k + 1) s' n (by omega) (by omega) hi'
/-- The first k at which f answers; at none: z. -/
def scanK {R : Type} (f : Nat → Option (Option R)) (z : Option R) : Nat → Nat → Option R
  | 0, _ => z
  | m + 1, k => match f k with
    | some r => r
    | none => scanK f z m (k + 1)
theorem loop_scan {X R : Type} {b : X → (X → Option R) → Option R} {enc : Nat → X} {len : Nat} {f : Nat → Option (Option R)} {z : Option R}
    (hstep : ∀ k J, k < len → b (enc k) J = match f k with | some r => r | none => J (enc (k + 1))) (hfin : ∀ J, b (enc len) J = z) :
    ∀ m k n, k + m = len → m < n → loopN b n (enc k) = scanK f z m k
  | 0, k, 0, _, h => absurd h (Nat.lt_irrefl _)
  | 0, k, n + 1, hk, _ => by
    have hk : k = len := by omega
    subst hk
    exact hfin _
  | m + 1, k, 0, _, h => absurd h (Nat.not_lt_zero _)
  | m + 1, k, n + 1, hk, hn => by
    show b (enc k) (loopN b n) = _
    rw [hstep k _ (by omega)]
    unfold scanK
    cases f k with
    | some r => rfl
    | none => exact loop_scan hstep hfin m (k + 1) n (by omega) (by omega)
/-- Is p so of all of k, .. k + m - 1? -/
theorem scan_all {R : Type} {p : Nat → Bool} {r z : Option R} : ∀ m k, scanK (fun k => bif p k then none else some r) z m k = bif (List.range' k m).all p then z else r
  | 0, k => rfl
  | m + 1, k => by
    rw [scanK, List.range'_succ, List.all_cons]
    cases h : p k with
    | true => simp only [cond_true, Bool.true_and]; exact scan_all m (k + 1)
    | false => rfl
theorem scan_any {R : Type} {p : Nat → Bool} {r z : Option R} : ∀ m k, scanK (fun k => bif p k then some r else none) z m k = bif (List.range' k m).any p then r else z
  | 0, k => rfl
  | m + 1, k => by
    rw [scanK, List.range'_succ, List.any_cons]
    cases h : p k with
    | false => simp only [cond_false, Bool.false_or]; exact scan_any m (k + 1)
    | true => rfl
theorem mgetI_mputI {β : Type} (l : List (Int × β)) (n m : Int) (v : β) : mgetI (mputI l n v) m = if m = n then some v else mgetI l m := by
  unfold mgetI mputI
  induction l with
  | nil =>
    by_cases h : m = n <;> simp [h]
  | cons a l ih =>
    rw [List.findIdx?_cons]
    by_cases h : n = a.1
    · simp only [h, decide_true, if_true, Option.elim_some, List.set_cons_zero, List.find?_cons]
      by_cases h2 : m = a.1
      · simp [h2]
      · simp [h2]
    · simp only [h, decide_false, Bool.false_eq_true, if_false]
      cases hf : l.findIdx? (fun e => decide (n = e.1)) with
      | none =>
        rw [hf] at ih
        simp only [Option.elim_none] at ih
        simp only [Option.map_none, Option.elim_none, List.cons_append, List.find?_cons]
        by_cases h2 : m = a.1
        · have : m ≠ n := fun e => h (e ▸ h2)
          simp [h2]
          simp [h2] at this
          simp [this]
        · simp only [h2, decide_false]
          exact ih
      | some i =>
        rw [hf] at ih
        simp only [Option.elim_some] at ih
        simp only [Option.map_some, Option.elim_some, List.set_cons_succ, List.find?_cons]
        by_cases h2 : m = a.1
        · have : m ≠ n := fun e => h (e ▸ h2)
          simp [h2]
          simp [h2] at this
          simp [this]
        · simp only [h2, decide_false]
          exact ih
theorem mgetI_nil {β : Type} (m : Int) : mgetI ([] : List (Int × β)) m = none := rfl
/-! ### Chains of tests -/
theorem bif_and' {α : Type} {a b : Bool} {x y : α} : (bif a then (bif b then x else y) else y) = bif a && b then x else y := by cases a <;> rfl
theorem bif_or' {α : Type} {a b : Bool} {x y : α} : (bif a then y else (bif b then x else y)) = bif !a && b then x else y := by cases a <;> rfl
theorem bif_and2 {α : Type} {a b : Bool} {x y : α} : (bif a then (bif b then y else x) else y) = bif a && !b then x else y := by cases a <;> cases b <;> rfl
theorem bif_or2 {α : Type} {a b : Bool} {x y : α} : (bif a then y else (bif b then y else x)) = bif !a && !b then x else y := by cases a <;> cases b <;> rfl
theorem bif_some {α β : Type} {a : Bool} {x y : α} {f : α → Option β} : (bif a then some x else some y).bind f = bif a then f x else f y := by cases a <;> rfl
theorem bif_tf {a : Bool} : (bif a then some true else some false) = some a := by cases a <;> rfl
theorem bif_ft {a : Bool} : (bif a then some false else some true) = some (!a) := by cases a <;> rfl
theorem bif_sf {a b : Bool} : (bif a then some b else some false) = some (a && b) := by cases a <;> rfl
theorem all_range_succ {p : Nat → Bool} {k : Nat} : (List.range (k + 1)).all p = ((List.range k).all p && p k) := by
  rw [List.range_succ, List.all_append]
  simp
theorem any_range_succ {p : Nat → Bool} {k : Nat} : (List.range (k + 1)).any p = ((List.range k).any p || p k) := by
  rw [List.range_succ, List.any_append]
  simp
theorem all_range_not {p : Nat → Bool} {k m : Nat} (hk : k < m) (h : p k = false) : (List.range m).all p = false := by
  rw [Bool.eq_false_iff]
  intro e
  rw [List.all_eq_true] at e
  rw [e k (List.mem_range.2 hk)] at h
  cases h
theorem any_range_of {p : Nat → Bool} {k m : Nat} (hk : k < m) (h : p k = true) : (List.range m).any p = true := by
  rw [List.any_eq_true]
  exact ⟨k, List.mem_range.2 hk, h⟩
/-- A loop that looks at k = 0, 1, .. and leaves at the first that is not so. -/
theorem loop_all {R : Type} {b : Int → (Int → Option R) → Option R} {len : Nat} {p : Nat → Bool} {no yes : Option R} (hlen : len ≤ 9223372036854775807)
    (hstep : ∀ (k : Nat) (J : Int → Option R), k < len → (∀ j, j < k → p j = true) → b (k : Int) J = bif p k then J ((k + 1 : Nat) : Int) else no) (hfin : ∀ J, (∀ j, j < len → p j = true) → b (len : Int) J = yes) {n : Nat} (hn : len < n) :
    loopN b n (0 : Int) = bif (List.range len).all p then yes else no := by
  refine loopN_ind (fun x => len - x.toNat) (fun x => ∃ k : Nat, k ≤ len ∧ x = (k : Int) ∧ (List.range k).all p = true) (fun x r => r = bif (List.range len).all p then yes else no) ?_ n _ ⟨0, by omega, rfl, rfl⟩ (by simp; omega)
  rintro _ J ⟨k, hk, rfl, hb⟩ ih
  have hb' : ∀ j, j < k → p j = true := fun j hj => List.all_eq_true.1 hb j (List.mem_range.2 hj)
  by_cases h : k < len
  · rw [hstep k J h hb']
    cases hp : p k with
    | true => exact ih _ ⟨k + 1, h, rfl, by rw [all_range_succ, hb, hp]; rfl⟩ (by simp; omega)
    | false => rw [all_range_not h hp]; rfl
  · have : k = len := by omega
    subst this
    rw [hfin _ hb', hb]
    rfl
/-- The same, a state turned on the way (its invariant: I). -/
theorem loop_allS {S R : Type} {X : Type} {enc : Int → S → X} {b : X → (X → Option R) → Option R} {len : Nat} {p : Nat → Bool} {I : Nat → S → Prop} {no yes : Option R}
    (hstep : ∀ (k : Nat) (s : S) (J : X → Option R), k < len → I k s → (∀ j, j < k → p j = true) → ∃ s', (p k = true → I (k + 1) s') ∧ b (enc (k : Int) s) J = bif p k then J (enc ((k + 1 : Nat) : Int) s') else no) (hfin : ∀ s J, I len s → (∀ j, j < len → p j = true) → b (enc (len : Int) s) J = yes) {n : Nat} (hn : len < n) {s0 : S} (h0 : I 0 s0) :
    loopN b n (enc (0 : Int) s0) = bif (List.range len).all p then yes else no := by
  have key : ∀ m (k : Nat) (s : S) n, k + m = len → m < n → I k s → (List.range k).all p = true → loopN b n (enc (k : Int) s) = bif (List.range len).all p then yes else no := by
    intro m
    induction m with
    | zero =>
      intro k s n hk hn hi hb
      have hb' : ∀ j, j < k → p j = true := fun j hj => List.all_eq_true.1 hb j (List.mem_range.2 hj)
      have hk : k = len := by omega
      subst hk
      cases n with
      | zero => omega
      | succ n => rw [loopN_succ, hfin s _ hi hb', hb]; rfl
    | succ m ih =>
      intro k s n hk hn hi hb
      have hb' : ∀ j, j < k → p j = true := fun j hj => List.all_eq_true.1 hb j (List.mem_range.2 hj)
      cases n with
      | zero => omega
      | succ n =>
        rw [loopN_succ]
        obtain ⟨s', h1, h2⟩ := hstep k s (loopN b n) (by omega) hi hb'
        rw [h2]
        cases hp : p k with
        | true => exact ih (k + 1) s' n (by omega) (by omega) (h1 hp) (by rw [all_range_succ, hb, hp]; rfl)
        | false => rw [all_range_not (by omega : k < len) hp]; rfl
  exact key len 0 s0 n (by omega) hn h0 rfl
/-- A loop over 0 .. len that never leaves early; its state: I. -/
theorem loop_runS {S R : Type} {X : Type} {enc : Int → S → X} {b : X → (X → Option R) → Option R} {len : Nat} {I : Nat → S → Prop} {Q : Option R → Prop}
    (hstep : ∀ (k : Nat) (s : S) (J : X → Option R), k < len → I k s → ∃ s', I (k + 1) s' ∧ b (enc (k : Int) s) J = J (enc ((k + 1 : Nat) : Int) s')) (hfin : ∀ s J, I len s → Q (b (enc (len : Int) s) J)) {n : Nat} (hn : len < n) {s0 : S} (h0 : I 0 s0) :
    Q (loopN b n (enc (0 : Int) s0)) := by
  have key : ∀ m (k : Nat) (s : S) n, k + m = len → m < n → I k s → Q (loopN b n (enc (k : Int) s)) := by
    intro m
    induction m with
    | zero =>
      intro k s n hk hn hi
      have hk : k = len := by omega
      subst hk
      cases n with
      | zero => omega
      | succ n => rw [loopN_succ]; exact hfin s _ hi
    | succ m ih =>
      intro k s n hk hn hi
      cases n with
      | zero => omega
      | succ n =>
        rw [loopN_succ]
        obtain ⟨s', h1, h2⟩ := hstep k s (loopN b n) (by omega) hi
        rw [h2]
        exact ih (k + 1) s' n (by omega) (by omega) h1
  exact key len 0 s0 n (by omega) hn h0
/-! ### Sums over lists -/
def sumOf {α : Type} (f : α → Nat) : List α → Nat
  | [] => 0
  | a :: l => f a + sumOf f l
theorem sumOf_append {α : Type} (f : α → Nat) : ∀ a b : List α, sumOf f (a ++ b) = sumOf f a + sumOf f b
  | [], b => by simp [sumOf]
  | x :: a, b => by simp only [List.cons_append, sumOf, sumOf_append f a b]; omega
theorem sumOf_take_succ {α : Type} {f : α → Nat} {l : List α} {k : Nat} {d : α} (h : k < l.length) : sumOf f (l.take (k + 1)) = sumOf f (l.take k) + f (l.getD k d) := by
  rw [take_succ_getD (d := d) h, sumOf_append]
  simp [sumOf]
theorem sumOf_take_le {α : Type} (f : α → Nat) (l : List α) (k : Nat) : sumOf f (l.take k) ≤ sumOf f l := by
  have := sumOf_append f (l.take k) (l.drop k)
  rw [List.take_append_drop] at this
  omega
theorem sumOf_mem {α : Type} {f : α → Nat} {l : List α} {k : Nat} {d : α} (h : k < l.length) : f (l.getD k d) ≤ sumOf f l := by
  have h1 := sumOf_take_succ (f := f) (d := d) h
  have h2 := sumOf_take_le f l (k + 1)
  omega
theorem sumOf_lin {α : Type} {f g : α → Nat} {c s : Nat} (h : ∀ y, f y ≤ c * g y + s) : ∀ l : List α, sumOf f l ≤ c * sumOf g l + s * l.length
  | [] => by simp [sumOf]
  | a :: l => by
    have h1 := h a
    have h2 := sumOf_lin h l
    simp only [sumOf, List.length_cons, Nat.mul_add, Nat.mul_succ]
    omega
theorem sumOf_const {α : Type} (c : Nat) : ∀ l : List α, sumOf (fun _ => c) l = c * l.length
  | [] => by simp [sumOf]
  | a :: l => by simp only [sumOf, sumOf_const c l, List.length_cons, Nat.mul_succ]; omega
theorem getD_set {α : Type} {l : List α} {k : Nat} {x d : α} (h : k < l.length) : (l.set k x).getD k d = x := by simp [List.getD, h]
theorem getD_set_ne {α : Type} {l : List α} {k j : Nat} {x d : α} (h : j ≠ k) : (l.set k x).getD j d = l.getD j d := by simp [List.getD, List.getElem?_set, Ne.symm h]
theorem getD_mem {α : Type} {l : List α} {k : Nat} {d : α} (h : k < l.length) : l.getD k d ∈ l := by rw [getD_eq h]; exact List.getElem_mem h
theorem take_drop_set {α : Type} {a : List α} {d : α} {m k : Nat} {x : α} (h : k < a.length) (hm : m = a.length) (hx : x = a.getD k d) : (a.take k ++ (List.replicate m d).drop k).set k x = a.take (k + 1) ++ (List.replicate m d).drop (k + 1) := by
  subst hx
  exact set_take h hm
/-! ### The first that is so -/
def idxOf (p : Nat → Bool) (m : Nat) : Int := match (List.range m).find? p with
  | some k => (k : Int)
  | none => -1
theorem find_range_none {p : Nat → Bool} {m : Nat} (h : ∀ j, j < m → p j = false) : (List.range m).find? p = none := by
  rw [List.find?_eq_none]
  intro x hx
  rw [h x (List.mem_range.1 hx)]
  simp
theorem find_range_some {p : Nat → Bool} {m k : Nat} (hk : k < m) (hp : p k = true) (h : ∀ j, j < k → p j = false) : (List.range m).find? p = some k := by
  have e : m = k + (m - k) := by omega
  rw [e, List.range_add, List.find?_append, find_range_none h, Option.none_or]
  obtain ⟨r, hr⟩ : ∃ r, m - k = r + 1 := ⟨m - k - 1, by omega⟩
  rw [hr, List.range_succ_eq_map]
  simp [hp]
theorem idxOf_ge (p : Nat → Bool) (m : Nat) : decide (idxOf p m ≥ 0) = (List.range m).any p := by
  unfold idxOf
  cases h : (List.range m).find? p with
  | none =>
    rw [List.find?_eq_none] at h
    rw [show (List.range m).any p = false from by rw [List.any_eq_false]; exact h]
    rfl
  | some k =>
    have h1 := List.find?_some h
    rw [show (List.range m).any p = true from List.any_eq_true.2 ⟨k, List.mem_of_find?_eq_some h, h1⟩]
    exact decide_eq_true (by show (0 : Int) ≤ (k : Int); omega)
theorem idxOf_lt (p : Nat → Bool) (m : Nat) : decide (idxOf p m < 0) = !(List.range m).any p := by
  rw [← idxOf_ge]
  by_cases h : idxOf p m < 0
  · rw [decide_eq_true h, decide_eq_false (by omega)]; rfl
  · rw [decide_eq_false h, decide_eq_true (by omega)]; rfl
theorem find_range (p : Nat → Bool) : ∀ m, ((List.range m).find? p = none ∧ ∀ j, j < m → p j = false) ∨ ∃ k, (List.range m).find? p = some k ∧ k < m ∧ p k = true ∧ ∀ j, j < k → p j = false
  | 0 => .inl ⟨rfl, fun j hj => absurd hj (Nat.not_lt_zero _)⟩
  | m + 1 => by
    rcases find_range p m with ⟨h1, h2⟩ | ⟨k, h1, h2, h3, h4⟩
    · cases hp : p m with
      | true => exact .inr ⟨m, find_range_some (by omega) hp h2, by omega, hp, h2⟩
      | false =>
        have : ∀ j, j < m + 1 → p j = false := fun j hj => by
          by_cases e : j = m
          · rw [e]; exact hp
          · exact h2 j (by omega)
        exact .inl ⟨find_range_none this, this⟩
    · exact .inr ⟨k, find_range_some (by omega) h3 h4, by omega, h3, h4⟩
theorem idxOf_spec (p : Nat → Bool) (m : Nat) : (idxOf p m = -1 ∧ ∀ j, j < m → p j = false) ∨ ∃ k : Nat, idxOf p m = (k : Int) ∧ k < m ∧ p k = true ∧ ∀ j, j < k → p j = false := by
  unfold idxOf
  rcases find_range p m with ⟨h1, h2⟩ | ⟨k, h1, h2, h3, h4⟩
  · rw [h1]; exact .inl ⟨rfl, h2⟩
  · rw [h1]; exact .inr ⟨k, rfl, h2, h3, h4⟩
/-- A loop that looks at k = 0, 1, .. and leaves at the first that is so. -/
theorem loop_find {R : Type} {b : Int → (Int → Option R) → Option R} {len : Nat} {p : Nat → Bool} {yes : Nat → Option R} {no : Option R} (hlen : len ≤ 9223372036854775807)
    (hstep : ∀ (k : Nat) (J : Int → Option R), k < len → (∀ j, j < k → p j = false) → b (k : Int) J = bif p k then yes k else J ((k + 1 : Nat) : Int)) (hfin : ∀ J, (∀ j, j < len → p j = false) → b (len : Int) J = no) {n : Nat} (hn : len < n) :
    loopN b n (0 : Int) = match (List.range len).find? p with | some k => yes k | none => no := by
  refine loopN_ind (fun x => len - x.toNat) (fun x => ∃ k : Nat, k ≤ len ∧ x = (k : Int) ∧ ∀ j, j < k → p j = false) (fun x r => r = match (List.range len).find? p with | some k => yes k | none => no) ?_ n _ ⟨0, by omega, rfl, fun j hj => absurd hj (Nat.not_lt_zero _)⟩ (by simp; omega)
  rintro _ J ⟨k, hk, rfl, hb⟩ ih
  by_cases h : k < len
  · rw [hstep k J h hb]
    cases hp : p k with
    | false => exact ih _ ⟨k + 1, h, rfl, fun j hj => by
        by_cases e : j = k
        · rw [e]; exact hp
        · exact hb j (by omega)⟩ (by simp; omega)
    | true => rw [find_range_some h hp hb]; rfl
  · have : k = len := by omega
    subst this
    rw [hfin _ hb, find_range_none hb]
theorem loop_idx {b : Int → (Int → Option Int) → Option Int} {len : Nat} {p : Nat → Bool} (hlen : len ≤ 9223372036854775807)
    (hstep : ∀ (k : Nat) (J : Int → Option Int), k < len → (∀ j, j < k → p j = false) → b (k : Int) J = bif p k then some (k : Int) else J ((k + 1 : Nat) : Int)) (hfin : ∀ J, (∀ j, j < len → p j = false) → b (len : Int) J = some (-1)) {n : Nat} (hn : len < n) :
    loopN b n (0 : Int) = some (idxOf p len) := by
  rw [loop_find (yes := fun k => some (k : Int)) (no := some (-1)) hlen hstep hfin hn]
  unfold idxOf
  cases (List.range len).find? p <;> rfl
theorem byteAt_rng (s : ByteArray) (k : Nat) : 0 ≤ byteAt s k ∧ byteAt s k ≤ 255 := by
  unfold byteAt
  have := (s.data.getD k 0).toNat_lt
  omega
theorem range_any {α : Type} {l : List α} {d : α} {f : α → Bool} : (List.range l.length).any (fun k => f (l.getD k d)) = l.any f := by
  induction l with
  | nil => rfl
  | cons a l ih =>
    rw [List.length_cons, List.range_succ_eq_map, List.any_cons, List.any_map, List.any_cons, ← ih]
    rfl
theorem range_all {α : Type} {l : List α} {d : α} {f : α → Bool} : (List.range l.length).all (fun k => f (l.getD k d)) = l.all f := by
  induction l with
  | nil => rfl
  | cons a l ih =>
    rw [List.length_cons, List.range_succ_eq_map, List.all_cons, List.all_map, List.all_cons, ← ih]
    rfl
theorem all_congr_lt {p q : Nat → Bool} {m : Nat} (h : ∀ k, k < m → p k = q k) : (List.range m).all p = (List.range m).all q := by
  rw [Bool.eq_iff_iff, List.all_eq_true, List.all_eq_true]
  constructor
  · intro g x hx; rw [← h x (List.mem_range.1 hx)]; exact g x hx
  · intro g x hx; rw [h x (List.mem_range.1 hx)]; exact g x hx
theorem any_congr_lt {p q : Nat → Bool} {m : Nat} (h : ∀ k, k < m → p k = q k) : (List.range m).any p = (List.range m).any q := by
  rw [Bool.eq_iff_iff, List.any_eq_true, List.any_eq_true]
  constructor
  · rintro ⟨x, hx, g⟩; exact ⟨x, hx, by rw [← h x (List.mem_range.1 hx)]; exact g⟩
  · rintro ⟨x, hx, g⟩; exact ⟨x, hx, by rw [h x (List.mem_range.1 hx)]; exact g⟩
theorem guard_sz {w : Nat} {x : Option Bool} (h : w ≤ 1048576 → x = some true) : (bif decide ((if (w : Int) ≤ 1048576 then 1048576 - (w : Int) else -1) < 0) then some true else x) = some true := by
  by_cases c : (w : Int) ≤ 1048576
  · rw [if_pos c, decide_eq_false (by omega), cond_false]
    exact h (by omega)
  · rw [if_neg c]
    rfl
end Go.Sm
end

section
set_option linter.unusedSimpArgs false
set_option linter.deprecated false
set_option linter.unusedSectionVars false
set_option linter.unusedVariables false
set_option linter.unusedSimpArgs false
namespace Go.Sm
attribute [local irreducible] bd chk ix loopN
def w_LSCall (a : List SCall) : Nat := a.length
theorem laws_szCallS_ok {n : Nat} (a : List SCall) {left : Int} (h : (a.length ≤ 9223372036854775807 ∧ ∀ y ∈ a, wfSCall y)) (h0 : 0 ≤ left) (h1 : left ≤ 1048576) (hn : 1000000000 < n) : laws_szCallS n a left = some (if (w_LSCall a : Int) ≤ left then left - (w_LSCall a : Int) else -1) := by
  have hw : w_LSCall a = a.length := rfl
  unfold laws_szCallS
  rw [w64_id (by have := h.1; omega) (by omega), bd_eq, bif_dec]
  by_cases c : (a.length : Int) ≤ left
  · rw [if_neg (by omega), if_pos (by omega)]
    congr 1
  · rw [if_pos (by omega), if_neg (by omega)]
def w_LInt (a : List Int) : Nat := a.length
theorem laws_szIntS_ok {n : Nat} (a : List Int) {left : Int} (h : (a.length ≤ 9223372036854775807 ∧ ∀ y ∈ a, rng (-9223372036854775808) 9223372036854775807 y)) (h0 : 0 ≤ left) (h1 : left ≤ 1048576) (hn : 1000000000 < n) : laws_szIntS n a left = some (if (w_LInt a : Int) ≤ left then left - (w_LInt a : Int) else -1) := by
  have hw : w_LInt a = a.length := rfl
  unfold laws_szIntS
  rw [w64_id (by have := h.1; omega) (by omega), bd_eq, bif_dec]
  by_cases c : (a.length : Int) ≤ left
  · rw [if_neg (by omega), if_pos (by omega)]
    congr 1
  · rw [if_pos (by omega), if_neg (by omega)]
def w_LLInt (a : List (List Int)) : Nat := a.length + sumOf (fun y => w_LInt y) a
theorem laws_szIntSS_ok {n : Nat} (a : List (List Int)) {left : Int} (h : (a.length ≤ 9223372036854775807 ∧ ∀ y ∈ a, (y.length ≤ 9223372036854775807 ∧ ∀ z ∈ y, rng (-9223372036854775808) 9223372036854775807 z))) (h0 : 0 ≤ left) (h1 : left ≤ 1048576) (hn : 1000000000 < n) : laws_szIntSS n a left = some (if (w_LLInt a : Int) ≤ left then left - (w_LLInt a : Int) else -1) := by
  have hw : w_LLInt a = a.length + sumOf (fun y => w_LInt y) a := rfl
  unfold laws_szIntSS
  rw [w64_id (by have := h.1; omega) (by omega), bd_eq, bif_dec]
  by_cases c : (a.length : Int) ≤ left
  case neg => rw [if_pos (by omega), if_neg (by omega)]
  rw [if_neg (by omega)]
  refine loopN_ind (fun x => a.length - x.2.toNat) (fun x => ∃ k : Nat, k ≤ a.length ∧ x = (left - (a.length : Int) - (sumOf (fun y => w_LInt y) (a.take k) : Int), (k : Int)) ∧ (sumOf (fun y => w_LInt y) (a.take k) : Int) ≤ left - (a.length : Int))
    (fun x r => r = some (if (w_LLInt a : Int) ≤ left then left - (w_LLInt a : Int) else -1)) ?_ n _ ⟨0, by omega, by simp [sumOf], by simp [sumOf]; omega⟩ (by simp; omega)
  rintro _ J ⟨k, hk, rfl, hb⟩ ih
  unfold laws_szIntSS_L5
  by_cases h2 : k < a.length
  · have s1 := sumOf_take_succ (f := fun y => w_LInt y) (d := []) h2
    have s2 := sumOf_take_le (fun y => w_LInt y) a (k + 1)
    try simp only at s1
    simp only [Int.ofNat_lt, h2, decide_true, cond_true, ix_nat h2, Int.toNat_natCast, bd_eq]
    rw [laws_szIntS_ok (n := n) (a.getD k []) (h.2 _ (getD_mem h2)) (by omega) (by omega) hn, Option.bind_some, bif_dec]
    by_cases c2 : (w_LInt (a.getD k []) : Int) ≤ left - (a.length : Int) - (sumOf (fun y => w_LInt y) (a.take k) : Int)
    · rw [if_pos c2, if_neg (by omega), w64_succ (by omega)]
      exact ih (_, ((k + 1 : Nat) : Int)) ⟨k + 1, h2, Prod.ext (by dsimp only; omega) rfl, by omega⟩ (by simp; omega)
    · rw [if_neg c2, if_pos (by omega), if_neg (by omega)]
  · have : k = a.length := by omega
    subst this
    rw [List.take_length] at hb ⊢
    simp only [Int.lt_irrefl, decide_false, cond_false]
    rw [if_pos (by omega)]
    congr 1
    omega
def w_SYard (a : SYard) : Nat := w_LLInt a.Stacks
theorem laws_szYard_ok {n : Nat} (a : SYard) {left : Int} (h : wfSYard a) (h0 : 0 ≤ left) (h1 : left ≤ 1048576) (hn : 1000000000 < n) : laws_szYard n a left = some (if (w_SYard a : Int) ≤ left then left - (w_SYard a : Int) else -1) := by
  have hw : w_SYard a = w_LLInt a.Stacks := rfl
  unfold laws_szYard
  rw [laws_szIntSS_ok (n := n) a.Stacks h.2 (by omega) (by omega) hn, Option.bind_some, bif_dec]
  by_cases c0 : (w_LLInt a.Stacks : Int) ≤ left
  case neg => rw [if_neg c0, if_pos (by omega), if_neg (by omega)]
  rw [if_pos c0, if_neg (by omega)]
  rw [if_pos (by omega)]
  try (refine congrArg some ?_; omega)
def w_LBA (a : List ByteArray) : Nat := a.length + sumOf (fun y => y.size) a
theorem laws_szStringS_ok {n : Nat} (a : List ByteArray) {left : Int} (h : (a.length ≤ 9223372036854775807 ∧ ∀ y ∈ a, y.size ≤ 9223372036854775807)) (h0 : 0 ≤ left) (h1 : left ≤ 1048576) (hn : 1000000000 < n) : laws_szStringS n a left = some (if (w_LBA a : Int) ≤ left then left - (w_LBA a : Int) else -1) := by
  have hw : w_LBA a = a.length + sumOf (fun y => y.size) a := rfl
  unfold laws_szStringS
  rw [w64_id (by have := h.1; omega) (by omega), bd_eq, bif_dec]
  by_cases c : (a.length : Int) ≤ left
  case neg => rw [if_pos (by omega), if_neg (by omega)]
  rw [if_neg (by omega)]
  refine loopN_ind (fun x => a.length - x.2.toNat) (fun x => ∃ k : Nat, k ≤ a.length ∧ x = (left - (a.length : Int) - (sumOf (fun y => y.size) (a.take k) : Int), (k : Int)) ∧ (sumOf (fun y => y.size) (a.take k) : Int) ≤ left - (a.length : Int))
    (fun x r => r = some (if (w_LBA a : Int) ≤ left then left - (w_LBA a : Int) else -1)) ?_ n _ ⟨0, by omega, by simp [sumOf], by simp [sumOf]; omega⟩ (by simp; omega)
  rintro _ J ⟨k, hk, rfl, hb⟩ ih
  unfold laws_szStringS_L5
  by_cases h2 : k < a.length
  · have s1 := sumOf_take_succ (f := fun y => y.size) (d := (str [])) h2
    have s2 := sumOf_take_le (fun y => y.size) a (k + 1)
    try simp only at s1
    simp only [Int.ofNat_lt, h2, decide_true, cond_true, ix_nat h2, Int.toNat_natCast, bd_eq]
    rw [w64_id (by have := h.2 _ (getD_mem (d := (str [])) h2); omega) (by omega), bif_dec]
    by_cases c2 : ((a.getD k (str [])).size : Int) ≤ left - (a.length : Int) - (sumOf (fun y => y.size) (a.take k) : Int)
    · rw [if_neg (by omega), w64_succ (by omega)]
      exact ih (_, ((k + 1 : Nat) : Int)) ⟨k + 1, h2, Prod.ext (by dsimp only; omega) rfl, by omega⟩ (by simp; omega)
    · rw [if_pos (by omega), if_neg (by omega)]
  · have : k = a.length := by omega
    subst this
    rw [List.take_length] at hb ⊢
    simp only [Int.lt_irrefl, decide_false, cond_false]
    rw [if_pos (by omega)]
    congr 1
    omega
def w_SBill (a : SBill) : Nat := a.Shipper.size + a.Order.size + w_LBA a.Held
theorem laws_szBill_ok {n : Nat} (a : SBill) {left : Int} (h : wfSBill a) (h0 : 0 ≤ left) (h1 : left ≤ 1048576) (hn : 1000000000 < n) : laws_szBill n a left = some (if (w_SBill a : Int) ≤ left then left - (w_SBill a : Int) else -1) := by
  have hw : w_SBill a = a.Shipper.size + a.Order.size + w_LBA a.Held := rfl
  unfold laws_szBill
  rw [w64_id (by have := h.2.1; omega) (by omega), bd_eq, bif_dec]
  by_cases c0 : (a.Shipper.size : Int) ≤ left
  case neg => rw [if_pos (by omega), if_neg (by omega)]
  rw [if_neg (by omega)]
  rw [w64_id (by have := h.2.2.1; omega) (by omega), bd_eq, bif_dec]
  by_cases c1 : (a.Order.size : Int) ≤ left - (a.Shipper.size : Int)
  case neg => rw [if_pos (by omega), if_neg (by omega)]
  rw [if_neg (by omega)]
  rw [laws_szStringS_ok (n := n) a.Held h.2.2.2.2 (by omega) (by omega) hn, Option.bind_some, bif_dec]
  by_cases c2 : (w_LBA a.Held : Int) ≤ left - (a.Shipper.size : Int) - (a.Order.size : Int)
  case neg => rw [if_neg c2, if_pos (by omega), if_neg (by omega)]
  rw [if_pos c2, if_neg (by omega)]
  rw [if_pos (by omega)]
  try (refine congrArg some ?_; omega)
def w_LSBill (a : List SBill) : Nat := a.length + sumOf (fun y => w_SBill y) a
theorem laws_szBillS_ok {n : Nat} (a : List SBill) {left : Int} (h : (a.length ≤ 9223372036854775807 ∧ ∀ y ∈ a, wfSBill y)) (h0 : 0 ≤ left) (h1 : left ≤ 1048576) (hn : 1000000000 < n) : laws_szBillS n a left = some (if (w_LSBill a : Int) ≤ left then left - (w_LSBill a : Int) else -1) := by
  have hw : w_LSBill a = a.length + sumOf (fun y => w_SBill y) a := rfl
  unfold laws_szBillS
  rw [w64_id (by have := h.1; omega) (by omega), bd_eq, bif_dec]
  by_cases c : (a.length : Int) ≤ left
  case neg => rw [if_pos (by omega), if_neg (by omega)]
  rw [if_neg (by omega)]
  refine loopN_ind (fun x => a.length - x.2.toNat) (fun x => ∃ k : Nat, k ≤ a.length ∧ x = (left - (a.length : Int) - (sumOf (fun y => w_SBill y) (a.take k) : Int), (k : Int)) ∧ (sumOf (fun y => w_SBill y) (a.take k) : Int) ≤ left - (a.length : Int))
    (fun x r => r = some (if (w_LSBill a : Int) ≤ left then left - (w_LSBill a : Int) else -1)) ?_ n _ ⟨0, by omega, by simp [sumOf], by simp [sumOf]; omega⟩ (by simp; omega)
  rintro _ J ⟨k, hk, rfl, hb⟩ ih
  unfold laws_szBillS_L5
  by_cases h2 : k < a.length
  · have s1 := sumOf_take_succ (f := fun y => w_SBill y) (d := dSBill) h2
    have s2 := sumOf_take_le (fun y => w_SBill y) a (k + 1)
    try simp only at s1
    simp only [Int.ofNat_lt, h2, decide_true, cond_true, ix_nat h2, Int.toNat_natCast, bd_eq]
    rw [laws_szBill_ok (n := n) (a.getD k dSBill) (h.2 _ (getD_mem h2)) (by omega) (by omega) hn, Option.bind_some, bif_dec]
    by_cases c2 : (w_SBill (a.getD k dSBill) : Int) ≤ left - (a.length : Int) - (sumOf (fun y => w_SBill y) (a.take k) : Int)
    · rw [if_pos c2, if_neg (by omega), w64_succ (by omega)]
      exact ih (_, ((k + 1 : Nat) : Int)) ⟨k + 1, h2, Prod.ext (by dsimp only; omega) rfl, by omega⟩ (by simp; omega)
    · rw [if_neg c2, if_pos (by omega), if_neg (by omega)]
  · have : k = a.length := by omega
    subst this
    rw [List.take_length] at hb ⊢
    simp only [Int.lt_irrefl, decide_false, cond_false]
    rw [if_pos (by omega)]
    congr 1
    omega
def w_SBook (a : SBook) : Nat := w_LSBill a.Bills + w_LInt a.Freed
theorem laws_szBook_ok {n : Nat} (a : SBook) {left : Int} (h : wfSBook a) (h0 : 0 ≤ left) (h1 : left ≤ 1048576) (hn : 1000000000 < n) : laws_szBook n a left = some (if (w_SBook a : Int) ≤ left then left - (w_SBook a : Int) else -1) := by
  have hw : w_SBook a = w_LSBill a.Bills + w_LInt a.Freed := rfl
  unfold laws_szBook
  rw [laws_szBillS_ok (n := n) a.Bills h.1 (by omega) (by omega) hn, Option.bind_some, bif_dec]
  by_cases c0 : (w_LSBill a.Bills : Int) ≤ left
  case neg => rw [if_neg c0, if_pos (by omega), if_neg (by omega)]
  rw [if_pos c0, if_neg (by omega)]
  rw [laws_szIntS_ok (n := n) a.Freed h.2 (by omega) (by omega) hn, Option.bind_some, bif_dec]
  by_cases c1 : (w_LInt a.Freed : Int) ≤ left - (w_LSBill a.Bills : Int)
  case neg => rw [if_neg c1, if_pos (by omega), if_neg (by omega)]
  rw [if_pos c1, if_neg (by omega)]
  rw [if_pos (by omega)]
  try (refine congrArg some ?_; omega)
def w_LSLot (a : List SLot) : Nat := a.length
theorem laws_szLotS_ok {n : Nat} (a : List SLot) {left : Int} (h : (a.length ≤ 9223372036854775807 ∧ ∀ y ∈ a, wfSLot y)) (h0 : 0 ≤ left) (h1 : left ≤ 1048576) (hn : 1000000000 < n) : laws_szLotS n a left = some (if (w_LSLot a : Int) ≤ left then left - (w_LSLot a : Int) else -1) := by
  have hw : w_LSLot a = a.length := rfl
  unfold laws_szLotS
  rw [w64_id (by have := h.1; omega) (by omega), bd_eq, bif_dec]
  by_cases c : (a.length : Int) ≤ left
  · rw [if_neg (by omega), if_pos (by omega)]
    congr 1
  · rw [if_pos (by omega), if_neg (by omega)]
def w_LSTrader (a : List STrader) : Nat := a.length
theorem laws_szTraderS_ok {n : Nat} (a : List STrader) {left : Int} (h : (a.length ≤ 9223372036854775807 ∧ ∀ y ∈ a, wfSTrader y)) (h0 : 0 ≤ left) (h1 : left ≤ 1048576) (hn : 1000000000 < n) : laws_szTraderS n a left = some (if (w_LSTrader a : Int) ≤ left then left - (w_LSTrader a : Int) else -1) := by
  have hw : w_LSTrader a = a.length := rfl
  unfold laws_szTraderS
  rw [w64_id (by have := h.1; omega) (by omega), bd_eq, bif_dec]
  by_cases c : (a.length : Int) ≤ left
  · rw [if_neg (by omega), if_pos (by omega)]
    congr 1
  · rw [if_pos (by omega), if_neg (by omega)]
def w_SHouse (a : SHouse) : Nat := w_LSLot a.Lots + w_LSTrader a.Traders
theorem laws_szHouse_ok {n : Nat} (a : SHouse) {left : Int} (h : wfSHouse a) (h0 : 0 ≤ left) (h1 : left ≤ 1048576) (hn : 1000000000 < n) : laws_szHouse n a left = some (if (w_SHouse a : Int) ≤ left then left - (w_SHouse a : Int) else -1) := by
  have hw : w_SHouse a = w_LSLot a.Lots + w_LSTrader a.Traders := rfl
  unfold laws_szHouse
  rw [laws_szLotS_ok (n := n) a.Lots h.1 (by omega) (by omega) hn, Option.bind_some, bif_dec]
  by_cases c0 : (w_LSLot a.Lots : Int) ≤ left
  case neg => rw [if_neg c0, if_pos (by omega), if_neg (by omega)]
  rw [if_pos c0, if_neg (by omega)]
  rw [laws_szTraderS_ok (n := n) a.Traders h.2.1 (by omega) (by omega) hn, Option.bind_some, bif_dec]
  by_cases c1 : (w_LSTrader a.Traders : Int) ≤ left - (w_LSLot a.Lots : Int)
  case neg => rw [if_neg c1, if_pos (by omega), if_neg (by omega)]
  rw [if_pos c1, if_neg (by omega)]
  rw [if_pos (by omega)]
  try (refine congrArg some ?_; omega)
def w_SPort (a : SPort) : Nat := w_LSCall a.Calls + w_SYard a.Yard + w_SBook a.Book + w_SHouse a.House
theorem laws_szPort_ok {n : Nat} (a : SPort) {left : Int} (h : wfSPort a) (h0 : 0 ≤ left) (h1 : left ≤ 1048576) (hn : 1000000000 < n) : laws_szPort n a left = some (if (w_SPort a : Int) ≤ left then left - (w_SPort a : Int) else -1) := by
  have hw : w_SPort a = w_LSCall a.Calls + w_SYard a.Yard + w_SBook a.Book + w_SHouse a.House := rfl
  unfold laws_szPort laws_szPort_k0
  rw [laws_szCallS_ok (n := n) a.Calls h.2.1 (by omega) (by omega) hn, Option.bind_some, bif_dec]
  by_cases c0 : (w_LSCall a.Calls : Int) ≤ left
  case neg => rw [if_neg c0, if_pos (by omega), if_neg (by omega)]
  rw [if_pos c0, if_neg (by omega)]
  rw [laws_szYard_ok (n := n) a.Yard h.2.2.1 (by omega) (by omega) hn, Option.bind_some, bif_dec]
  by_cases c1 : (w_SYard a.Yard : Int) ≤ left - (w_LSCall a.Calls : Int)
  case neg => rw [if_neg c1, if_pos (by omega), if_neg (by omega)]
  rw [if_pos c1, if_neg (by omega)]
  rw [laws_szBook_ok (n := n) a.Book h.2.2.2.1 (by omega) (by omega) hn, Option.bind_some, bif_dec]
  by_cases c2 : (w_SBook a.Book : Int) ≤ left - (w_LSCall a.Calls : Int) - (w_SYard a.Yard : Int)
  case neg => rw [if_neg c2, if_pos (by omega), if_neg (by omega)]
  rw [if_pos c2, if_neg (by omega)]
  rw [laws_szHouse_ok (n := n) a.House h.2.2.2.2 (by omega) (by omega) hn, Option.bind_some, bif_dec]
  by_cases c3 : (w_SHouse a.House : Int) ≤ left - (w_LSCall a.Calls : Int) - (w_SYard a.Yard : Int) - (w_SBook a.Book : Int)
  case neg => rw [if_neg c3, if_pos (by omega), if_neg (by omega)]
  rw [if_pos c3, if_neg (by omega)]
  rw [if_pos (by omega)]
  try (refine congrArg some ?_; omega)
theorem laws_toCall_ok (n : Nat) (a : SCall) : laws_toCall n a = some a := by simp [laws_toCall]
theorem laws_toCallS_ok {n : Nat} (a : List SCall) (hb : w_LSCall a ≤ 100000000) (hn : 1000000000 < n) : laws_toCallS n a = some a := by
  have hw0 : a.length ≤ 100000000 := by have hw : w_LSCall a = a.length := rfl; omega
  unfold laws_toCallS
  rw [chk_dec (by omega), chk_dec (by omega), chk_dec (by omega)]
  refine loopN_ind (fun x => a.length - x.1.toNat) (fun x => ∃ k : Nat, k ≤ a.length ∧ x = ((k : Int), a.take k ++ (List.replicate a.length dSCall).drop k)) (fun x r => r = some a) ?_ n _ ⟨0, by omega, by simp⟩ (by simp; omega)
  rintro _ J ⟨k, hk, rfl⟩ ih
  unfold laws_toCallS_L3
  dsimp only
  have hl : (a.take k ++ (List.replicate a.length dSCall).drop k).length = a.length := by simp; omega
  by_cases h : k < a.length
  · have g := ih (((k + 1 : Nat) : Int), a.take (k + 1) ++ (List.replicate a.length dSCall).drop (k + 1)) ⟨k + 1, h, rfl⟩ (by simp; omega)
    have hk2 : k < (a.take k ++ (List.replicate a.length dSCall).drop k).length := by omega
    simp only [Int.ofNat_lt, h, hk2, decide_true, cond_true, ix_nat h, ix_nat hk2, chk_of, bd_eq, Option.bind_some, Int.toNat_natCast, w64_succ (show k < 9223372036854775807 by omega), laws_toCall_ok]
    rw [take_drop_set (d := dSCall) h rfl rfl]
    exact g
  · have : k = a.length := by omega
    subst this
    simp
theorem laws_toIntS_ok {n : Nat} (a : List Int) (hb : w_LInt a ≤ 100000000) (hn : 1000000000 < n) : laws_toIntS n a = some a := by
  have hw0 : a.length ≤ 100000000 := by have hw : w_LInt a = a.length := rfl; omega
  unfold laws_toIntS
  rw [chk_dec (by omega), chk_dec (by omega), chk_dec (by omega)]
  refine loopN_ind (fun x => a.length - x.1.toNat) (fun x => ∃ k : Nat, k ≤ a.length ∧ x = ((k : Int), a.take k ++ (List.replicate a.length (0 : Int)).drop k)) (fun x r => r = some a) ?_ n _ ⟨0, by omega, by simp⟩ (by simp; omega)
  rintro _ J ⟨k, hk, rfl⟩ ih
  unfold laws_toIntS_L3
  dsimp only
  have hl : (a.take k ++ (List.replicate a.length (0 : Int)).drop k).length = a.length := by simp; omega
  by_cases h : k < a.length
  · have g := ih (((k + 1 : Nat) : Int), a.take (k + 1) ++ (List.replicate a.length (0 : Int)).drop (k + 1)) ⟨k + 1, h, rfl⟩ (by simp; omega)
    have hk2 : k < (a.take k ++ (List.replicate a.length (0 : Int)).drop k).length := by omega
    simp only [Int.ofNat_lt, h, hk2, decide_true, cond_true, ix_nat h, ix_nat hk2, chk_of, bd_eq, Option.bind_some, Int.toNat_natCast, w64_succ (show k < 9223372036854775807 by omega)]
    rw [take_drop_set (d := (0 : Int)) h rfl rfl]
    exact g
  · have : k = a.length := by omega
    subst this
    simp
theorem laws_toIntSS_ok {n : Nat} (a : List (List Int)) (hb : w_LLInt a ≤ 100000000) (hn : 1000000000 < n) : laws_toIntSS n a = some a := by
  have hw0 : a.length ≤ 100000000 := by have hw : w_LLInt a = a.length + sumOf (fun y => w_LInt y) a := rfl; omega
  unfold laws_toIntSS
  rw [chk_dec (by omega), chk_dec (by omega), chk_dec (by omega)]
  refine loopN_ind (fun x => a.length - x.1.toNat) (fun x => ∃ k : Nat, k ≤ a.length ∧ x = ((k : Int), a.take k ++ (List.replicate a.length []).drop k)) (fun x r => r = some a) ?_ n _ ⟨0, by omega, by simp⟩ (by simp; omega)
  rintro _ J ⟨k, hk, rfl⟩ ih
  unfold laws_toIntSS_L3
  dsimp only
  have hl : (a.take k ++ (List.replicate a.length []).drop k).length = a.length := by simp; omega
  by_cases h : k < a.length
  · have g := ih (((k + 1 : Nat) : Int), a.take (k + 1) ++ (List.replicate a.length []).drop (k + 1)) ⟨k + 1, h, rfl⟩ (by simp; omega)
    have s1 := sumOf_mem (f := fun y => w_LInt y) (d := []) h
    have hw : w_LLInt a = a.length + sumOf (fun y => w_LInt y) a := rfl
    try simp only at s1
    have hk2 : k < (a.take k ++ (List.replicate a.length []).drop k).length := by omega
    simp only [Int.ofNat_lt, h, hk2, decide_true, cond_true, ix_nat h, ix_nat hk2, chk_of, bd_eq, Option.bind_some, Int.toNat_natCast, w64_succ (show k < 9223372036854775807 by omega), laws_toIntS_ok (n := n) (a.getD k []) (by omega) hn]
    rw [take_drop_set (d := []) h rfl rfl]
    exact g
  · have : k = a.length := by omega
    subst this
    simp
theorem laws_toYard_ok {n : Nat} (a : SYard) (h : w_SYard a ≤ 100000000) (hn : 1000000000 < n) : laws_toYard n a = some a := by
  have hw : w_SYard a = w_LLInt a.Stacks := rfl
  simp [laws_toYard, laws_toIntSS_ok (n := n) a.Stacks (by omega) hn]
theorem laws_toStringS_ok {n : Nat} (a : List ByteArray) (hb : w_LBA a ≤ 100000000) (hn : 1000000000 < n) : laws_toStringS n a = some a := by
  have hw0 : a.length ≤ 100000000 := by have hw : w_LBA a = a.length + sumOf (fun y => y.size) a := rfl; omega
  unfold laws_toStringS
  rw [chk_dec (by omega), chk_dec (by omega), chk_dec (by omega)]
  refine loopN_ind (fun x => a.length - x.1.toNat) (fun x => ∃ k : Nat, k ≤ a.length ∧ x = ((k : Int), a.take k ++ (List.replicate a.length (str [])).drop k)) (fun x r => r = some a) ?_ n _ ⟨0, by omega, by simp⟩ (by simp; omega)
  rintro _ J ⟨k, hk, rfl⟩ ih
  unfold laws_toStringS_L3
  dsimp only
  have hl : (a.take k ++ (List.replicate a.length (str [])).drop k).length = a.length := by simp; omega
  by_cases h : k < a.length
  · have g := ih (((k + 1 : Nat) : Int), a.take (k + 1) ++ (List.replicate a.length (str [])).drop (k + 1)) ⟨k + 1, h, rfl⟩ (by simp; omega)
    have s1 := sumOf_mem (f := fun y => y.size) (d := (str [])) h
    have hw : w_LBA a = a.length + sumOf (fun y => y.size) a := rfl
    try simp only at s1
    have hk2 : k < (a.take k ++ (List.replicate a.length (str [])).drop k).length := by omega
    simp only [Int.ofNat_lt, h, hk2, decide_true, cond_true, ix_nat h, ix_nat hk2, chk_of, bd_eq, Option.bind_some, Int.toNat_natCast, w64_succ (show k < 9223372036854775807 by omega)]
    rw [take_drop_set (d := (str [])) h rfl rfl]
    exact g
  · have : k = a.length := by omega
    subst this
    simp
theorem laws_toBill_ok {n : Nat} (a : SBill) (h : w_SBill a ≤ 100000000) (hn : 1000000000 < n) : laws_toBill n a = some a := by
  have hw : w_SBill a = a.Shipper.size + a.Order.size + w_LBA a.Held := rfl
  simp [laws_toBill, laws_toStringS_ok (n := n) a.Held (by omega) hn]
theorem laws_toBillS_ok {n : Nat} (a : List SBill) (hb : w_LSBill a ≤ 100000000) (hn : 1000000000 < n) : laws_toBillS n a = some a := by
  have hw0 : a.length ≤ 100000000 := by have hw : w_LSBill a = a.length + sumOf (fun y => w_SBill y) a := rfl; omega
  unfold laws_toBillS
  rw [chk_dec (by omega), chk_dec (by omega), chk_dec (by omega)]
  refine loopN_ind (fun x => a.length - x.1.toNat) (fun x => ∃ k : Nat, k ≤ a.length ∧ x = ((k : Int), a.take k ++ (List.replicate a.length dSBill).drop k)) (fun x r => r = some a) ?_ n _ ⟨0, by omega, by simp⟩ (by simp; omega)
  rintro _ J ⟨k, hk, rfl⟩ ih
  unfold laws_toBillS_L3
  dsimp only
  have hl : (a.take k ++ (List.replicate a.length dSBill).drop k).length = a.length := by simp; omega
  by_cases h : k < a.length
  · have g := ih (((k + 1 : Nat) : Int), a.take (k + 1) ++ (List.replicate a.length dSBill).drop (k + 1)) ⟨k + 1, h, rfl⟩ (by simp; omega)
    have s1 := sumOf_mem (f := fun y => w_SBill y) (d := dSBill) h
    have hw : w_LSBill a = a.length + sumOf (fun y => w_SBill y) a := rfl
    try simp only at s1
    have hk2 : k < (a.take k ++ (List.replicate a.length dSBill).drop k).length := by omega
    simp only [Int.ofNat_lt, h, hk2, decide_true, cond_true, ix_nat h, ix_nat hk2, chk_of, bd_eq, Option.bind_some, Int.toNat_natCast, w64_succ (show k < 9223372036854775807 by omega), laws_toBill_ok (n := n) (a.getD k dSBill) (by omega) hn]
    rw [take_drop_set (d := dSBill) h rfl rfl]
    exact g
  · have : k = a.length := by omega
    subst this
    simp
theorem laws_toBook_ok {n : Nat} (a : SBook) (h : w_SBook a ≤ 100000000) (hn : 1000000000 < n) : laws_toBook n a = some a := by
  have hw : w_SBook a = w_LSBill a.Bills + w_LInt a.Freed := rfl
  simp [laws_toBook, laws_toBillS_ok (n := n) a.Bills (by omega) hn, laws_toIntS_ok (n := n) a.Freed (by omega) hn]
theorem laws_toLot_ok (n : Nat) (a : SLot) : laws_toLot n a = some a := by simp [laws_toLot]
theorem laws_toLotS_ok {n : Nat} (a : List SLot) (hb : w_LSLot a ≤ 100000000) (hn : 1000000000 < n) : laws_toLotS n a = some a := by
  have hw0 : a.length ≤ 100000000 := by have hw : w_LSLot a = a.length := rfl; omega
  unfold laws_toLotS
  rw [chk_dec (by omega), chk_dec (by omega), chk_dec (by omega)]
  refine loopN_ind (fun x => a.length - x.1.toNat) (fun x => ∃ k : Nat, k ≤ a.length ∧ x = ((k : Int), a.take k ++ (List.replicate a.length dSLot).drop k)) (fun x r => r = some a) ?_ n _ ⟨0, by omega, by simp⟩ (by simp; omega)
  rintro _ J ⟨k, hk, rfl⟩ ih
  unfold laws_toLotS_L3
  dsimp only
  have hl : (a.take k ++ (List.replicate a.length dSLot).drop k).length = a.length := by simp; omega
  by_cases h : k < a.length
  · have g := ih (((k + 1 : Nat) : Int), a.take (k + 1) ++ (List.replicate a.length dSLot).drop (k + 1)) ⟨k + 1, h, rfl⟩ (by simp; omega)
    have hk2 : k < (a.take k ++ (List.replicate a.length dSLot).drop k).length := by omega
    simp only [Int.ofNat_lt, h, hk2, decide_true, cond_true, ix_nat h, ix_nat hk2, chk_of, bd_eq, Option.bind_some, Int.toNat_natCast, w64_succ (show k < 9223372036854775807 by omega), laws_toLot_ok]
    rw [take_drop_set (d := dSLot) h rfl rfl]
    exact g
  · have : k = a.length := by omega
    subst this
    simp
theorem laws_toTrader_ok (n : Nat) (a : STrader) : laws_toTrader n a = some a := by simp [laws_toTrader]
theorem laws_toTraderS_ok {n : Nat} (a : List STrader) (hb : w_LSTrader a ≤ 100000000) (hn : 1000000000 < n) : laws_toTraderS n a = some a := by
  have hw0 : a.length ≤ 100000000 := by have hw : w_LSTrader a = a.length := rfl; omega
  unfold laws_toTraderS
  rw [chk_dec (by omega), chk_dec (by omega), chk_dec (by omega)]
  refine loopN_ind (fun x => a.length - x.1.toNat) (fun x => ∃ k : Nat, k ≤ a.length ∧ x = ((k : Int), a.take k ++ (List.replicate a.length dSTrader).drop k)) (fun x r => r = some a) ?_ n _ ⟨0, by omega, by simp⟩ (by simp; omega)
  rintro _ J ⟨k, hk, rfl⟩ ih
  unfold laws_toTraderS_L3
  dsimp only
  have hl : (a.take k ++ (List.replicate a.length dSTrader).drop k).length = a.length := by simp; omega
  by_cases h : k < a.length
  · have g := ih (((k + 1 : Nat) : Int), a.take (k + 1) ++ (List.replicate a.length dSTrader).drop (k + 1)) ⟨k + 1, h, rfl⟩ (by simp; omega)
    have hk2 : k < (a.take k ++ (List.replicate a.length dSTrader).drop k).length := by omega
    simp only [Int.ofNat_lt, h, hk2, decide_true, cond_true, ix_nat h, ix_nat hk2, chk_of, bd_eq, Option.bind_some, Int.toNat_natCast, w64_succ (show k < 9223372036854775807 by omega), laws_toTrader_ok]
    rw [take_drop_set (d := dSTrader) h rfl rfl]
    exact g
  · have : k = a.length := by omega
    subst this
    simp
theorem laws_toHouse_ok {n : Nat} (a : SHouse) (h : w_SHouse a ≤ 100000000) (hn : 1000000000 < n) : laws_toHouse n a = some a := by
  have hw : w_SHouse a = w_LSLot a.Lots + w_LSTrader a.Traders := rfl
  simp [laws_toHouse, laws_toLotS_ok (n := n) a.Lots (by omega) hn, laws_toTraderS_ok (n := n) a.Traders (by omega) hn]
theorem laws_toPort_ok {n : Nat} (a : SPort) (h : w_SPort a ≤ 100000000) (hn : 1000000000 < n) : laws_toPort n a = some a := by
  have hw : w_SPort a = w_LSCall a.Calls + w_SYard a.Yard + w_SBook a.Book + w_SHouse a.House := rfl
  simp [laws_toPort, laws_toCallS_ok (n := n) a.Calls (by omega) hn, laws_toYard_ok (n := n) a.Yard (by omega) hn, laws_toBook_ok (n := n) a.Book (by omega) hn, laws_toHouse_ok (n := n) a.House (by omega) hn]
theorem laws_eqCall_ok (n : Nat) (a : SCall) : laws_eqCall n a a = some true := by simp [laws_eqCall]
theorem laws_eqCallS_ok {n : Nat} (a : List SCall) (hb : w_LSCall a ≤ 100000000) (hn : 1000000000 < n) : laws_eqCallS n a a = some true := by
  have hw0 : a.length ≤ 100000000 := by have hw : w_LSCall a = a.length := rfl; omega
  unfold laws_eqCallS
  simp only [decide_true, Bool.not_true, cond_false]
  refine loopN_ind (fun x => a.length - x.toNat) (fun x => ∃ k : Nat, k ≤ a.length ∧ x = (k : Int)) (fun x r => r = some true) ?_ n _ ⟨0, by omega, rfl⟩ (by simp; omega)
  rintro _ J ⟨k, hk, rfl⟩ ih
  unfold laws_eqCallS_L4
  by_cases h : k < a.length
  · have g := ih ((k + 1 : Nat) : Int) ⟨k + 1, h, rfl⟩ (by simp; omega)
    simp only [Int.ofNat_lt, h, decide_true, cond_true, ix_nat h, Bool.not_true, cond_false, bd_eq, Option.bind_some, beq_self_eq_true, Int.toNat_natCast, w64_succ (show k < 9223372036854775807 by omega), laws_eqCall_ok]
    exact g
  · simp [h]
theorem laws_eqIntS_ok {n : Nat} (a : List Int) (hb : w_LInt a ≤ 100000000) (hn : 1000000000 < n) : laws_eqIntS n a a = some true := by
  have hw0 : a.length ≤ 100000000 := by have hw : w_LInt a = a.length := rfl; omega
  unfold laws_eqIntS
  simp only [decide_true, Bool.not_true, cond_false]
  refine loopN_ind (fun x => a.length - x.toNat) (fun x => ∃ k : Nat, k ≤ a.length ∧ x = (k : Int)) (fun x r => r = some true) ?_ n _ ⟨0, by omega, rfl⟩ (by simp; omega)
  rintro _ J ⟨k, hk, rfl⟩ ih
  unfold laws_eqIntS_L4
  by_cases h : k < a.length
  · have g := ih ((k + 1 : Nat) : Int) ⟨k + 1, h, rfl⟩ (by simp; omega)
    simp only [Int.ofNat_lt, h, decide_true, cond_true, ix_nat h, Bool.not_true, cond_false, bd_eq, Option.bind_some, beq_self_eq_true, Int.toNat_natCast, w64_succ (show k < 9223372036854775807 by omega)]
    exact g
  · simp [h]
theorem laws_eqIntSS_ok {n : Nat} (a : List (List Int)) (hb : w_LLInt a ≤ 100000000) (hn : 1000000000 < n) : laws_eqIntSS n a a = some true := by
  have hw0 : a.length ≤ 100000000 := by have hw : w_LLInt a = a.length + sumOf (fun y => w_LInt y) a := rfl; omega
  unfold laws_eqIntSS
  simp only [decide_true, Bool.not_true, cond_false]
  refine loopN_ind (fun x => a.length - x.toNat) (fun x => ∃ k : Nat, k ≤ a.length ∧ x = (k : Int)) (fun x r => r = some true) ?_ n _ ⟨0, by omega, rfl⟩ (by simp; omega)
  rintro _ J ⟨k, hk, rfl⟩ ih
  unfold laws_eqIntSS_L4
  by_cases h : k < a.length
  · have g := ih ((k + 1 : Nat) : Int) ⟨k + 1, h, rfl⟩ (by simp; omega)
    have s1 := sumOf_mem (f := fun y => w_LInt y) (d := []) h
    have hw : w_LLInt a = a.length + sumOf (fun y => w_LInt y) a := rfl
    try simp only at s1
    simp only [Int.ofNat_lt, h, decide_true, cond_true, ix_nat h, Bool.not_true, cond_false, bd_eq, Option.bind_some, beq_self_eq_true, Int.toNat_natCast, w64_succ (show k < 9223372036854775807 by omega), laws_eqIntS_ok (n := n) (a.getD k []) (by omega) hn]
    exact g
  · simp [h]
theorem laws_eqYard_ok {n : Nat} (a : SYard) (h : w_SYard a ≤ 100000000) (hn : 1000000000 < n) : laws_eqYard n a a = some true := by
  have hw : w_SYard a = w_LLInt a.Stacks := rfl
  simp [laws_eqYard, laws_eqIntSS_ok (n := n) a.Stacks (by omega) hn]
theorem laws_eqStringS_ok {n : Nat} (a : List ByteArray) (hb : w_LBA a ≤ 100000000) (hn : 1000000000 < n) : laws_eqStringS n a a = some true := by
  have hw0 : a.length ≤ 100000000 := by have hw : w_LBA a = a.length + sumOf (fun y => y.size) a := rfl; omega
  unfold laws_eqStringS
  simp only [decide_true, Bool.not_true, cond_false]
  refine loopN_ind (fun x => a.length - x.toNat) (fun x => ∃ k : Nat, k ≤ a.length ∧ x = (k : Int)) (fun x r => r = some true) ?_ n _ ⟨0, by omega, rfl⟩ (by simp; omega)
  rintro _ J ⟨k, hk, rfl⟩ ih
  unfold laws_eqStringS_L4
  by_cases h : k < a.length
  · have g := ih ((k + 1 : Nat) : Int) ⟨k + 1, h, rfl⟩ (by simp; omega)
    have s1 := sumOf_mem (f := fun y => y.size) (d := (str [])) h
    have hw : w_LBA a = a.length + sumOf (fun y => y.size) a := rfl
    try simp only at s1
    simp only [Int.ofNat_lt, h, decide_true, cond_true, ix_nat h, Bool.not_true, cond_false, bd_eq, Option.bind_some, beq_self_eq_true, Int.toNat_natCast, w64_succ (show k < 9223372036854775807 by omega)]
    exact g
  · simp [h]
theorem laws_eqBill_ok {n : Nat} (a : SBill) (h : w_SBill a ≤ 100000000) (hn : 1000000000 < n) : laws_eqBill n a a = some true := by
  have hw : w_SBill a = a.Shipper.size + a.Order.size + w_LBA a.Held := rfl
  simp [laws_eqBill, laws_eqBill_k0, laws_eqStringS_ok (n := n) a.Held (by omega) hn]
theorem laws_eqBillS_ok {n : Nat} (a : List SBill) (hb : w_LSBill a ≤ 100000000) (hn : 1000000000 < n) : laws_eqBillS n a a = some true := by
  have hw0 : a.length ≤ 100000000 := by have hw : w_LSBill a = a.length + sumOf (fun y => w_SBill y) a := rfl; omega
  unfold laws_eqBillS
  simp only [decide_true, Bool.not_true, cond_false]
  refine loopN_ind (fun x => a.length - x.toNat) (fun x => ∃ k : Nat, k ≤ a.length ∧ x = (k : Int)) (fun x r => r = some true) ?_ n _ ⟨0, by omega, rfl⟩ (by simp; omega)
  rintro _ J ⟨k, hk, rfl⟩ ih
  unfold laws_eqBillS_L4
  by_cases h : k < a.length
  · have g := ih ((k + 1 : Nat) : Int) ⟨k + 1, h, rfl⟩ (by simp; omega)
    have s1 := sumOf_mem (f := fun y => w_SBill y) (d := dSBill) h
    have hw : w_LSBill a = a.length + sumOf (fun y => w_SBill y) a := rfl
    try simp only at s1
    simp only [Int.ofNat_lt, h, decide_true, cond_true, ix_nat h, Bool.not_true, cond_false, bd_eq, Option.bind_some, beq_self_eq_true, Int.toNat_natCast, w64_succ (show k < 9223372036854775807 by omega), laws_eqBill_ok (n := n) (a.getD k dSBill) (by omega) hn]
    exact g
  · simp [h]
theorem laws_eqBook_ok {n : Nat} (a : SBook) (h : w_SBook a ≤ 100000000) (hn : 1000000000 < n) : laws_eqBook n a a = some true := by
  have hw : w_SBook a = w_LSBill a.Bills + w_LInt a.Freed := rfl
  simp [laws_eqBook, laws_eqBillS_ok (n := n) a.Bills (by omega) hn, laws_eqIntS_ok (n := n) a.Freed (by omega) hn]
theorem laws_eqLot_ok (n : Nat) (a : SLot) : laws_eqLot n a a = some true := by simp [laws_eqLot, laws_eqLot_k0]
theorem laws_eqLotS_ok {n : Nat} (a : List SLot) (hb : w_LSLot a ≤ 100000000) (hn : 1000000000 < n) : laws_eqLotS n a a = some true := by
  have hw0 : a.length ≤ 100000000 := by have hw : w_LSLot a = a.length := rfl; omega
  unfold laws_eqLotS
  simp only [decide_true, Bool.not_true, cond_false]
  refine loopN_ind (fun x => a.length - x.toNat) (fun x => ∃ k : Nat, k ≤ a.length ∧ x = (k : Int)) (fun x r => r = some true) ?_ n _ ⟨0, by omega, rfl⟩ (by simp; omega)
  rintro _ J ⟨k, hk, rfl⟩ ih
  unfold laws_eqLotS_L4
  by_cases h : k < a.length
  · have g := ih ((k + 1 : Nat) : Int) ⟨k + 1, h, rfl⟩ (by simp; omega)
    simp only [Int.ofNat_lt, h, decide_true, cond_true, ix_nat h, Bool.not_true, cond_false, bd_eq, Option.bind_some, beq_self_eq_true, Int.toNat_natCast, w64_succ (show k < 9223372036854775807 by omega), laws_eqLot_ok]
    exact g
  · simp [h]
theorem laws_eqTrader_ok (n : Nat) (a : STrader) : laws_eqTrader n a a = some true := by simp [laws_eqTrader]
theorem laws_eqTraderS_ok {n : Nat} (a : List STrader) (hb : w_LSTrader a ≤ 100000000) (hn : 1000000000 < n) : laws_eqTraderS n a a = some true := by
  have hw0 : a.length ≤ 100000000 := by have hw : w_LSTrader a = a.length := rfl; omega
  unfold laws_eqTraderS
  simp only [decide_true, Bool.not_true, cond_false]
  refine loopN_ind (fun x => a.length - x.toNat) (fun x => ∃ k : Nat, k ≤ a.length ∧ x = (k : Int)) (fun x r => r = some true) ?_ n _ ⟨0, by omega, rfl⟩ (by simp; omega)
  rintro _ J ⟨k, hk, rfl⟩ ih
  unfold laws_eqTraderS_L4
  by_cases h : k < a.length
  · have g := ih ((k + 1 : Nat) : Int) ⟨k + 1, h, rfl⟩ (by simp; omega)
    simp only [Int.ofNat_lt, h, decide_true, cond_true, ix_nat h, Bool.not_true, cond_false, bd_eq, Option.bind_some, beq_self_eq_true, Int.toNat_natCast, w64_succ (show k < 9223372036854775807 by omega), laws_eqTrader_ok]
    exact g
  · simp [h]
theorem laws_eqHouse_ok {n : Nat} (a : SHouse) (h : w_SHouse a ≤ 100000000) (hn : 1000000000 < n) : laws_eqHouse n a a = some true := by
  have hw : w_SHouse a = w_LSLot a.Lots + w_LSTrader a.Traders := rfl
  simp [laws_eqHouse, laws_eqLotS_ok (n := n) a.Lots (by omega) hn, laws_eqTraderS_ok (n := n) a.Traders (by omega) hn]
theorem laws_eqPort_ok {n : Nat} (a : SPort) (h : w_SPort a ≤ 100000000) (hn : 1000000000 < n) : laws_eqPort n a a = some true := by
  have hw : w_SPort a = w_LSCall a.Calls + w_SYard a.Yard + w_SBook a.Book + w_SHouse a.House := rfl
  simp [laws_eqPort, laws_eqPort_k0, laws_eqCallS_ok (n := n) a.Calls (by omega) hn, laws_eqYard_ok (n := n) a.Yard (by omega) hn, laws_eqBook_ok (n := n) a.Book (by omega) hn, laws_eqHouse_ok (n := n) a.House (by omega) hn]
end Go.Sm
end

section
set_option linter.unusedSimpArgs false
set_option linter.deprecated false
set_option linter.unusedSectionVars false
set_option linter.unusedVariables false
set_option linter.unusedSimpArgs false
namespace Go.Sm
attribute [local irreducible] bd chk ix loopN
theorem in_spec (n : Nat) (x a b : Int) : spec_l1In n x a b = some (decide (a ≤ x ∧ x ≤ b)) := by
  unfold spec_l1In
  by_cases h0 : a ≤ x <;> by_cases h1 : x ≤ b <;> simp [h0, h1]
theorem in_impl (n : Nat) (x a b : Int) : impl_in n x a b = some (decide (a ≤ x ∧ x ≤ b)) := by
  unfold impl_in
  by_cases h0 : a ≤ x <;> by_cases h1 : x ≤ b <;> simp [h0, h1]
/-! ### Names -/
def charOk (c : Int) : Bool := decide (97 ≤ c ∧ c ≤ 122) || (decide (65 ≤ c ∧ c ≤ 90) || (decide (48 ≤ c ∧ c ≤ 57) || decide (c = 45)))
def nameB (s : ByteArray) : Bool := decide (1 ≤ (s.size : Int) ∧ (s.size : Int) ≤ 20) && (List.range s.size).all fun k => charOk (byteAt s k)
theorem char_spec {α : Type} (c : Int) (x y : α) : (bif !decide (97 ≤ c ∧ c ≤ 122) then (bif !decide (65 ≤ c ∧ c ≤ 90) then (bif !decide (48 ≤ c ∧ c ≤ 57) then (bif !decide (c = 45) then x else y) else y) else y) else y) = bif charOk c then y else x := by
  unfold charOk
  cases decide (97 ≤ c ∧ c ≤ 122) <;> cases decide (65 ≤ c ∧ c ≤ 90) <;> cases decide (48 ≤ c ∧ c ≤ 57) <;> cases decide (c = 45) <;> rfl
theorem char_impl {α : Type} (c : Int) (x y : α) : (bif (decide (c < (97 : Int))) then (bif (decide (c < (65 : Int))) then (bif (decide (c < (48 : Int))) then (bif (!(decide (c = (45 : Int)))) then x else y) else (bif (decide (c > (57 : Int))) then (bif (!(decide (c = (45 : Int)))) then x else y) else y)) else (bif (decide (c > (90 : Int))) then (bif (decide (c < (48 : Int))) then (bif (!(decide (c = (45 : Int)))) then x else y) else (bif (decide (c > (57 : Int))) then (bif (!(decide (c = (45 : Int)))) then x else y) else y)) else y)) else (bif (decide (c > (122 : Int))) then (bif (decide (c < (65 : Int))) then (bif (decide (c < (48 : Int))) then (bif (!(decide (c = (45 : Int)))) then x else y) else (bif (decide (c > (57 : Int))) then (bif (!(decide (c = (45 : Int)))) then x else y) else y)) else (bif (decide (c > (90 : Int))) then (bif (decide (c < (48 : Int))) then (bif (!(decide (c = (45 : Int)))) then x else y) else (bif (decide (c > (57 : Int))) then (bif (!(decide (c = (45 : Int)))) then x else y) else y)) else y)) else y)) = bif charOk c then y else x := by
  unfold charOk
  have hc : c < 45 ∨ c = 45 ∨ (45 < c ∧ c < 48) ∨ (48 ≤ c ∧ c ≤ 57) ∨ (57 < c ∧ c < 65) ∨ (65 ≤ c ∧ c ≤ 90) ∨ (90 < c ∧ c < 97) ∨ (97 ≤ c ∧ c ≤ 122) ∨ 122 < c := by omega
  rcases hc with h | h | h | h | h | h | h | h | h
  · simp only [decide_eq_true (show (c : Int) < 97 by omega), decide_eq_true (show (c : Int) < 65 by omega), decide_eq_true (show (c : Int) < 48 by omega), decide_eq_false (show ¬ (c : Int) > 57 by omega), decide_eq_false (show ¬ (c : Int) > 90 by omega), decide_eq_false (show ¬ (c : Int) > 122 by omega), decide_eq_false (show ¬ (c : Int) = 45 by omega), decide_eq_false (show ¬ (97 ≤ c ∧ c ≤ 122) by omega), decide_eq_false (show ¬ (65 ≤ c ∧ c ≤ 90) by omega), decide_eq_false (show ¬ (48 ≤ c ∧ c ≤ 57) by omega), cond_true, cond_false, Bool.not_true, Bool.not_false, Bool.true_or, Bool.false_or]
  · simp only [decide_eq_true (show (c : Int) < 97 by omega), decide_eq_true (show (c : Int) < 65 by omega), decide_eq_true (show (c : Int) < 48 by omega), decide_eq_false (show ¬ (c : Int) > 57 by omega), decide_eq_false (show ¬ (c : Int) > 90 by omega), decide_eq_false (show ¬ (c : Int) > 122 by omega), decide_eq_true (show (c : Int) = 45 by omega), decide_eq_false (show ¬ (97 ≤ c ∧ c ≤ 122) by omega), decide_eq_false (show ¬ (65 ≤ c ∧ c ≤ 90) by omega), decide_eq_false (show ¬ (48 ≤ c ∧ c ≤ 57) by omega), cond_true, cond_false, Bool.not_true, Bool.not_false, Bool.true_or, Bool.false_or]
  · simp only [decide_eq_true (show (c : Int) < 97 by omega), decide_eq_true (show (c : Int) < 65 by omega), decide_eq_true (show (c : Int) < 48 by omega), decide_eq_false (show ¬ (c : Int) > 57 by omega), decide_eq_false (show ¬ (c : Int) > 90 by omega), decide_eq_false (show ¬ (c : Int) > 122 by omega), decide_eq_false (show ¬ (c : Int) = 45 by omega), decide_eq_false (show ¬ (97 ≤ c ∧ c ≤ 122) by omega), decide_eq_false (show ¬ (65 ≤ c ∧ c ≤ 90) by omega), decide_eq_false (show ¬ (48 ≤ c ∧ c ≤ 57) by omega), cond_true, cond_false, Bool.not_true, Bool.not_false, Bool.true_or, Bool.false_or]
  · simp only [decide_eq_true (show (c : Int) < 97 by omega), decide_eq_true (show (c : Int) < 65 by omega), decide_eq_false (show ¬ (c : Int) < 48 by omega), decide_eq_false (show ¬ (c : Int) > 57 by omega), decide_eq_false (show ¬ (c : Int) > 90 by omega), decide_eq_false (show ¬ (c : Int) > 122 by omega), decide_eq_false (show ¬ (c : Int) = 45 by omega), decide_eq_false (show ¬ (97 ≤ c ∧ c ≤ 122) by omega), decide_eq_false (show ¬ (65 ≤ c ∧ c ≤ 90) by omega), decide_eq_true (show 48 ≤ c ∧ c ≤ 57 by omega), cond_true, cond_false, Bool.not_true, Bool.not_false, Bool.true_or, Bool.false_or]
  · simp only [decide_eq_true (show (c : Int) < 97 by omega), decide_eq_true (show (c : Int) < 65 by omega), decide_eq_false (show ¬ (c : Int) < 48 by omega), decide_eq_true (show (c : Int) > 57 by omega), decide_eq_false (show ¬ (c : Int) > 90 by omega), decide_eq_false (show ¬ (c : Int) > 122 by omega), decide_eq_false (show ¬ (c : Int) = 45 by omega), decide_eq_false (show ¬ (97 ≤ c ∧ c ≤ 122) by omega), decide_eq_false (show ¬ (65 ≤ c ∧ c ≤ 90) by omega), decide_eq_false (show ¬ (48 ≤ c ∧ c ≤ 57) by omega), cond_true, cond_false, Bool.not_true, Bool.not_false, Bool.true_or, Bool.false_or]
  · simp only [decide_eq_true (show (c : Int) < 97 by omega), decide_eq_false (show ¬ (c : Int) < 65 by omega), decide_eq_false (show ¬ (c : Int) < 48 by omega), decide_eq_true (show (c : Int) > 57 by omega), decide_eq_false (show ¬ (c : Int) > 90 by omega), decide_eq_false (show ¬ (c : Int) > 122 by omega), decide_eq_false (show ¬ (c : Int) = 45 by omega), decide_eq_false (show ¬ (97 ≤ c ∧ c ≤ 122) by omega), decide_eq_true (show 65 ≤ c ∧ c ≤ 90 by omega), decide_eq_false (show ¬ (48 ≤ c ∧ c ≤ 57) by omega), cond_true, cond_false, Bool.not_true, Bool.not_false, Bool.true_or, Bool.false_or]
  · simp only [decide_eq_true (show (c : Int) < 97 by omega), decide_eq_false (show ¬ (c : Int) < 65 by omega), decide_eq_false (show ¬ (c : Int) < 48 by omega), decide_eq_true (show (c : Int) > 57 by omega), decide_eq_true (show (c : Int) > 90 by omega), decide_eq_false (show ¬ (c : Int) > 122 by omega), decide_eq_false (show ¬ (c : Int) = 45 by omega), decide_eq_false (show ¬ (97 ≤ c ∧ c ≤ 122) by omega), decide_eq_false (show ¬ (65 ≤ c ∧ c ≤ 90) by omega), decide_eq_false (show ¬ (48 ≤ c ∧ c ≤ 57) by omega), cond_true, cond_false, Bool.not_true, Bool.not_false, Bool.true_or, Bool.false_or]
  · simp only [decide_eq_false (show ¬ (c : Int) < 97 by omega), decide_eq_false (show ¬ (c : Int) < 65 by omega), decide_eq_false (show ¬ (c : Int) < 48 by omega), decide_eq_true (show (c : Int) > 57 by omega), decide_eq_true (show (c : Int) > 90 by omega), decide_eq_false (show ¬ (c : Int) > 122 by omega), decide_eq_false (show ¬ (c : Int) = 45 by omega), decide_eq_true (show 97 ≤ c ∧ c ≤ 122 by omega), decide_eq_false (show ¬ (65 ≤ c ∧ c ≤ 90) by omega), decide_eq_false (show ¬ (48 ≤ c ∧ c ≤ 57) by omega), cond_true, cond_false, Bool.not_true, Bool.not_false, Bool.true_or, Bool.false_or]
  · simp only [decide_eq_false (show ¬ (c : Int) < 97 by omega), decide_eq_false (show ¬ (c : Int) < 65 by omega), decide_eq_false (show ¬ (c : Int) < 48 by omega), decide_eq_true (show (c : Int) > 57 by omega), decide_eq_true (show (c : Int) > 90 by omega), decide_eq_true (show (c : Int) > 122 by omega), decide_eq_false (show ¬ (c : Int) = 45 by omega), decide_eq_false (show ¬ (97 ≤ c ∧ c ≤ 122) by omega), decide_eq_false (show ¬ (65 ≤ c ∧ c ≤ 90) by omega), decide_eq_false (show ¬ (48 ≤ c ∧ c ≤ 57) by omega), cond_true, cond_false, Bool.not_true, Bool.not_false, Bool.true_or, Bool.false_or]
theorem name_spec {n : Nat} (s : ByteArray) (hs : s.size ≤ 100000000) (hn : 1000000000 < n) : spec_l1Name n s = some (nameB s) := by
  unfold spec_l1Name
  rw [loop_all (p := fun k => charOk (byteAt s k)) (len := s.size) (no := some false) (yes := some (decide (1 ≤ (s.size : Int) ∧ (s.size : Int) ≤ 20))) (by omega) (fun k J h _ => ?_) (fun J _ => ?_) (by omega)]
  · rw [bif_sf, nameB, Bool.and_comm]
  · unfold spec_l1Name_L2 spec_l1Name_k0
    have hb := byteAt_rng s k
    have e : w64 (byteAt s k) = byteAt s k := w64_id (by omega) (by omega)
    simp only [Int.ofNat_lt, h, decide_true, cond_true, ix_nat h, Int.toNat_natCast, e, in_spec, Option.bind_some, w64_succ (show k < 9223372036854775807 by omega)]
    exact char_spec _ _ _
  · unfold spec_l1Name_L2
    simp only [Int.lt_irrefl, decide_false, cond_false, in_spec, Option.bind_some]
theorem name_impl {n : Nat} (s : ByteArray) (hs : s.size ≤ 100000000) (hn : 1000000000 < n) : impl_nameOk n s = some (nameB s) := by
  unfold impl_nameOk nameB
  by_cases h1 : s.size < 1
  · rw [decide_eq_true (show (s.size : Int) < 1 by omega), cond_true, decide_eq_false (by omega)]; rfl
  · by_cases h2 : s.size > 20
    · rw [decide_eq_false (show ¬ (s.size : Int) < 1 by omega), cond_false, decide_eq_true (show (s.size : Int) > 20 by omega), cond_true, decide_eq_false (by omega)]; rfl
    · rw [decide_eq_false (show ¬ (s.size : Int) < 1 by omega), cond_false, decide_eq_false (show ¬ (s.size : Int) > 20 by omega), cond_false, decide_eq_true (show 1 ≤ (s.size : Int) ∧ (s.size : Int) ≤ 20 by omega)]
      rw [loop_all (p := fun k => charOk (byteAt s k)) (len := s.size) (no := some false) (yes := some true) (by omega) (fun k J h _ => ?_) (fun J _ => ?_) (by omega)]
      · rw [bif_tf, Bool.true_and]
      · unfold impl_nameOk_L4 impl_nameOk_k0
        simp only [Int.ofNat_lt, h, decide_true, cond_true, ix_nat h, Int.toNat_natCast, w64_succ (show k < 9223372036854775807 by omega)]
        exact char_impl _ _ _
      · unfold impl_nameOk_L4
        simp only [Int.lt_irrefl, decide_false, cond_false]
def emptyB (s : ByteArray) : Bool := decide (s = str []) || nameB s
theorem empty_impl {n : Nat} (s : ByteArray) (hs : s.size ≤ 100000000) (hn : 1000000000 < n) : impl_emptyOrName n s = some (emptyB s) := by
  unfold impl_emptyOrName emptyB
  rw [name_impl s hs hn]
  cases decide (s = str []) <;> rfl
/-! ### Books -/
def heldAll (l : List ByteArray) : Bool := (List.range l.length).all fun k => emptyB (l.getD k (str []))
def billBase (x : SBill) : Bool := nameB x.Shipper && (emptyB x.Order && (decide (1 ≤ x.Many ∧ x.Many ≤ 5) && (decide ((x.Held.length : Int) = x.Many) && heldAll x.Held)))
def billOk (l : List SBill) (k : Nat) : Bool := decide (1 ≤ (l.getD k dSBill).Id ∧ (l.getD k dSBill).Id ≤ 1000000) && ((decide (k = 0) || !decide ((l.getD (k - 1) dSBill).Id ≥ (l.getD k dSBill).Id)) && billBase (l.getD k dSBill))
def hasBill (l : List SBill) (m : Nat) (q : Int) : Bool := (List.range m).any fun j => decide ((l.getD j dSBill).Id = q)
def freedOk (b : SBook) (k : Nat) : Bool := hasBill b.Bills b.Bills.length (b.Freed.getD k 0) && (decide (k = 0) || !decide (b.Freed.getD (k - 1) 0 ≥ b.Freed.getD k 0))
def bookB (b : SBook) : Bool := decide (b.Bills.length ≤ 30) && ((List.range b.Bills.length).all (billOk b.Bills) && (List.range b.Freed.length).all (freedOk b))
theorem hasBill_succ (l : List SBill) (m : Nat) (q : Int) : hasBill l (m + 1) q = (hasBill l m q || decide ((l.getD m dSBill).Id = q)) := by
  unfold hasBill
  rw [any_range_succ]
/-- What is known of a book's sizes. -/
structure BookSz (b : SBook) : Prop where
  bills : b.Bills.length ≤ 100000000
  freed : b.Freed.length ≤ 100000000
  each : ∀ k, k < b.Bills.length → (b.Bills.getD k dSBill).Shipper.size ≤ 100000000 ∧ (b.Bills.getD k dSBill).Order.size ≤ 100000000 ∧ (b.Bills.getD k dSBill).Held.length ≤ 100000000 ∧ ∀ j, j < (b.Bills.getD k dSBill).Held.length → ((b.Bills.getD k dSBill).Held.getD j (str [])).size ≤ 100000000
theorem bookSz (b : SBook) (h : w_SBook b ≤ 100000000) : BookSz b := by
  have h1 : w_SBook b = w_LSBill b.Bills + w_LInt b.Freed := rfl
  have h2 : w_LSBill b.Bills = b.Bills.length + sumOf (fun y => w_SBill y) b.Bills := rfl
  have h3 : w_LInt b.Freed = b.Freed.length := rfl
  refine ⟨by omega, by omega, fun k hk => ?_⟩
  have s := sumOf_mem (f := fun y => w_SBill y) (d := dSBill) hk
  have h4 : w_SBill (b.Bills.getD k dSBill) = (b.Bills.getD k dSBill).Shipper.size + (b.Bills.getD k dSBill).Order.size + w_LBA (b.Bills.getD k dSBill).Held := rfl
  have h5 : w_LBA (b.Bills.getD k dSBill).Held = (b.Bills.getD k dSBill).Held.length + sumOf (fun y => y.size) (b.Bills.getD k dSBill).Held := rfl
  refine ⟨by omega, by omega, by omega, fun j hj => ?_⟩
  have s2 := sumOf_mem (f := fun y : ByteArray => y.size) (d := str []) hj
  try simp only at s2
  omega
theorem held_spec {R : Type} {n : Nat} (kx : Option R) (kxr : Bool → Option R) (i : Int) (b : SBook) (x : SBill) (hl : x.Held.length ≤ 100000000) (hh : ∀ j, j < x.Held.length → (x.Held.getD j (str [])).size ≤ 100000000) (hn : 1000000000 < n) :
    loopN (fun (y : Int) J' => spec_BookOk_L8 n kx (fun t => kxr t) J' i y b x) n (0 : Int) = bif heldAll x.Held then kx else kxr false := by
  rw [loop_all (p := fun k => emptyB (x.Held.getD k (str []))) (len := x.Held.length) (no := kxr false) (yes := kx) (by omega) (fun k J h _ => ?_) (fun J _ => ?_) (by omega)]
  · rfl
  · unfold spec_BookOk_L8 spec_BookOk_k0
    simp only [Int.ofNat_lt, h, decide_true, cond_true, ix_nat h, Int.toNat_natCast, name_spec _ (hh k h) hn, Option.bind_some, w64_succ (show k < 9223372036854775807 by omega), emptyB]
    cases decide (x.Held.getD k (str []) = str []) <;> cases nameB (x.Held.getD k (str [])) <;> rfl
  · unfold spec_BookOk_L8
    simp only [Int.lt_irrefl, decide_false, cond_false]
theorem order_spec {α : Type} {c d : Bool} {x y : α} : (bif !c then (bif !d then x else y) else y) = bif c || d then y else x := by cases c <;> cases d <;> rfl
theorem find_spec {n : Nat} (b : SBook) (id : Int) (h : b.Bills.length ≤ 100000000) (hn : 1000000000 < n) : spec_l14Find n b id = some (idxOf (fun j => decide ((b.Bills.getD j dSBill).Id = id)) b.Bills.length) := by
  unfold spec_l14Find
  refine loop_idx (by omega) (fun k J h2 _ => ?_) (fun J _ => ?_) (by omega)
  · unfold spec_l14Find_L2
    simp only [Int.ofNat_lt, h2, decide_true, cond_true, ix_nat h2, bd_eq, Int.toNat_natCast, w64_succ (show k < 9223372036854775807 by omega)]
  · unfold spec_l14Find_L2
    simp only [Int.lt_irrefl, decide_false, cond_false]
theorem book_spec {n : Nat} (b : SBook) (hz : BookSz b) (hn : 1000000000 < n) : spec_BookOk n b = some (bookB b) := by
  have hl := hz.bills
  have hf := hz.freed
  unfold spec_BookOk
  rw [loop_all (p := billOk b.Bills) (len := b.Bills.length) (no := some false) (yes := some ((List.range b.Freed.length).all (freedOk b) && decide (b.Bills.length ≤ 30))) (by omega) (fun k J h _ => ?_) (fun J _ => ?_) (by omega)]
  · rw [bif_sf, bookB]
    cases (List.range b.Bills.length).all (billOk b.Bills) <;> cases (List.range b.Freed.length).all (freedOk b) <;> cases decide (b.Bills.length ≤ 30) <;> rfl
  · obtain ⟨z1, z2, z3, z4⟩ := hz.each k h
    have hh := fun kx => held_spec (n := n) kx (fun t => some t) (k : Int) b (b.Bills.getD k dSBill) z3 z4 hn
    unfold spec_BookOk_L2 spec_BookOk_k1
    cases k with
    | zero =>
      simp only [Int.ofNat_lt, h, decide_true, cond_true, ix_nat h, bd_eq, Int.toNat_natCast, in_spec, Option.bind_some, w64_succ (show 0 < 9223372036854775807 by omega), show ¬ ((0 : Nat) : Int) > 0 by omega, decide_false, cond_false, name_spec _ z1 hn, name_spec _ z2 hn, hh]
      unfold billOk billBase emptyB
      cases decide ((b.Bills.getD 0 dSBill).Order = str []) <;> simp only [decide_true, Bool.true_or, Bool.false_or, bif_not, bif_and', bif_or', bif_and2, bif_or2, Bool.not_not, Bool.and_assoc, Bool.and_true, Bool.true_and, Bool.false_and, Bool.not_false, Bool.not_true, cond_true, cond_false]
    | succ k =>
      have e3 : w64 (((k + 1 : Nat) : Int) - 1) = (k : Int) := by rw [w64_id (by omega) (by omega)]; omega
      simp only [Int.ofNat_lt, h, decide_true, cond_true, ix_nat h, bd_eq, Int.toNat_natCast, in_spec, Option.bind_some, w64_succ (show k + 1 < 9223372036854775807 by omega), show ((k + 1 : Nat) : Int) > 0 by omega, e3, ix_nat (show k < b.Bills.length by omega), name_spec _ z1 hn, name_spec _ z2 hn, hh]
      unfold billOk billBase emptyB
      cases decide ((b.Bills.getD (k + 1) dSBill).Order = str []) <;> simp only [decide_true, decide_false, Nat.succ_ne_zero, Nat.add_sub_cancel, Bool.true_or, Bool.false_or, bif_not, bif_and', bif_or', bif_and2, bif_or2, Bool.not_not, Bool.and_assoc, Bool.and_true, Bool.true_and, Bool.false_and, Bool.not_false, Bool.not_true, cond_true, cond_false]
  · unfold spec_BookOk_L2
    simp only [Int.lt_irrefl, decide_false, cond_false]
    rw [loop_all (p := freedOk b) (len := b.Freed.length) (no := some false) (yes := some (decide (b.Bills.length ≤ 30))) (by omega) (fun k J h _ => ?_) (fun J _ => ?_) (by omega)]
    · rw [bif_sf]
    · unfold spec_BookOk_L13 spec_BookOk_k2
      have hlt := idxOf_lt (fun j => decide ((b.Bills.getD j dSBill).Id = b.Freed.getD k 0)) b.Bills.length
      cases k with
      | zero =>
        simp only [Int.ofNat_lt, h, decide_true, cond_true, ix_nat h, Int.toNat_natCast, find_spec b _ hl hn, Option.bind_some, hlt, show ¬ ((0 : Nat) : Int) > 0 by omega, decide_false, cond_false, w64_succ (show 0 < 9223372036854775807 by omega)]
        unfold freedOk hasBill
        simp only [decide_true, Bool.true_or, bif_not, bif_and', bif_or', bif_and2, bif_or2, Bool.not_not, Bool.and_assoc, Bool.and_true, Bool.true_and, Bool.false_and, Bool.not_false, Bool.not_true, cond_true, cond_false]
      | succ k =>
        have e3 : w64 (((k + 1 : Nat) : Int) - 1) = (k : Int) := by rw [w64_id (by omega) (by omega)]; omega
        simp only [Int.ofNat_lt, h, decide_true, cond_true, ix_nat h, Int.toNat_natCast, find_spec b _ hl hn, Option.bind_some, hlt, show ((k + 1 : Nat) : Int) > 0 by omega, e3, ix_nat (show k < b.Freed.length by omega), w64_succ (show k + 1 < 9223372036854775807 by omega)]
        unfold freedOk hasBill
        simp only [decide_false, Nat.succ_ne_zero, Nat.add_sub_cancel, Bool.false_or, bif_not, bif_and', bif_or', bif_and2, bif_or2, Bool.not_not, Bool.and_assoc, Bool.and_true, Bool.true_and, Bool.false_and, Bool.not_false, Bool.not_true, cond_true, cond_false]
    · unfold spec_BookOk_L13
      simp only [Int.lt_irrefl, decide_false, cond_false]
      congr 1
      simp only [decide_eq_decide]
      omega
theorem held_impl {n : Nat} (l : List ByteArray) (hl : l.length ≤ 100000000) (hh : ∀ j, j < l.length → (l.getD j (str [])).size ≤ 100000000) (hn : 1000000000 < n) : slices_ContainsFunc_string_string__impl_BookOk_1 n l = some (!heldAll l) := by
  unfold slices_ContainsFunc_string_string__impl_BookOk_1 slices_IndexFunc_string_string__impl_BookOk_1
  rw [loop_idx (p := fun k => !emptyB (l.getD k (str []))) (len := l.length) (by omega) (fun k J h _ => ?_) (fun J _ => ?_) (by omega)]
  · rw [Option.bind_some, idxOf_ge]
    congr 1
    unfold heldAll
    rw [List.not_all_eq_any_not]
  · unfold slices_IndexFunc_string_string__impl_BookOk_1_L2 impl_BookOk_1
    simp only [Int.ofNat_lt, h, decide_true, cond_true, ix_nat h, Int.toNat_natCast, empty_impl _ (hh k h) hn, Option.bind_some, w64_succ (show k < 9223372036854775807 by omega)]
  · unfold slices_IndexFunc_string_string__impl_BookOk_1_L2
    simp only [Int.lt_irrefl, decide_false, cond_false]
theorem book_impl {n : Nat} (b : SBook) (hz : BookSz b) (hn : 1000000000 < n) : impl_BookOk n b = some (bookB b) := by
  have hl := hz.bills
  have hf := hz.freed
  unfold impl_BookOk bookB
  by_cases h30 : b.Bills.length ≤ 30
  · rw [decide_eq_false (show ¬ (b.Bills.length : Int) > 30 by omega), cond_false, decide_eq_true h30, Bool.true_and]
    unfold impl_BookOk_k2
    have := loop_allS (S := List (Int × Bool)) (X := Int × List (Int × Bool)) (enc := fun k s => (k, s)) (b := fun x J' => impl_BookOk_L5 n (fun t74 => loopN (fun (x : Int) J' => impl_BookOk_L12 n (some (true)) (fun t90 => some (t90)) J' b.Freed (b.Freed.length : Int) x b t74) n ((0 : Int))) (fun t92 => some (t92)) (fun t93 t94 => J' (t93, t94)) b.Bills (b.Bills.length : Int) x.1 b x.2) (len := b.Bills.length) (p := billOk b.Bills)
      (I := fun k s => ∀ q, (mgetI s q).getD false = hasBill b.Bills k q) (no := some false) (yes := some ((List.range b.Freed.length).all (freedOk b))) (fun k s J h hi _ => ?_) (fun s J hi _ => ?_) (n := n) (by omega) (s0 := []) (fun q => by simp [mgetI, hasBill])
    · refine this.trans ?_
      rw [bif_sf]
    · obtain ⟨z1, z2, z3, z4⟩ := hz.each k h
      refine ⟨mputI s (b.Bills.getD k dSBill).Id true, fun _ q => ?_, ?_⟩
      · rw [mgetI_mputI, hasBill_succ, ← hi q]
        by_cases hq : q = (b.Bills.getD k dSBill).Id
        · rw [if_pos hq, decide_eq_true hq.symm, Bool.or_true]; rfl
        · rw [if_neg hq, decide_eq_false (Ne.symm hq), Bool.or_false]
      · unfold impl_BookOk_L5 impl_BookOk_k0 impl_idRight
        cases k with
        | zero =>
          simp only [Int.ofNat_lt, h, decide_true, cond_true, ix_nat h, bd_eq, Int.toNat_natCast, in_impl, Option.bind_some, w64_succ (show 0 < 9223372036854775807 by omega), show ¬ ((0 : Nat) : Int) > 0 by omega, decide_false, cond_false, name_impl _ z1 hn, empty_impl _ z2 hn, held_impl _ z3 z4 hn]
          unfold billOk billBase
          simp only [decide_true, Bool.true_or, bif_not, bif_and', bif_or', bif_and2, bif_or2, Bool.not_not, Bool.and_assoc, Bool.and_true, Bool.true_and, Bool.false_and, Bool.not_false, Bool.not_true, cond_true, cond_false]
        | succ k =>
          have e3 : w64 (((k + 1 : Nat) : Int) - 1) = (k : Int) := by rw [w64_id (by omega) (by omega)]; omega
          simp only [Int.ofNat_lt, h, decide_true, cond_true, ix_nat h, bd_eq, Int.toNat_natCast, in_impl, Option.bind_some, w64_succ (show k + 1 < 9223372036854775807 by omega), show ((k + 1 : Nat) : Int) > 0 by omega, e3, ix_nat (show k < b.Bills.length by omega), name_impl _ z1 hn, empty_impl _ z2 hn, held_impl _ z3 z4 hn]
          unfold billOk billBase
          simp only [decide_false, Nat.succ_ne_zero, Nat.add_sub_cancel, Bool.false_or, bif_not, bif_and', bif_or', bif_and2, bif_or2, Bool.not_not, Bool.and_assoc, Bool.and_true, Bool.true_and, Bool.false_and, Bool.not_false, Bool.not_true, cond_true, cond_false]
    · unfold impl_BookOk_L5
      simp only [Int.lt_irrefl, decide_false, cond_false]
      rw [loop_all (p := freedOk b) (len := b.Freed.length) (no := some false) (yes := some true) (by omega) (fun k J h _ => ?_) (fun J _ => ?_) (by omega)]
      · rw [bif_tf]
      · unfold impl_BookOk_L12 impl_BookOk_k1
        cases k with
        | zero =>
          simp only [Int.ofNat_lt, h, decide_true, cond_true, ix_nat h, bd_eq, Int.toNat_natCast, hi, show ¬ ((0 : Nat) : Int) > 0 by omega, decide_false, cond_false, w64_succ (show 0 < 9223372036854775807 by omega)]
          unfold freedOk
          simp only [decide_true, Bool.true_or, bif_not, bif_and', bif_or', bif_and2, bif_or2, Bool.not_not, Bool.and_assoc, Bool.and_true, Bool.true_and, Bool.false_and, Bool.not_false, Bool.not_true, cond_true, cond_false]
        | succ k =>
          have e3 : w64 (((k + 1 : Nat) : Int) - 1) = (k : Int) := by rw [w64_id (by omega) (by omega)]; omega
          simp only [Int.ofNat_lt, h, decide_true, cond_true, ix_nat h, bd_eq, Int.toNat_natCast, hi, show ((k + 1 : Nat) : Int) > 0 by omega, e3, ix_nat (show k < b.Freed.length by omega), w64_succ (show k + 1 < 9223372036854775807 by omega)]
          unfold freedOk
          simp only [decide_false, Nat.succ_ne_zero, Nat.add_sub_cancel, Bool.false_or, bif_not, bif_and', bif_or', bif_and2, bif_or2, Bool.not_not, Bool.and_assoc, Bool.and_true, Bool.true_and, Bool.false_and, Bool.not_false, Bool.not_true, cond_true, cond_false]
      · unfold impl_BookOk_L12
        simp only [Int.lt_irrefl, decide_false, cond_false]
  · rw [decide_eq_true (show (b.Bills.length : Int) > 30 by omega), cond_true, decide_eq_false h30]
    rfl
end Go.Sm
end

section
set_option linter.unusedSimpArgs false
set_option linter.deprecated false
set_option linter.unusedSectionVars false
set_option linter.unusedVariables false
set_option linter.unusedSimpArgs false
namespace Go.Sm
attribute [local irreducible] bd chk ix loopN
theorem not_ge {a b : Int} : (!decide (a ≥ b)) = decide (a < b) := by
  by_cases h : a < b
  · rw [decide_eq_true h, decide_eq_false (by omega)]; rfl
  · rw [decide_eq_false h, decide_eq_true (by omega)]; rfl
def callRest (long : Int) (c : SCall) : Bool := decide (1 ≤ c.Long ∧ c.Long ≤ 1000) && (decide (0 ≤ c.From ∧ c.From ≤ 100000000) && (decide (0 ≤ c.To ∧ c.To ≤ 100000000) && (!decide (c.From ≥ c.To) && (decide (-1 ≤ c.At ∧ c.At ≤ 1000) && (!decide (c.At ≥ 0) || !decide (w64 (c.At + c.Long) > long))))))
def callId (l : List SCall) (k : Nat) : Bool := decide (k = 0) || !decide ((l.getD (k - 1) dSCall).Id ≥ (l.getD k dSCall).Id)
def callAt (long : Int) (l : List SCall) (k : Nat) : Bool := decide (1 ≤ (l.getD k dSCall).Id ∧ (l.getD k dSCall).Id ≤ 1000000) && (callId l k && callRest long (l.getD k dSCall))
def callsB (long : Int) (l : List SCall) : Bool := decide (1 ≤ long ∧ long ≤ 1000) && (decide (l.length ≤ 24) && (List.range l.length).all (callAt long l))
theorem at_same {long a c : Int} (h1 : 1 ≤ long ∧ long ≤ 1000) (h2 : 1 ≤ c ∧ c ≤ 1000) : (decide (a = -1) || decide (0 ≤ a ∧ a ≤ w64 (long - c))) = (decide (-1 ≤ a ∧ a ≤ 1000) && (!decide (a ≥ 0) || !decide (w64 (a + c) > long))) := by
  rw [w64_id (show -9223372036854775808 ≤ long - c by omega) (by omega)]
  by_cases h3 : -1 ≤ a ∧ a ≤ 1000
  · rw [decide_eq_true h3, w64_id (show -9223372036854775808 ≤ a + c by omega) (by omega), Bool.true_and]
    by_cases h4 : a = -1
    · subst h4; rfl
    · rw [decide_eq_false h4, Bool.false_or, decide_eq_true (show a ≥ 0 by omega), Bool.not_true, Bool.false_or]
      by_cases h5 : a + c > long
      · rw [decide_eq_true h5, decide_eq_false (by omega)]; rfl
      · rw [decide_eq_false h5, decide_eq_true (by omega)]; rfl
  · rw [decide_eq_false h3, Bool.false_and, decide_eq_false (by omega), decide_eq_false (by omega)]; rfl
theorem minute_spec (n : Nat) (x : Int) : spec_l1Minute n x = some (decide (0 ≤ x ∧ x ≤ 100000000)) := by
  unfold spec_l1Minute
  rw [in_spec]; rfl
theorem minute_impl (n : Nat) (x : Int) : impl_minuteOk n x = some (decide (0 ≤ x ∧ x ≤ 100000000)) := by
  unfold impl_minuteOk
  rw [in_impl]; rfl
theorem id_impl' (n : Nat) (x : Int) : impl_idRight n x = some (decide (1 ≤ x ∧ x ≤ 1000000)) := by
  unfold impl_idRight
  rw [in_impl]; rfl
theorem callOk_impl (n : Nat) {long : Int} (c : SCall) (h : 1 ≤ long ∧ long ≤ 1000) : impl_callOk n long c = some (decide (1 ≤ c.Id ∧ c.Id ≤ 1000000) && callRest long c) := by
  unfold impl_callOk callRest
  simp only [id_impl', minute_impl, in_impl, Option.bind_some]
  rw [not_ge]
  by_cases h2 : 1 ≤ c.Long ∧ c.Long ≤ 1000
  · rw [← at_same h h2, decide_eq_true h2]
    cases decide (1 ≤ c.Id ∧ c.Id ≤ 1000000) <;> cases decide (0 ≤ c.From ∧ c.From ≤ 100000000) <;> cases decide (0 ≤ c.To ∧ c.To ≤ 100000000) <;> cases decide (c.From < c.To) <;> cases decide (c.At = -1) <;> rfl
  · rw [decide_eq_false h2]
    cases decide (1 ≤ c.Id ∧ c.Id ≤ 1000000) <;> rfl
theorem calls_spec {n : Nat} (long : Int) (l : List SCall) (hl : l.length ≤ 100000000) (hn : 1000000000 < n) : spec_CallsOk n long l = some (callsB long l) := by
  unfold spec_CallsOk callsB
  rw [in_spec, Option.bind_some]
  cases decide (1 ≤ long ∧ long ≤ 1000) with
  | false => rfl
  | true =>
    by_cases h24 : l.length ≤ 24
    · rw [decide_eq_false (show ¬ (l.length : Int) > 24 by omega), decide_eq_true h24, Bool.true_and, Bool.true_and]
      simp only [Bool.not_true, cond_false]
      rw [loop_all (p := callAt long l) (len := l.length) (no := some false) (yes := some true) (by omega) (fun k J h _ => ?_) (fun J _ => ?_) (by omega)]
      · rw [bif_tf]
      · unfold spec_CallsOk_L4 spec_CallsOk_k0 callAt callId callRest
        cases k with
        | zero =>
          simp only [Int.ofNat_lt, h, decide_true, cond_true, ix_nat h, bd_eq, Int.toNat_natCast, in_spec, minute_spec, Option.bind_some, w64_succ (show 0 < 9223372036854775807 by omega), show ¬ ((0 : Nat) : Int) > 0 by omega, decide_false, cond_false]
          cases decide ((l.getD 0 dSCall).At ≥ 0) <;> simp only [decide_true, Bool.true_or, Bool.false_or, bif_not, bif_and', bif_or', bif_and2, bif_or2, Bool.not_not, Bool.and_assoc, Bool.and_true, Bool.true_and, Bool.false_and, Bool.not_false, Bool.not_true, cond_true, cond_false]
        | succ k =>
          have e3 : w64 (((k + 1 : Nat) : Int) - 1) = (k : Int) := by rw [w64_id (by omega) (by omega)]; omega
          simp only [Int.ofNat_lt, h, decide_true, cond_true, ix_nat h, bd_eq, Int.toNat_natCast, in_spec, minute_spec, Option.bind_some, w64_succ (show k + 1 < 9223372036854775807 by omega), show ((k + 1 : Nat) : Int) > 0 by omega, e3, ix_nat (show k < l.length by omega)]
          cases decide ((l.getD (k + 1) dSCall).At ≥ 0) <;> simp only [decide_true, decide_false, Nat.succ_ne_zero, Nat.add_sub_cancel, Bool.true_or, Bool.false_or, bif_not, bif_and', bif_or', bif_and2, bif_or2, Bool.not_not, Bool.and_assoc, Bool.and_true, Bool.true_and, Bool.false_and, Bool.not_false, Bool.not_true, cond_true, cond_false]
      · unfold spec_CallsOk_L4
        simp only [Int.lt_irrefl, decide_false, cond_false]
    · rw [decide_eq_true (show (l.length : Int) > 24 by omega), decide_eq_false h24]
      rfl
theorem calls_impl {n : Nat} (long : Int) (l : List SCall) (hl : l.length ≤ 100000000) (hn : 1000000000 < n) : impl_CallsOk n long l = some (callsB long l) := by
  unfold impl_CallsOk callsB
  rw [in_impl, Option.bind_some]
  by_cases hlong : 1 ≤ long ∧ long ≤ 1000
  · rw [decide_eq_true hlong]
    by_cases h24 : l.length ≤ 24
    · rw [decide_eq_false (show ¬ (l.length : Int) > 24 by omega), decide_eq_true h24, Bool.true_and, Bool.true_and]
      simp only [Bool.not_true, cond_false]
      rw [loop_all (p := callAt long l) (len := l.length) (no := some false) (yes := some true) (by omega) (fun k J h _ => ?_) (fun J _ => ?_) (by omega)]
      · rw [bif_tf]
      · unfold impl_CallsOk_L4 impl_CallsOk_k0 callAt callId
        cases k with
        | zero =>
          simp only [Int.ofNat_lt, h, decide_true, cond_true, ix_nat h, bd_eq, Int.toNat_natCast, callOk_impl n _ hlong, Option.bind_some, w64_succ (show 0 < 9223372036854775807 by omega), show ¬ ((0 : Nat) : Int) > 0 by omega, decide_false, cond_false]
          simp only [decide_true, Bool.true_or, Bool.false_or, bif_not, Bool.true_and]
        | succ k =>
          have e3 : w64 (((k + 1 : Nat) : Int) - 1) = (k : Int) := by rw [w64_id (by omega) (by omega)]; omega
          simp only [Int.ofNat_lt, h, decide_true, cond_true, ix_nat h, bd_eq, Int.toNat_natCast, callOk_impl n _ hlong, Option.bind_some, w64_succ (show k + 1 < 9223372036854775807 by omega), show ((k + 1 : Nat) : Int) > 0 by omega, e3, ix_nat (show k < l.length by omega)]
          simp only [decide_true, decide_false, Nat.succ_ne_zero, Nat.add_sub_cancel, Bool.false_or]
          cases decide (1 ≤ (l.getD (k + 1) dSCall).Id ∧ (l.getD (k + 1) dSCall).Id ≤ 1000000) <;> cases callRest long (l.getD (k + 1) dSCall) <;> cases decide ((l.getD k dSCall).Id ≥ (l.getD (k + 1) dSCall).Id) <;> rfl
      · unfold impl_CallsOk_L4
        simp only [Int.lt_irrefl, decide_false, cond_false]
    · rw [decide_eq_true (show (l.length : Int) > 24 by omega), decide_eq_false h24]
      rfl
  · rw [decide_eq_false hlong]; rfl
def meetB (a b : SCall) : Bool := decide (a.At ≥ 0) && (decide (b.At ≥ 0) && (decide (a.From < b.To) && (decide (b.From < a.To) && (decide (a.At < w64 (b.At + b.Long)) && decide (b.At < w64 (a.At + a.Long))))))
theorem meet_comm (a b : SCall) : meetB a b = meetB b a := by
  unfold meetB
  cases decide (a.At ≥ 0) <;> cases decide (b.At ≥ 0) <;> cases decide (a.From < b.To) <;> cases decide (b.From < a.To) <;> cases decide (a.At < w64 (b.At + b.Long)) <;> cases decide (b.At < w64 (a.At + a.Long)) <;> rfl
theorem meet_spec (n : Nat) (a b : SCall) : spec_l17Meet n a b = some (meetB a b) := by
  unfold spec_l17Meet meetB
  cases decide (a.At ≥ 0) <;> cases decide (b.At ≥ 0) <;> cases decide (a.From < b.To) <;> cases decide (b.From < a.To) <;> cases decide (a.At < w64 (b.At + b.Long)) <;> rfl
theorem meet_impl (n : Nat) (a b : SCall) : impl_shares n a b = some (meetB a b) := by
  unfold impl_shares meetB
  cases decide (a.At ≥ 0) <;> cases decide (b.At ≥ 0) <;> cases decide (a.From < b.To) <;> cases decide (b.From < a.To) <;> cases decide (a.At < w64 (b.At + b.Long)) <;> rfl
def clearAt (l : List SCall) (i : Nat) : Bool := (List.range i).all fun k => !meetB (l.getD i dSCall) (l.getD k dSCall)
def clearB (long : Int) (l : List SCall) : Bool := callsB long l && (List.range l.length).all (clearAt l)
theorem clear_spec {n : Nat} (long : Int) (l : List SCall) (hl : l.length ≤ 100000000) (hn : 1000000000 < n) : spec_Clear17 n long l = some (clearB long l) := by
  unfold spec_Clear17
  rw [loop_all (p := clearAt l) (len := l.length) (no := some false) (yes := some (callsB long l)) (by omega) (fun k J h _ => ?_) (fun J _ => ?_) (by omega)]
  · rw [bif_sf, clearB, Bool.and_comm]
  · unfold spec_Clear17_L2
    simp only [Int.ofNat_lt, h, decide_true, cond_true, w64_succ (show k < 9223372036854775807 by omega)]
    rw [loop_all (p := fun j => !meetB (l.getD k dSCall) (l.getD j dSCall)) (len := k) (no := some false) (yes := J ((k + 1 : Nat) : Int)) (by omega) (fun j J2 hj _ => ?_) (fun J2 _ => ?_) (by omega)]
    · rfl
    · unfold spec_Clear17_L5
      simp only [Int.ofNat_lt, hj, decide_true, cond_true, ix_nat h, ix_nat (Nat.lt_trans hj h), bd_eq, Int.toNat_natCast, meet_spec, Option.bind_some, w64_succ (show j < 9223372036854775807 by omega), bif_not]
    · unfold spec_Clear17_L5
      simp only [Int.lt_irrefl, decide_false, cond_false]
  · unfold spec_Clear17_L2
    simp only [Int.lt_irrefl, decide_false, cond_false, calls_spec long l hl hn, Option.bind_some]
theorem contains_meet {n : Nat} (l : List SCall) (c : SCall) (hl : l.length ≤ 100000000) (hn : 1000000000 < n) : slices_ContainsFunc_impl_Call_impl_Call__impl_Clear17_1 n l c = some ((List.range l.length).any fun k => meetB (l.getD k dSCall) c) := by
  unfold slices_ContainsFunc_impl_Call_impl_Call__impl_Clear17_1 slices_IndexFunc_impl_Call_impl_Call__impl_Clear17_1
  rw [loop_idx (p := fun k => meetB (l.getD k dSCall) c) (len := l.length) (by omega) (fun k J h _ => ?_) (fun J _ => ?_) (by omega)]
  · rw [Option.bind_some, idxOf_ge]
  · unfold slices_IndexFunc_impl_Call_impl_Call__impl_Clear17_1_L2 impl_Clear17_1
    simp only [Int.ofNat_lt, h, decide_true, cond_true, ix_nat h, bd_eq, meet_impl, Option.bind_some, Int.toNat_natCast, w64_succ (show k < 9223372036854775807 by omega)]
  · unfold slices_IndexFunc_impl_Call_impl_Call__impl_Clear17_1_L2
    simp only [Int.lt_irrefl, decide_false, cond_false]
theorem getD_take {α : Type} {l : List α} {d : α} {k m : Nat} (h : k < m) : (l.take m).getD k d = l.getD k d := by
  simp [List.getD, List.getElem?_take, h]
theorem clear_impl {n : Nat} (long : Int) (l : List SCall) (hl : l.length ≤ 100000000) (hn : 1000000000 < n) : impl_Clear17 n long l = some (clearB long l) := by
  unfold impl_Clear17 clearB
  rw [calls_impl long l hl hn, Option.bind_some]
  cases callsB long l with
  | false => rfl
  | true =>
    simp only [Bool.not_true, cond_false, Bool.true_and]
    rw [loop_all (p := clearAt l) (len := l.length) (no := some false) (yes := some true) (by omega) (fun k J h _ => ?_) (fun J _ => ?_) (by omega)]
    · rw [bif_tf]
    · have ht : (l.take k).length = k := by rw [List.length_take]; omega
      have hc : ((List.range (l.take k).length).any fun j => meetB ((l.take k).getD j dSCall) (l.getD k dSCall)) = !clearAt l k := by
        unfold clearAt
        rw [ht, List.not_all_eq_any_not]
        exact any_congr_lt fun j hj => by rw [getD_take hj, meet_comm, Bool.not_not]
      unfold impl_Clear17_L4
      simp only [Int.ofNat_lt, h, decide_true, cond_true, ix_nat h, bd_eq, Int.toNat_natCast, w64_succ (show k < 9223372036854775807 by omega), chk_dec (show (0 : Int) ≤ (k : Int) by omega), chk_dec (show (k : Int) ≤ (l.length : Int) by omega), contains_meet (l.take k) _ (by omega) hn, hc, Option.bind_some, bif_not]
    · unfold impl_Clear17_L4
      simp only [Int.lt_irrefl, decide_false, cond_false]
end Go.Sm
end

section
set_option linter.unusedSimpArgs false
set_option linter.deprecated false
set_option linter.unusedSectionVars false
set_option linter.unusedVariables false
set_option linter.unusedSimpArgs false
namespace Go.Sm
attribute [local irreducible] bd chk ix loopN
abbrev stk (y : SYard) (s : Nat) : List Int := y.Stacks.getD s []
def before (y : SYard) (s t : Nat) : List Int := (y.Stacks.take s).flatten ++ (stk y s).take t
theorem before_zero (y : SYard) (s : Nat) : before y s 0 = (y.Stacks.take s).flatten := by simp [before]
theorem take_flat (y : SYard) {s : Nat} (h : s < y.Stacks.length) : (y.Stacks.take (s + 1)).flatten = (y.Stacks.take s).flatten ++ stk y s := by
  rw [take_succ_getD (d := []) h, List.flatten_append]
  simp
theorem before_succ (y : SYard) (s : Nat) {t : Nat} (h : t < (stk y s).length) : before y s (t + 1) = before y s t ++ [(stk y s).getD t 0] := by
  unfold before
  rw [take_succ_getD (d := 0) h, List.append_assoc]
theorem before_full (y : SYard) {s : Nat} (h : s < y.Stacks.length) : before y s (stk y s).length = (y.Stacks.take (s + 1)).flatten := by
  unfold before
  rw [take_flat y h, List.take_length]
theorem nodup_snoc {l : List Int} {x : Int} : (l ++ [x]).Nodup ↔ l.Nodup ∧ x ∉ l := by
  rw [List.nodup_append]
  constructor
  · rintro ⟨h1, _, h3⟩
    exact ⟨h1, fun h => h3 x h x (by simp) rfl⟩
  · rintro ⟨h1, h2⟩
    exact ⟨h1, by simp, fun a ha b hb e => h2 (by simp at hb; rw [← hb, ← e]; exact ha)⟩
theorem nodup_inner (y : SYard) (s : Nat) : ∀ t, t ≤ (stk y s).length → ((before y s t).Nodup ↔ (y.Stacks.take s).flatten.Nodup ∧ ∀ j, j < t → (stk y s).getD j 0 ∉ before y s j)
  | 0, _ => by
    rw [before_zero]
    exact ⟨fun h => ⟨h, fun j hj => absurd hj (Nat.not_lt_zero _)⟩, fun h => h.1⟩
  | t + 1, ht => by
    rw [before_succ y s (by omega), nodup_snoc, nodup_inner y s t (by omega)]
    constructor
    · rintro ⟨⟨h1, h2⟩, h3⟩
      refine ⟨h1, fun j hj => ?_⟩
      by_cases e : j = t
      · rw [e]; exact h3
      · exact h2 j (by omega)
    · rintro ⟨h1, h2⟩
      exact ⟨⟨h1, fun j hj => h2 j (by omega)⟩, h2 t (by omega)⟩
theorem nodup_outer (y : SYard) : ∀ s, s ≤ y.Stacks.length → ((y.Stacks.take s).flatten.Nodup ↔ ∀ i, i < s → ∀ j, j < (stk y i).length → (stk y i).getD j 0 ∉ before y i j)
  | 0, _ => by simp
  | s + 1, hs => by
    rw [← before_full y (by omega), nodup_inner y s _ (Nat.le_refl _), nodup_outer y s (by omega)]
    constructor
    · rintro ⟨h1, h2⟩ i hi
      by_cases e : i = s
      · rw [e]; exact h2
      · exact h1 i (by omega)
    · intro h
      exact ⟨fun i hi => h i (by omega), h s (by omega)⟩
theorem mem_flat (y : SYard) {s t : Nat} (hs : s < y.Stacks.length) (ht : t < (stk y s).length) : (stk y s).getD t 0 ∈ y.Stacks.flatten :=
  List.mem_flatten.2 ⟨stk y s, getD_mem hs, getD_mem ht⟩
theorem flat_mem (y : SYard) {x : Int} (h : x ∈ y.Stacks.flatten) : ∃ s t, s < y.Stacks.length ∧ t < (stk y s).length ∧ (stk y s).getD t 0 = x := by
  obtain ⟨l, hl, hx⟩ := List.mem_flatten.1 h
  obtain ⟨s, hs, rfl⟩ := List.getElem_of_mem hl
  obtain ⟨t, ht, rfl⟩ := List.getElem_of_mem hx
  have e : stk y s = y.Stacks[s] := getD_eq hs
  exact ⟨s, t, hs, by rw [e]; exact ht, by rw [e, getD_eq ht]⟩
def boxId (y : SYard) (s t : Nat) : Bool := decide (1 ≤ (stk y s).getD t 0 ∧ (stk y s).getD t 0 ≤ 1000000)
def one (y : SYard) (s t : Nat) : Bool := decide (y.Stacks.flatten.count ((stk y s).getD t 0) = 1)
def fresh (y : SYard) (s t : Nat) : Bool := !decide ((stk y s).getD t 0 ∈ before y s t)
def high (y : SYard) (s : Nat) : Bool := !decide (((stk y s).length : Int) > y.High)
def yardHead (y : SYard) : Bool := decide (1 ≤ y.High ∧ y.High ≤ 6) && decide (1 ≤ (y.Stacks.length : Int) ∧ (y.Stacks.length : Int) ≤ 12)
def yardB (y : SYard) : Bool := yardHead y && ((List.range y.Stacks.length).all (high y) && (List.range y.Stacks.length).all fun s => (List.range (stk y s).length).all fun t => boxId y s t && one y s t)
def yardB' (y : SYard) : Bool := yardHead y && (List.range y.Stacks.length).all fun s => high y s && (List.range (stk y s).length).all fun t => boxId y s t && fresh y s t
theorem all_iff {p : Nat → Bool} {m : Nat} : (List.range m).all p = true ↔ ∀ k, k < m → p k = true := by
  rw [List.all_eq_true]
  exact ⟨fun h k hk => h k (List.mem_range.2 hk), fun h k hk => h k (List.mem_range.1 hk)⟩
theorem ones_iff (y : SYard) : (∀ s, s < y.Stacks.length → ∀ t, t < (stk y s).length → one y s t = true) ↔ ∀ s, s < y.Stacks.length → ∀ t, t < (stk y s).length → fresh y s t = true := by
  have h1 : (∀ s, s < y.Stacks.length → ∀ t, t < (stk y s).length → one y s t = true) ↔ y.Stacks.flatten.Nodup := by
    rw [List.nodup_iff_count]
    constructor
    · intro h a
      by_cases ha : a ∈ y.Stacks.flatten
      · obtain ⟨s, t, hs, ht, rfl⟩ := flat_mem y ha
        have := of_decide_eq_true (h s hs t ht)
        omega
      · rw [List.count_eq_zero.2 ha]; omega
    · intro h s hs t ht
      have h2 := h ((stk y s).getD t 0)
      have h3 := List.count_pos_iff.2 (mem_flat y hs ht)
      exact decide_eq_true (by omega)
  have h2 := nodup_outer y y.Stacks.length (Nat.le_refl _)
  rw [List.take_length] at h2
  rw [h1, h2]
  simp only [fresh, Bool.not_eq_true', decide_eq_false_iff_not]
theorem yard_same (y : SYard) : yardB y = yardB' y := by
  unfold yardB yardB'
  congr 1
  rw [Bool.eq_iff_iff]
  simp only [Bool.and_eq_true, all_iff]
  have h := ones_iff y
  constructor
  · rintro ⟨h1, h2⟩ s hs
    exact ⟨h1 s hs, fun t ht => ⟨(h2 s hs t ht).1, h.1 (fun s hs t ht => (h2 s hs t ht).2) s hs t ht⟩⟩
  · intro h1
    exact ⟨fun s hs => (h1 s hs).1, fun s hs t ht => ⟨((h1 s hs).2 t ht).1, h.2 (fun s hs t ht => ((h1 s hs).2 t ht).2) s hs t ht⟩⟩
structure YardSz (y : SYard) : Prop where
  len : y.Stacks.length ≤ 100000000
  each : ∀ s, s < y.Stacks.length → (stk y s).length ≤ 100000000
  all : y.Stacks.flatten.length ≤ 100000000
theorem flat_len : ∀ l : List (List Int), l.flatten.length = sumOf (fun y => w_LInt y) l
  | [] => rfl
  | a :: l => by
    rw [List.flatten_cons, List.length_append, flat_len l]
    rfl
theorem yardSz (y : SYard) (h : w_SYard y ≤ 100000000) : YardSz y := by
  have h1 : w_SYard y = y.Stacks.length + sumOf (fun z => w_LInt z) y.Stacks := rfl
  have h2 := flat_len y.Stacks
  refine ⟨by omega, fun s hs => ?_, by omega⟩
  have s1 := sumOf_mem (f := fun y => w_LInt y) (d := []) hs
  have h4 : w_LInt (y.Stacks.getD s []) = (stk y s).length := rfl
  try simp only at s1
  omega
theorem count_take_le (y : SYard) (s : Nat) (x : Int) : (y.Stacks.take s).flatten.count x ≤ y.Stacks.flatten.length := by
  have h1 : (y.Stacks.take s).flatten.count x + (y.Stacks.drop s).flatten.count x = y.Stacks.flatten.count x := by
    rw [← List.count_append, ← List.flatten_append, List.take_append_drop]
  have h2 := List.count_le_length (a := x) (l := y.Stacks.flatten)
  omega
theorem count_before_le (y : SYard) {s t : Nat} (hs : s < y.Stacks.length) (x : Int) : (before y s t).count x ≤ y.Stacks.flatten.length := by
  have h1 := count_take_le y (s + 1) x
  rw [take_flat y hs, List.count_append] at h1
  have h2 : ((stk y s).take t).count x + ((stk y s).drop t).count x = (stk y s).count x := by
    rw [← List.count_append, List.take_append_drop]
  unfold before
  rw [List.count_append]
  omega
theorem count_spec {n : Nat} (y : SYard) (x : Int) (hz : YardSz y) (hn : 1000000000 < n) : spec_l18Count n y x = some ((y.Stacks.flatten.count x : Nat) : Int) := by
  have hl := hz.len
  have ha := hz.all
  unfold spec_l18Count
  refine loop_runS (S := Int) (enc := fun k s => (s, k)) (len := y.Stacks.length) (I := fun s c => c = (((y.Stacks.take s).flatten.count x : Nat) : Int)) (Q := fun r => r = some ((y.Stacks.flatten.count x : Nat) : Int)) (fun s c J hs hi => ?_) (fun c J hi => ?_) (by omega) (s0 := 0) (by simp)
  · refine ⟨_, rfl, ?_⟩
    subst hi
    have he := hz.each s hs
    show spec_l18Count_L3 n _ _ x _ (s : Int) y = _
    unfold spec_l18Count_L3
    simp only [Int.ofNat_lt, hs, decide_true, cond_true, w64_succ (show s < 9223372036854775807 by omega)]
    refine loop_runS (S := Int) (enc := fun k s => (s, k)) (len := (stk y s).length) (I := fun t c => c = (((before y s t).count x : Nat) : Int)) (Q := fun r => r = J ((((y.Stacks.take (s + 1)).flatten.count x : Nat) : Int), ((s + 1 : Nat) : Int))) (fun t c J2 ht hi => ?_) (fun c J2 hi => ?_) (by omega) (s0 := _) (by rw [before_zero])
    · refine ⟨_, rfl, ?_⟩
      subst hi
      have hc := count_before_le y hs (t := t) x
      show spec_l18Count_L6 n _ _ x _ (s : Int) (t : Int) y = _
      unfold spec_l18Count_L6
      simp only [Int.ofNat_lt, ix_nat hs, Int.toNat_natCast, ht, decide_true, cond_true, ix_nat ht, w64_succ (show t < 9223372036854775807 by omega)]
      rw [before_succ y s ht, List.count_append]
      by_cases e : (stk y s).getD t 0 = x
      · rw [decide_eq_true e, cond_true, w64_succ (by omega), e]
        simp
      · rw [decide_eq_false e, cond_false]
        simp only [List.count_singleton]
        rw [show ((stk y s).getD t 0 == x) = false from by simpa using e]
        simp
    · subst hi
      show spec_l18Count_L6 n _ _ x _ (s : Int) ((stk y s).length : Int) y = _
      unfold spec_l18Count_L6
      simp only [ix_nat hs, Int.toNat_natCast, Int.lt_irrefl, decide_false, cond_false]
      rw [before_full y hs]
  · subst hi
    show spec_l18Count_L3 n _ _ x _ (y.Stacks.length : Int) y = _
    unfold spec_l18Count_L3
    simp only [Int.lt_irrefl, decide_false, cond_false, List.take_length]
theorem yard_spec {n : Nat} (y : SYard) (hz : YardSz y) (hn : 1000000000 < n) : spec_YardOk n y = some (yardB y) := by
  have hl := hz.len
  unfold spec_YardOk yardB yardHead
  rw [in_spec, in_spec, Option.bind_some]
  cases decide (1 ≤ y.High ∧ y.High ≤ 6) with
  | false => rfl
  | true =>
    cases decide (1 ≤ (y.Stacks.length : Int) ∧ (y.Stacks.length : Int) ≤ 12) with
    | false => rfl
    | true =>
      simp only [Bool.not_true, cond_false, Option.bind_some, Bool.true_and]
      rw [loop_all (p := high y) (len := y.Stacks.length) (no := some false) (yes := some ((List.range y.Stacks.length).all fun s => (List.range (stk y s).length).all fun t => boxId y s t && one y s t)) (by omega) (fun k J h _ => ?_) (fun J _ => ?_) (by omega)]
      · rw [bif_sf]
      · unfold spec_YardOk_L4 high
        simp only [Int.ofNat_lt, h, decide_true, cond_true, ix_nat h, Int.toNat_natCast, w64_succ (show k < 9223372036854775807 by omega), bif_not]
      · unfold spec_YardOk_L4
        simp only [Int.lt_irrefl, decide_false, cond_false]
        rw [loop_all (p := fun s => (List.range (stk y s).length).all fun t => boxId y s t && one y s t) (len := y.Stacks.length) (no := some false) (yes := some true) (by omega) (fun k J h _ => ?_) (fun J _ => ?_) (by omega)]
        · rw [bif_tf]
        · unfold spec_YardOk_L9
          have he := hz.each k h
          simp only [Int.ofNat_lt, h, decide_true, cond_true, w64_succ (show k < 9223372036854775807 by omega)]
          rw [loop_all (p := fun t => boxId y k t && one y k t) (len := (stk y k).length) (no := some false) (yes := J ((k + 1 : Nat) : Int)) (by omega) (fun t J2 ht _ => ?_) (fun J2 _ => ?_) (by omega)]
          · unfold spec_YardOk_L12 spec_YardOk_k0
            have e : decide (((y.Stacks.flatten.count ((stk y k).getD t 0) : Nat) : Int) = 1) = one y k t := by
              unfold one
              simp only [decide_eq_decide]
              omega
            simp only [Int.ofNat_lt, ix_nat h, Int.toNat_natCast, ht, decide_true, cond_true, ix_nat ht, in_spec, Option.bind_some, count_spec y _ hz hn, e, w64_succ (show t < 9223372036854775807 by omega), bif_not, bif_and', boxId]
          · unfold spec_YardOk_L12
            simp only [ix_nat h, Int.toNat_natCast, Int.lt_irrefl, decide_false, cond_false]
        · unfold spec_YardOk_L9
          simp only [Int.lt_irrefl, decide_false, cond_false]
def putAll (m : List (Int × Bool)) (l : List Int) : List (Int × Bool) := l.foldl (fun m x => mputI m x true) m
theorem putAll_get (l : List Int) : ∀ (m : List (Int × Bool)) (x : Int), (mgetI (putAll m l) x).getD false = ((mgetI m x).getD false || decide (x ∈ l)) := by
  induction l with
  | nil => intro m x; simp [putAll]
  | cons a l ih =>
    intro m x
    show (mgetI (putAll (mputI m a true) l) x).getD false = _
    rw [ih, mgetI_mputI]
    by_cases h : x = a
    · simp [h]
    · simp [h]
theorem putAll_snoc (m : List (Int × Bool)) (l : List Int) (x : Int) : putAll m (l ++ [x]) = mputI (putAll m l) x true := by
  simp [putAll]
theorem id_impl2 (n : Nat) (x : Int) : impl_idRight n x = some (decide (1 ≤ x ∧ x ≤ 1000000)) := by
  unfold impl_idRight
  rw [in_impl]; rfl
theorem yard_impl {n : Nat} (y : SYard) (hz : YardSz y) (hn : 1000000000 < n) : impl_YardOk n y = some (yardB' y) := by
  have hl := hz.len
  unfold impl_YardOk yardB' yardHead
  rw [in_impl, in_impl, Option.bind_some]
  cases decide (1 ≤ y.High ∧ y.High ≤ 6) with
  | false => rfl
  | true =>
    cases decide (1 ≤ (y.Stacks.length : Int) ∧ (y.Stacks.length : Int) ≤ 12) with
    | false => rfl
    | true =>
      simp only [Bool.not_true, cond_false, Option.bind_some, Bool.true_and]
      refine (loop_allS (S := List (Int × Bool)) (X := Int × List (Int × Bool)) (enc := fun k s => (k, s)) (len := y.Stacks.length) (p := fun s => high y s && (List.range (stk y s).length).all fun t => boxId y s t && fresh y s t)
        (I := fun s m => ∀ x, (mgetI m x).getD false = decide (x ∈ (y.Stacks.take s).flatten)) (no := some false) (yes := some true) (fun s m J h hi _ => ?_) (fun m J hi _ => ?_) (n := n) (by omega) (s0 := []) (fun q => by simp [mgetI])).trans ?_
      · refine ⟨putAll m (stk y s), fun _ x => ?_, ?_⟩
        · rw [putAll_get, hi x, take_flat y h]
          simp only [List.mem_append, Bool.decide_or]
        · have he := hz.each s h
          show impl_YardOk_L5 n _ _ _ y.Stacks _ (s : Int) y m = _
          unfold impl_YardOk_L5 impl_YardOk_k1
          simp only [Int.ofNat_lt, h, decide_true, cond_true, ix_nat h, Int.toNat_natCast, w64_succ (show s < 9223372036854775807 by omega)]
          have := loop_allS (R := Bool) (S := List (Int × Bool)) (X := Int × List (Int × Bool)) (enc := fun k s => (k, s)) (len := (stk y s).length) (p := fun t => boxId y s t && fresh y s t)
            (b := fun x J' => impl_YardOk_L10 n (fun t52 => J (((s + 1 : Nat) : Int), t52)) (fun t55 => some t55) (fun t56 t57 => J' (t56, t57)) y.Stacks (y.Stacks.length : Int) (s : Int) (y.Stacks.getD s []) ((y.Stacks.getD s []).length : Int) x.1 y x.2)
            (I := fun t m' => m' = putAll m ((stk y s).take t)) (no := some false) (yes := J (((s + 1 : Nat) : Int), putAll m (stk y s))) (fun t m' J2 ht hi2 _ => ?_) (fun m' J2 hi2 _ => ?_) (n := n) (by omega) (s0 := m) (by simp [putAll])
          · refine (congrArg (fun z => bif decide (((y.Stacks.getD s []).length : Int) > y.High) then some false else z) this).trans ?_
            unfold high
            cases decide (((stk y s).length : Int) > y.High) <;> rfl
          · refine ⟨mputI m' ((stk y s).getD t 0) true, fun _ => ?_, ?_⟩
            · rw [take_succ_getD (d := 0) ht, putAll_snoc, hi2]
            · have hf : (mgetI m' ((stk y s).getD t 0)).getD false = !fresh y s t := by
                rw [hi2, putAll_get, hi, fresh, Bool.not_not, before]
                simp only [List.mem_append, Bool.decide_or]
              show impl_YardOk_L10 n _ _ _ y.Stacks _ (s : Int) _ _ (t : Int) y m' = _
              unfold impl_YardOk_L10 impl_YardOk_k0
              simp only [Int.ofNat_lt, ht, decide_true, cond_true, ix_nat ht, Int.toNat_natCast, id_impl2, Option.bind_some, bd_eq, hf, w64_succ (show t < 9223372036854775807 by omega), bif_not, bif_and', boxId]
          · subst hi2
            show impl_YardOk_L10 n _ _ _ y.Stacks _ (s : Int) _ _ ((stk y s).length : Int) y _ = _
            unfold impl_YardOk_L10
            simp only [Int.lt_irrefl, decide_false, cond_false, List.take_length]
      · show impl_YardOk_L5 n _ _ _ y.Stacks _ (y.Stacks.length : Int) y m = _
        unfold impl_YardOk_L5
        simp only [Int.lt_irrefl, decide_false, cond_false]
      · rw [bif_tf]
end Go.Sm
end

section
set_option linter.unusedSimpArgs false
set_option linter.deprecated false
set_option linter.unusedSectionVars false
set_option linter.unusedVariables false
set_option linter.unusedSimpArgs false
namespace Go.Sm
attribute [local irreducible] bd chk ix loopN
def rightB (x : SLot) : Bool := decide (1 ≤ x.Many ∧ x.Many ≤ 1000000) && (decide (0 ≤ x.Value ∧ x.Value ≤ 1000000) && decide (0 ≤ x.Rate ∧ x.Rate ≤ 5000))
def dutyI (x : SLot) : Int := w64 (Int.tdiv (w64 ((w64 (x.Many * x.Value)) * x.Rate)) 1000)
theorem duty_spec (n : Nat) (x : SLot) : spec_Duty6 n x.Many x.Value x.Rate = some (bif rightB x then (dutyI x, true) else (0, false)) := by
  unfold spec_Duty6 rightB dutyI
  simp only [in_spec, Option.bind_some, bd_eq]
  cases decide (1 ≤ x.Many ∧ x.Many ≤ 1000000) <;> cases decide (0 ≤ x.Value ∧ x.Value ≤ 1000000) <;> cases decide (0 ≤ x.Rate ∧ x.Rate ≤ 5000) <;> rfl
theorem right_impl (n : Nat) (x : SLot) : impl_lotRight n x.Many x.Value x.Rate = some (rightB x) := by
  unfold impl_lotRight rightB
  simp only [in_impl, Option.bind_some]
  cases decide (1 ≤ x.Many ∧ x.Many ≤ 1000000) <;> cases decide (0 ≤ x.Value ∧ x.Value ≤ 1000000) <;> cases decide (0 ≤ x.Rate ∧ x.Rate ≤ 5000) <;> rfl
theorem duty_impl (n : Nat) (x : SLot) (h : rightB x = true) : impl_Lot_duty n x = some (dutyI x) := by
  unfold impl_Lot_duty impl_Duty6
  rw [right_impl, h]
  simp only [Option.bind_some, bd_eq, Bool.not_true, cond_false]
  rfl
def addB (b : List Int) (x : SLot) : List Int := b.set x.Owner.toNat (w64 (b.getD x.Owner.toNat 0 + x.Bond))
def bnd (h : SHouse) (k : Nat) : List Int := (h.Lots.take k).foldl addB (List.replicate h.Traders.length 0)
theorem bnd_succ (h : SHouse) {k : Nat} (hk : k < h.Lots.length) : bnd h (k + 1) = addB (bnd h k) (h.Lots.getD k dSLot) := by
  unfold bnd
  rw [take_succ_getD (d := dSLot) hk, List.foldl_append]
  rfl
theorem bnd_len (h : SHouse) (k : Nat) : (bnd h k).length = h.Traders.length := by
  unfold bnd
  have : ∀ (l : List SLot) (b : List Int), (l.foldl addB b).length = b.length := by
    intro l
    induction l with
    | nil => intro b; rfl
    | cons a l ih => intro b; rw [List.foldl_cons, ih]; simp [addB]
  rw [this]
  simp
def condB (x : SLot) : Bool := bif decide (x.State = 3) then decide (x.Bond = dutyI x) else decide (x.Bond = 0)
def ownB (h : SHouse) (x : SLot) : Bool := decide (0 ≤ x.Owner ∧ x.Owner ≤ w64 ((h.Traders.length : Int) - 1))
def lotId (h : SHouse) (k : Nat) : Bool := decide (1 ≤ (h.Lots.getD k dSLot).Id ∧ (h.Lots.getD k dSLot).Id ≤ 1000000) && (decide (k = 0) || !decide ((h.Lots.getD (k - 1) dSLot).Id ≥ (h.Lots.getD k dSLot).Id))
def stateB (x : SLot) : Bool := decide (1 ≤ x.State ∧ x.State ≤ 5)
def lotB (h : SHouse) (k : Nat) : Bool := rightB (h.Lots.getD k dSLot) && (lotId h k && (ownB h (h.Lots.getD k dSLot) && (stateB (h.Lots.getD k dSLot) && condB (h.Lots.getD k dSLot))))
def trdB (h : SHouse) (k : Nat) : Bool := decide (0 ≤ (h.Traders.getD k dSTrader).Money ∧ (h.Traders.getD k dSTrader).Money ≤ 1000000000000000) && (decide (0 ≤ (h.Traders.getD k dSTrader).Bond ∧ (h.Traders.getD k dSTrader).Bond ≤ 1000000000000000) && (decide (0 ≤ (h.Traders.getD k dSTrader).Bound ∧ (h.Traders.getD k dSTrader).Bound ≤ (h.Traders.getD k dSTrader).Bond) && decide ((h.Traders.getD k dSTrader).Bound = (bnd h h.Lots.length).getD k 0)))
def houseB (h : SHouse) : Bool := decide (h.Lots.length ≤ 40) && (decide (h.Traders.length ≤ 10) && (decide (0 ≤ h.Taken ∧ h.Taken ≤ 1000000000000000) && ((List.range h.Lots.length).all (lotB h) && (List.range h.Traders.length).all (trdB h))))
section
variable {R : Type}
theorem own_lt {h : SHouse} {x : SLot} (ht : h.Traders.length ≤ 10) (ho : ownB h x = true) : 0 ≤ x.Owner ∧ x.Owner < (h.Traders.length : Int) := by
  have := of_decide_eq_true ho
  rw [w64_id (by omega) (by omega)] at this
  omega
theorem k2_spec {n : Nat} (kx0 : List Int → Option R) (kxr : Bool → Option R) (J : Int → List Int → Option R) (i : Int) (t : Bool) (h : SHouse) (b : List Int) (x : SLot) (hb : b.length = h.Traders.length) (ht : h.Traders.length ≤ 10) (ho : ownB h x = true) :
    spec_HouseOk_k2 n kx0 kxr J i (dutyI x) (!t) h b x = bif t && condB x then J (w64 (i + 1)) (addB b x) else kxr false := by
  obtain ⟨h0, h1⟩ := own_lt ht ho
  unfold spec_HouseOk_k2 condB spec_HouseOk_k0 spec_HouseOk_k1
  cases t with
  | false => rfl
  | true =>
    simp only [Bool.not_true, cond_false, Bool.true_and, ix_of h0 (show x.Owner < (b.length : Int) by omega), chk_dec (show x.Owner.toNat < b.length by omega), bd_eq]
    cases decide (x.State = 3) with
    | false =>
      simp only [Bool.not_false, cond_true, cond_false]
      by_cases e : x.Bond = 0
      · rw [decide_eq_true e]
        unfold addB
        rw [e]
        rfl
      · rw [decide_eq_false e]
        rfl
    | true =>
      simp only [Bool.not_true, cond_true, cond_false]
      by_cases e : x.Bond = dutyI x
      · rw [decide_eq_true e]
        unfold addB
        rw [e]
        rfl
      · rw [decide_eq_false e]
        rfl
theorem k1_impl {n : Nat} (kx0 : List Int → Option R) (kxr : Bool → Option R) (J : Int → List Int → Option R) (t3 : List SLot) (t4 : Int) (i : Int) (h : SHouse) (b : List Int) (x : SLot) (hb : b.length = h.Traders.length) (ht : h.Traders.length ≤ 10) (ho : ownB h x = true) (hr : rightB x = true) :
    impl_HouseOk_k1 n kx0 kxr J t3 t4 i h b x = bif condB x then J (w64 (i + 1)) (addB b x) else kxr false := by
  obtain ⟨h0, h1⟩ := own_lt ht ho
  unfold impl_HouseOk_k1 condB impl_HouseOk_k0
  simp only [duty_impl n x hr, Option.bind_some, ix_of h0 (show x.Owner < (b.length : Int) by omega), chk_dec (show x.Owner.toNat < b.length by omega), bd_eq]
  cases decide (x.State = 3) <;> cases decide (x.Bond = 0) <;> cases decide (x.Bond = dutyI x) <;> rfl
end
theorem id_impl3 (n : Nat) (x : Int) : impl_idRight n x = some (decide (1 ≤ x ∧ x ≤ 1000000)) := by
  unfold impl_idRight
  rw [in_impl]; rfl
theorem house_spec {n : Nat} (h : SHouse) (hn : 1000000000 < n) : spec_HouseOk n h = some (houseB h) := by
  unfold spec_HouseOk houseB
  by_cases h40 : h.Lots.length ≤ 40
  · by_cases h10 : h.Traders.length ≤ 10
    · rw [decide_eq_false (show ¬ (h.Lots.length : Int) > 40 by omega), decide_eq_false (show ¬ (h.Traders.length : Int) > 10 by omega), decide_eq_true h40, decide_eq_true h10, in_spec, Option.bind_some]
      simp only [cond_false, Bool.true_and]
      cases decide (0 ≤ h.Taken ∧ h.Taken ≤ 1000000000000000) with
      | false => rfl
      | true =>
        simp only [Bool.not_true, cond_false, Bool.true_and]
        unfold spec_HouseOk_k5
        rw [chk_dec (by omega), chk_dec (by omega), chk_dec (by omega), Int.toNat_natCast]
        refine (loop_allS (S := List Int) (X := Int × List Int) (enc := fun k s => (k, s)) (len := h.Lots.length) (p := lotB h)
          (I := fun k b => b = bnd h k) (no := some false) (yes := some ((List.range h.Traders.length).all (trdB h))) (fun k b J hk hi _ => ?_) (fun b J hi _ => ?_) (n := n) (by omega) (s0 := _) (by simp [bnd])).trans ?_
        · refine ⟨addB b (h.Lots.getD k dSLot), fun _ => by rw [bnd_succ h hk, hi], ?_⟩
          have hb : b.length = h.Traders.length := by rw [hi, bnd_len]
          show spec_HouseOk_L5 n _ _ _ (k : Int) h b = _
          unfold spec_HouseOk_L5 spec_HouseOk_k3 lotB lotId
          have e5 : ∀ t : Bool, ownB h (h.Lots.getD k dSLot) = true → ∀ kx0 kxr (J2 : Int → List Int → Option Bool), spec_HouseOk_k2 n kx0 kxr J2 (k : Int) (dutyI (h.Lots.getD k dSLot)) (!t) h b (h.Lots.getD k dSLot) = bif t && condB (h.Lots.getD k dSLot) then J2 (w64 ((k : Int) + 1)) (addB b (h.Lots.getD k dSLot)) else kxr false := fun t ho kx0 kxr J2 => k2_spec kx0 kxr J2 (k : Int) t h b _ hb h10 ho
          have eo : decide (0 ≤ (h.Lots.getD k dSLot).Owner ∧ (h.Lots.getD k dSLot).Owner ≤ w64 ((h.Traders.length : Int) - 1)) = ownB h (h.Lots.getD k dSLot) := rfl
          have es : decide (1 ≤ (h.Lots.getD k dSLot).State ∧ (h.Lots.getD k dSLot).State ≤ 5) = stateB (h.Lots.getD k dSLot) := rfl
          simp only [Int.ofNat_lt, hk, decide_true, cond_true, ix_nat hk, bd_eq, Int.toNat_natCast, duty_spec, in_spec, Option.bind_some, eo, es]
          cases hr : rightB (h.Lots.getD k dSLot) with
          | false => rfl
          | true =>
            simp only [cond_true, Bool.not_true, cond_false, Bool.true_and]
            cases ho : ownB h (h.Lots.getD k dSLot) with
            | false =>
              cases k with
              | zero =>
                simp only [show ¬ ((0 : Nat) : Int) > 0 by omega, decide_false, cond_false, Bool.not_false, cond_true, Bool.false_and, Bool.and_false]
                cases decide (1 ≤ (h.Lots.getD 0 dSLot).Id ∧ (h.Lots.getD 0 dSLot).Id ≤ 1000000) <;> rfl
              | succ k =>
                have e3 : w64 (((k + 1 : Nat) : Int) - 1) = (k : Int) := by rw [w64_id (by omega) (by omega)]; omega
                simp only [show ((k + 1 : Nat) : Int) > 0 by omega, decide_true, cond_true, e3, ix_nat (show k < h.Lots.length by omega), Int.toNat_natCast, Bool.not_false, Bool.false_and, Bool.and_false]
                cases decide (1 ≤ (h.Lots.getD (k + 1) dSLot).Id ∧ (h.Lots.getD (k + 1) dSLot).Id ≤ 1000000) <;> cases decide ((h.Lots.getD k dSLot).Id ≥ (h.Lots.getD (k + 1) dSLot).Id) <;> rfl
            | true =>
              cases k with
              | zero =>
                simp only [show ¬ ((0 : Nat) : Int) > 0 by omega, decide_false, cond_false, e5 _ ho, Bool.not_true, Bool.true_and, decide_true, Bool.true_or, Bool.and_true, w64_succ (show 0 < 9223372036854775807 by omega), bif_not, bif_and', Bool.and_assoc]
              | succ k =>
                have e3 : w64 (((k + 1 : Nat) : Int) - 1) = (k : Int) := by rw [w64_id (by omega) (by omega)]; omega
                simp only [show ((k + 1 : Nat) : Int) > 0 by omega, decide_true, cond_true, e3, ix_nat (show k < h.Lots.length by omega), Int.toNat_natCast, e5 _ ho, Bool.not_true, cond_false, Bool.true_and, decide_false, Nat.succ_ne_zero, Nat.add_sub_cancel, Bool.false_or, w64_succ (show k + 1 < 9223372036854775807 by omega), bif_not, bif_and', bif_or', Bool.and_assoc, Bool.not_not, Bool.not_false, Bool.true_and]
        · have hb : b.length = h.Traders.length := by rw [hi, bnd_len]
          show spec_HouseOk_L5 n _ _ _ (h.Lots.length : Int) h b = _
          unfold spec_HouseOk_L5
          simp only [Int.lt_irrefl, decide_false, cond_false]
          rw [loop_all (p := trdB h) (len := h.Traders.length) (no := some false) (yes := some true) (by omega) (fun k J hk _ => ?_) (fun J _ => ?_) (by omega)]
          · rw [bif_tf]
          · unfold spec_HouseOk_L17 spec_HouseOk_k4 trdB
            rw [← hi]
            simp only [Int.ofNat_lt, hk, decide_true, cond_true, ix_nat hk, bd_eq, Int.toNat_natCast, in_spec, Option.bind_some, ix_nat (show k < b.length by omega), chk_dec (show k < b.length by omega), w64_succ (show k < 9223372036854775807 by omega), bif_not, bif_and', Bool.and_assoc]
          · unfold spec_HouseOk_L17
            simp only [Int.lt_irrefl, decide_false, cond_false]
        · rw [bif_sf]
    · rw [decide_eq_false (show ¬ (h.Lots.length : Int) > 40 by omega), decide_eq_true (show (h.Traders.length : Int) > 10 by omega), decide_eq_false h10, Bool.false_and, Bool.and_false]
      rfl
  · rw [decide_eq_true (show (h.Lots.length : Int) > 40 by omega), decide_eq_false h40]
    rfl
theorem house_impl {n : Nat} (h : SHouse) (hn : 1000000000 < n) : impl_HouseOk n h = some (houseB h) := by
  unfold impl_HouseOk houseB
  by_cases h40 : h.Lots.length ≤ 40
  · by_cases h10 : h.Traders.length ≤ 10
    · rw [decide_eq_false (show ¬ (h.Lots.length : Int) > 40 by omega), decide_eq_false (show ¬ (h.Traders.length : Int) > 10 by omega), decide_eq_true h40, decide_eq_true h10, in_impl, Option.bind_some]
      simp only [cond_false, Bool.true_and]
      cases decide (0 ≤ h.Taken ∧ h.Taken ≤ 1000000000000000) with
      | false => rfl
      | true =>
        simp only [Bool.not_true, cond_false, Bool.true_and]
        unfold impl_HouseOk_k4
        rw [chk_dec (by omega), chk_dec (by omega), chk_dec (by omega), Int.toNat_natCast]
        refine (loop_allS (S := List Int) (X := Int × List Int) (enc := fun k s => (k, s)) (len := h.Lots.length) (p := lotB h)
          (I := fun k b => b = bnd h k) (no := some false) (yes := some ((List.range h.Traders.length).all (trdB h))) (fun k b J hk hi _ => ?_) (fun b J hi _ => ?_) (n := n) (by omega) (s0 := _) (by simp [bnd])).trans ?_
        · refine ⟨addB b (h.Lots.getD k dSLot), fun _ => by rw [bnd_succ h hk, hi], ?_⟩
          have hb : b.length = h.Traders.length := by rw [hi, bnd_len]
          show impl_HouseOk_L5 n _ _ _ h.Lots (h.Lots.length : Int) (k : Int) h b = _
          unfold impl_HouseOk_L5 impl_HouseOk_k2 lotB lotId
          have e5 : ownB h (h.Lots.getD k dSLot) = true → rightB (h.Lots.getD k dSLot) = true → ∀ kx0 kxr (J2 : Int → List Int → Option Bool), impl_HouseOk_k1 n kx0 kxr J2 h.Lots (h.Lots.length : Int) (k : Int) h b (h.Lots.getD k dSLot) = bif condB (h.Lots.getD k dSLot) then J2 (w64 ((k : Int) + 1)) (addB b (h.Lots.getD k dSLot)) else kxr false := fun ho hr kx0 kxr J2 => k1_impl kx0 kxr J2 h.Lots _ (k : Int) h b _ hb h10 ho hr
          have eo : decide (0 ≤ (h.Lots.getD k dSLot).Owner ∧ (h.Lots.getD k dSLot).Owner ≤ w64 ((h.Traders.length : Int) - 1)) = ownB h (h.Lots.getD k dSLot) := rfl
          have es : decide (1 ≤ (h.Lots.getD k dSLot).State ∧ (h.Lots.getD k dSLot).State ≤ 5) = stateB (h.Lots.getD k dSLot) := rfl
          simp only [Int.ofNat_lt, hk, decide_true, cond_true, ix_nat hk, bd_eq, Int.toNat_natCast, right_impl, id_impl3, in_impl, Option.bind_some, eo, es]
          cases ho : ownB h (h.Lots.getD k dSLot) with
          | false =>
            cases k with
            | zero =>
              simp only [show ¬ ((0 : Nat) : Int) > 0 by omega, decide_false, cond_false, Bool.not_false, cond_true, Bool.false_and, Bool.and_false]
              cases decide (1 ≤ (h.Lots.getD 0 dSLot).Id ∧ (h.Lots.getD 0 dSLot).Id ≤ 1000000) <;> rfl
            | succ k =>
              have e3 : w64 (((k + 1 : Nat) : Int) - 1) = (k : Int) := by rw [w64_id (by omega) (by omega)]; omega
              simp only [show ((k + 1 : Nat) : Int) > 0 by omega, decide_true, cond_true, e3, ix_nat (show k < h.Lots.length by omega), Int.toNat_natCast, Bool.not_false, Bool.false_and, Bool.and_false]
              cases decide (1 ≤ (h.Lots.getD (k + 1) dSLot).Id ∧ (h.Lots.getD (k + 1) dSLot).Id ≤ 1000000) <;> cases decide ((h.Lots.getD k dSLot).Id ≥ (h.Lots.getD (k + 1) dSLot).Id) <;> rfl
          | true =>
            cases hr : rightB (h.Lots.getD k dSLot) with
            | false =>
              cases k with
              | zero =>
                simp only [show ¬ ((0 : Nat) : Int) > 0 by omega, decide_false, cond_false, Bool.not_false, Bool.not_true, cond_true, Bool.false_and, Bool.and_false]
                cases decide (1 ≤ (h.Lots.getD 0 dSLot).Id ∧ (h.Lots.getD 0 dSLot).Id ≤ 1000000) <;> rfl
              | succ k =>
                have e3 : w64 (((k + 1 : Nat) : Int) - 1) = (k : Int) := by rw [w64_id (by omega) (by omega)]; omega
                simp only [show ((k + 1 : Nat) : Int) > 0 by omega, decide_true, cond_true, e3, ix_nat (show k < h.Lots.length by omega), Int.toNat_natCast, Bool.not_false, Bool.not_true, cond_false, Bool.false_and, Bool.and_false]
                cases decide (1 ≤ (h.Lots.getD (k + 1) dSLot).Id ∧ (h.Lots.getD (k + 1) dSLot).Id ≤ 1000000) <;> cases decide ((h.Lots.getD k dSLot).Id ≥ (h.Lots.getD (k + 1) dSLot).Id) <;> rfl
            | true =>
              cases k with
              | zero =>
                simp only [show ¬ ((0 : Nat) : Int) > 0 by omega, decide_false, cond_false, e5 ho hr, Bool.not_true, Bool.true_and, decide_true, Bool.true_or, Bool.and_true, w64_succ (show 0 < 9223372036854775807 by omega), bif_not, bif_and', Bool.and_assoc]
              | succ k =>
                have e3 : w64 (((k + 1 : Nat) : Int) - 1) = (k : Int) := by rw [w64_id (by omega) (by omega)]; omega
                simp only [show ((k + 1 : Nat) : Int) > 0 by omega, decide_true, cond_true, e3, ix_nat (show k < h.Lots.length by omega), Int.toNat_natCast, e5 ho hr, Bool.not_true, cond_false, Bool.true_and, decide_false, Nat.succ_ne_zero, Nat.add_sub_cancel, Bool.false_or, w64_succ (show k + 1 < 9223372036854775807 by omega), bif_not, bif_and', bif_or', Bool.and_assoc, Bool.not_not, Bool.not_false, Bool.true_and]
        · have hb : b.length = h.Traders.length := by rw [hi, bnd_len]
          show impl_HouseOk_L5 n _ _ _ h.Lots (h.Lots.length : Int) (h.Lots.length : Int) h b = _
          unfold impl_HouseOk_L5
          simp only [Int.lt_irrefl, decide_false, cond_false]
          rw [loop_all (p := trdB h) (len := h.Traders.length) (no := some false) (yes := some true) (by omega) (fun k J hk _ => ?_) (fun J _ => ?_) (by omega)]
          · rw [bif_tf]
          · unfold impl_HouseOk_L17 impl_HouseOk_k3 trdB
            rw [← hi]
            simp only [Int.ofNat_lt, hk, decide_true, cond_true, ix_nat hk, bd_eq, Int.toNat_natCast, in_impl, Option.bind_some, ix_nat (show k < b.length by omega), chk_dec (show k < b.length by omega), w64_succ (show k < 9223372036854775807 by omega), bif_not, bif_and', Bool.and_assoc]
          · unfold impl_HouseOk_L17
            simp only [Int.lt_irrefl, decide_false, cond_false]
        · rw [bif_sf]
    · rw [decide_eq_false (show ¬ (h.Lots.length : Int) > 40 by omega), decide_eq_true (show (h.Traders.length : Int) > 10 by omega), decide_eq_false h10, Bool.false_and, Bool.and_false]
      rfl
  · rw [decide_eq_true (show (h.Lots.length : Int) > 40 by omega), decide_eq_false h40]
    rfl
end Go.Sm
end

section
set_option linter.unusedSimpArgs false
set_option linter.deprecated false
set_option linter.unusedSectionVars false
set_option linter.unusedVariables false
set_option linter.unusedSimpArgs false
namespace Go.Sm
def portB (p : SPort) : Bool := clearB p.Long p.Calls && (yardB p.Yard && (bookB p.Book && houseB p.House))
theorem port_spec {n : Nat} (p : SPort) (hw : w_SPort p ≤ 100000000) (hn : 1000000000 < n) : spec_PortOk n p = some (portB p) := by
  have h1 : w_SPort p = w_LSCall p.Calls + w_SYard p.Yard + w_SBook p.Book + w_SHouse p.House := rfl
  have h2 : w_LSCall p.Calls = p.Calls.length := rfl
  unfold spec_PortOk portB
  rw [clear_spec _ _ (by omega) hn, Option.bind_some, yard_spec _ (yardSz _ (by omega)) hn, Option.bind_some, book_spec _ (bookSz _ (by omega)) hn, Option.bind_some, house_spec _ hn, Option.bind_some]
  cases clearB p.Long p.Calls <;> cases yardB p.Yard <;> cases bookB p.Book <;> rfl
theorem port_impl {n : Nat} (p : SPort) (hw : w_SPort p ≤ 100000000) (hn : 1000000000 < n) : impl_PortOk n p = some (portB p) := by
  have h1 : w_SPort p = w_LSCall p.Calls + w_SYard p.Yard + w_SBook p.Book + w_SHouse p.House := rfl
  have h2 : w_LSCall p.Calls = p.Calls.length := rfl
  unfold impl_PortOk portB
  rw [clear_impl _ _ (by omega) hn, Option.bind_some, yard_impl _ (yardSz _ (by omega)) hn, Option.bind_some, book_impl _ (bookSz _ (by omega)) hn, Option.bind_some, house_impl _ hn, Option.bind_some, ← yard_same]
  cases clearB p.Long p.Calls <;> cases yardB p.Yard <;> cases bookB p.Book <;> rfl
theorem laws_FnExactPortOk_true (aP0 : SPort) (h0 : wfSPort aP0) : ∃ n, laws_FnExactPortOk n aP0 = some true := by
  refine ⟨1000000001, ?_⟩
  generalize hN : (1000000001 : Nat) = n
  have hn : 1000000000 < n := by omega
  unfold laws_FnExactPortOk
  rw [laws_szPort_ok (n := n) aP0 (left := 1048576) h0 (by omega) (by omega) hn, Option.bind_some]
  refine guard_sz fun hw => ?_
  simp only [laws_toPort_ok aP0 (by omega) hn, Option.bind_some, port_spec aP0 (by omega) hn, port_impl aP0 (by omega) hn, laws_eqPort_ok aP0 (by omega) hn, decide_true, beq_self_eq_true, Bool.not_true, cond_false]
end Go.Sm
end
