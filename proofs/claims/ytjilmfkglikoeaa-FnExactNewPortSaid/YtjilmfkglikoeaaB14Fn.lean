import Derived.Test.YtjilmfkglikoeaaEngA
import Derived.KernelRfl
/- The functions as plain functions over data, and that the law answers true for all arguments. The program's NewPort returns what the reference's returns. -/
section
set_option linter.unusedSimpArgs false
set_option linter.deprecated false
set_option linter.unusedSectionVars false
set_option linter.unusedVariables false
namespace Go.Sm
structure SCall where
  Id : Int
  Long : Int
  From : Int
  To : Int
  At : Int
structure SYard where
  High : Int
  Stacks : List (List Int)
structure SBill where
  Id : Int
  Shipper : ByteArray
  Order : ByteArray
  Many : Int
  Held : List ByteArray
structure SBook where
  Bills : List SBill
  Freed : List Int
structure SLot where
  Id : Int
  Owner : Int
  Many : Int
  Value : Int
  Rate : Int
  State : Int
  Bond : Int
structure STrader where
  Money : Int
  Bond : Int
  Bound : Int
structure SHouse where
  Lots : List SLot
  Traders : List STrader
  Taken : Int
structure SPort where
  Long : Int
  Calls : List SCall
  Yard : SYard
  Book : SBook
  House : SHouse
def dSCall : SCall := ⟨(0 : Int), (0 : Int), (0 : Int), (0 : Int), (0 : Int)⟩
def dSYard : SYard := ⟨(0 : Int), []⟩
def dSBill : SBill := ⟨(0 : Int), str [], str [], (0 : Int), []⟩
def dSBook : SBook := ⟨[], []⟩
def dSLot : SLot := ⟨(0 : Int), (0 : Int), (0 : Int), (0 : Int), (0 : Int), (0 : Int), (0 : Int)⟩
def dSTrader : STrader := ⟨(0 : Int), (0 : Int), (0 : Int)⟩
def dSHouse : SHouse := ⟨[], [], (0 : Int)⟩
def dSPort : SPort := ⟨(0 : Int), [], dSYard, dSBook, dSHouse⟩
def spec_NewPort (n : Nat)  : Option SPort :=
  some ((⟨(100 : Int), [], (⟨(4 : Int), (List.replicate 4 [])⟩ : SYard), (⟨[], []⟩ : SBook), (⟨[], [(⟨(1000 : Int), (1000 : Int), (0 : Int)⟩ : STrader), (⟨(1000 : Int), (1000 : Int), (0 : Int)⟩ : STrader)], (0 : Int)⟩ : SHouse)⟩ : SPort))
def impl_NewPort (n : Nat)  : Option SPort :=
  some ((⟨(100 : Int), [], (⟨(4 : Int), (List.replicate 4 [])⟩ : SYard), (⟨[], []⟩ : SBook), (⟨[], [(⟨(1000 : Int), (1000 : Int), (0 : Int)⟩ : STrader), (⟨(1000 : Int), (1000 : Int), (0 : Int)⟩ : STrader)], (0 : Int)⟩ : SHouse)⟩ : SPort))
def laws_eqCall (n : Nat) (a0 : SCall) (b1 : SCall) : Option Bool :=
  (bif (!(decide (a0.Id = b1.Id))) then some (false) else (bif (!(decide (a0.Long = b1.Long))) then some (false) else (bif (!(decide (a0.From = b1.From))) then some (false) else (bif (!(decide (a0.To = b1.To))) then some (false) else (bif (!(decide (a0.At = b1.At))) then some (false) else some (true))))))
def laws_eqCallS_L4 {R : Type} (n : Nat) (kx0 : Option R) (kxr : Bool → Option R) (J : Int → Option R) (a1 : List SCall) (b2 : List SCall) (i3 : Int) : Option R :=
  (bif (decide (i3 < (a1.length : Int))) then ix i3 a1.length ((bd (a1.getD i3.toNat dSCall) fun (e9 : SCall) => ix i3 b2.length ((bd (b2.getD i3.toNat dSCall) fun (e10 : SCall) => (laws_eqCall n e9 e10).bind fun r11 => (bif (!r11) then kxr false else J (w64 (i3 + (1 : Int)))))))) else kx0)
def laws_eqCallS (n : Nat) (a0 : List SCall) (b1 : List SCall) : Option Bool :=
  (bif (!(decide ((a0.length : Int) = (b1.length : Int)))) then some (false) else loopN (fun (x : Int) J' => laws_eqCallS_L4 n (some (true)) (fun t15 => some (t15)) J' a0 b1 x) n ((0 : Int)))
def laws_eqIntS_L4 {R : Type} (n : Nat) (kx0 : Option R) (kxr : Bool → Option R) (J : Int → Option R) (a1 : List Int) (b2 : List Int) (i3 : Int) : Option R :=
  (bif (decide (i3 < (a1.length : Int))) then ix i3 a1.length (ix i3 b2.length ((bif (!(decide ((a1.getD i3.toNat (0 : Int)) = (b2.getD i3.toNat (0 : Int))))) then kxr false else J (w64 (i3 + (1 : Int)))))) else kx0)
def laws_eqIntS (n : Nat) (a0 : List Int) (b1 : List Int) : Option Bool :=
  (bif (!(decide ((a0.length : Int) = (b1.length : Int)))) then some (false) else loopN (fun (x : Int) J' => laws_eqIntS_L4 n (some (true)) (fun t9 => some (t9)) J' a0 b1 x) n ((0 : Int)))
def laws_eqIntSS_L4 {R : Type} (n : Nat) (kx0 : Option R) (kxr : Bool → Option R) (J : Int → Option R) (a1 : List (List Int)) (b2 : List (List Int)) (i3 : Int) : Option R :=
  (bif (decide (i3 < (a1.length : Int))) then ix i3 a1.length (ix i3 b2.length ((laws_eqIntS n (a1.getD i3.toNat []) (b2.getD i3.toNat [])).bind fun r7 => (bif (!r7) then kxr false else J (w64 (i3 + (1 : Int)))))) else kx0)
def laws_eqIntSS (n : Nat) (a0 : List (List Int)) (b1 : List (List Int)) : Option Bool :=
  (bif (!(decide ((a0.length : Int) = (b1.length : Int)))) then some (false) else loopN (fun (x : Int) J' => laws_eqIntSS_L4 n (some (true)) (fun t11 => some (t11)) J' a0 b1 x) n ((0 : Int)))
def laws_eqYard (n : Nat) (a0 : SYard) (b1 : SYard) : Option Bool :=
  (bif (!(decide (a0.High = b1.High))) then some (false) else (laws_eqIntSS n a0.Stacks b1.Stacks).bind fun r2 => (bif (!r2) then some (false) else some (true)))
def laws_eqStringS_L4 {R : Type} (n : Nat) (kx0 : Option R) (kxr : Bool → Option R) (J : Int → Option R) (a1 : List ByteArray) (b2 : List ByteArray) (i3 : Int) : Option R :=
  (bif (decide (i3 < (a1.length : Int))) then ix i3 a1.length (ix i3 b2.length ((bif (!(decide ((a1.getD i3.toNat (str [])) = (b2.getD i3.toNat (str []))))) then kxr false else J (w64 (i3 + (1 : Int)))))) else kx0)
def laws_eqStringS (n : Nat) (a0 : List ByteArray) (b1 : List ByteArray) : Option Bool :=
  (bif (!(decide ((a0.length : Int) = (b1.length : Int)))) then some (false) else loopN (fun (x : Int) J' => laws_eqStringS_L4 n (some (true)) (fun t9 => some (t9)) J' a0 b1 x) n ((0 : Int)))
def laws_eqBill_k0 (n : Nat)  (a0 : SBill) (b1 : SBill) : Option Bool :=
  (bif (!(decide (a0.Shipper = b1.Shipper))) then some (false) else (bif (!(decide (a0.Order = b1.Order))) then some (false) else (bif (!(decide (a0.Many = b1.Many))) then some (false) else (laws_eqStringS n a0.Held b1.Held).bind fun r4 => (bif (!r4) then some (false) else some (true)))))
def laws_eqBill (n : Nat) (a0 : SBill) (b1 : SBill) : Option Bool :=
  (bif (!(decide (a0.Id = b1.Id))) then some (false) else laws_eqBill_k0 n  a0 b1)
def laws_eqBillS_L4 {R : Type} (n : Nat) (kx0 : Option R) (kxr : Bool → Option R) (J : Int → Option R) (a1 : List SBill) (b2 : List SBill) (i3 : Int) : Option R :=
  (bif (decide (i3 < (a1.length : Int))) then ix i3 a1.length ((bd (a1.getD i3.toNat dSBill) fun (e9 : SBill) => ix i3 b2.length ((bd (b2.getD i3.toNat dSBill) fun (e10 : SBill) => (laws_eqBill n e9 e10).bind fun r11 => (bif (!r11) then kxr false else J (w64 (i3 + (1 : Int)))))))) else kx0)
def laws_eqBillS (n : Nat) (a0 : List SBill) (b1 : List SBill) : Option Bool :=
  (bif (!(decide ((a0.length : Int) = (b1.length : Int)))) then some (false) else loopN (fun (x : Int) J' => laws_eqBillS_L4 n (some (true)) (fun t15 => some (t15)) J' a0 b1 x) n ((0 : Int)))
def laws_eqBook (n : Nat) (a0 : SBook) (b1 : SBook) : Option Bool :=
  (laws_eqBillS n a0.Bills b1.Bills).bind fun r1 => (bif (!r1) then some (false) else (laws_eqIntS n a0.Freed b1.Freed).bind fun r3 => (bif (!r3) then some (false) else some (true)))
def laws_eqLot_k0 (n : Nat)  (a0 : SLot) (b1 : SLot) : Option Bool :=
  (bif (!(decide (a0.Many = b1.Many))) then some (false) else (bif (!(decide (a0.Value = b1.Value))) then some (false) else (bif (!(decide (a0.Rate = b1.Rate))) then some (false) else (bif (!(decide (a0.State = b1.State))) then some (false) else (bif (!(decide (a0.Bond = b1.Bond))) then some (false) else some (true))))))
def laws_eqLot (n : Nat) (a0 : SLot) (b1 : SLot) : Option Bool :=
  (bif (!(decide (a0.Id = b1.Id))) then some (false) else (bif (!(decide (a0.Owner = b1.Owner))) then some (false) else laws_eqLot_k0 n  a0 b1))
def laws_eqLotS_L4 {R : Type} (n : Nat) (kx0 : Option R) (kxr : Bool → Option R) (J : Int → Option R) (a1 : List SLot) (b2 : List SLot) (i3 : Int) : Option R :=
  (bif (decide (i3 < (a1.length : Int))) then ix i3 a1.length ((bd (a1.getD i3.toNat dSLot) fun (e9 : SLot) => ix i3 b2.length ((bd (b2.getD i3.toNat dSLot) fun (e10 : SLot) => (laws_eqLot n e9 e10).bind fun r11 => (bif (!r11) then kxr false else J (w64 (i3 + (1 : Int)))))))) else kx0)
def laws_eqLotS (n : Nat) (a0 : List SLot) (b1 : List SLot) : Option Bool :=
  (bif (!(decide ((a0.length : Int) = (b1.length : Int)))) then some (false) else loopN (fun (x : Int) J' => laws_eqLotS_L4 n (some (true)) (fun t15 => some (t15)) J' a0 b1 x) n ((0 : Int)))
def laws_eqTrader (n : Nat) (a0 : STrader) (b1 : STrader) : Option Bool :=
  (bif (!(decide (a0.Money = b1.Money))) then some (false) else (bif (!(decide (a0.Bond = b1.Bond))) then some (false) else (bif (!(decide (a0.Bound = b1.Bound))) then some (false) else some (true))))
def laws_eqTraderS_L4 {R : Type} (n : Nat) (kx0 : Option R) (kxr : Bool → Option R) (J : Int → Option R) (a1 : List STrader) (b2 : List STrader) (i3 : Int) : Option R :=
  (bif (decide (i3 < (a1.length : Int))) then ix i3 a1.length ((bd (a1.getD i3.toNat dSTrader) fun (e9 : STrader) => ix i3 b2.length ((bd (b2.getD i3.toNat dSTrader) fun (e10 : STrader) => (laws_eqTrader n e9 e10).bind fun r11 => (bif (!r11) then kxr false else J (w64 (i3 + (1 : Int)))))))) else kx0)
def laws_eqTraderS (n : Nat) (a0 : List STrader) (b1 : List STrader) : Option Bool :=
  (bif (!(decide ((a0.length : Int) = (b1.length : Int)))) then some (false) else loopN (fun (x : Int) J' => laws_eqTraderS_L4 n (some (true)) (fun t15 => some (t15)) J' a0 b1 x) n ((0 : Int)))
def laws_eqHouse (n : Nat) (a0 : SHouse) (b1 : SHouse) : Option Bool :=
  (laws_eqLotS n a0.Lots b1.Lots).bind fun r1 => (bif (!r1) then some (false) else (laws_eqTraderS n a0.Traders b1.Traders).bind fun r3 => (bif (!r3) then some (false) else (bif (!(decide (a0.Taken = b1.Taken))) then some (false) else some (true))))
def laws_eqPort_k0 (n : Nat)  (a0 : SPort) (b1 : SPort) : Option Bool :=
  (laws_eqCallS n a0.Calls b1.Calls).bind fun r1 => (bif (!r1) then some (false) else (laws_eqYard n a0.Yard b1.Yard).bind fun r8 => (bif (!r8) then some (false) else (laws_eqBook n a0.Book b1.Book).bind fun r9 => (bif (!r9) then some (false) else (laws_eqHouse n a0.House b1.House).bind fun r10 => (bif (!r10) then some (false) else some (true)))))
def laws_eqPort (n : Nat) (a0 : SPort) (b1 : SPort) : Option Bool :=
  (bif (!(decide (a0.Long = b1.Long))) then some (false) else laws_eqPort_k0 n  a0 b1)
def laws_markCallS_k0 {R : Type} (n : Nat) (kx0 : Int → List SCall → Option R) (J : Int → Int → List SCall → Option R) (k4 : Int) (i5 : Int) (p6 : List SCall) : Option R :=
  ix i5 p6.length (chk (decide (i5.toNat < p6.length)) ((bd (p6.getD i5.toNat dSCall) fun (e7 : SCall) => (bd (p6.set i5.toNat (⟨k4, e7.Long, e7.From, e7.To, e7.At⟩ : SCall)) fun (l8 : List SCall) => ix i5 l8.length (chk (decide (i5.toNat < l8.length)) ((bd (l8.getD i5.toNat dSCall) fun (e9 : SCall) => (bd (l8.set i5.toNat (⟨e9.Id, (w64 (k4 + (1 : Int))), e9.From, e9.To, e9.At⟩ : SCall)) fun (l10 : List SCall) => (bd (w64 ((w64 (k4 + (1 : Int))) + (1 : Int))) fun (v11 : Int) => ix i5 l10.length (chk (decide (i5.toNat < l10.length)) ((bd (l10.getD i5.toNat dSCall) fun (e12 : SCall) => (bd (l10.set i5.toNat (⟨e12.Id, e12.Long, v11, e12.To, e12.At⟩ : SCall)) fun (l13 : List SCall) => ix i5 l13.length (chk (decide (i5.toNat < l13.length)) ((bd (l13.getD i5.toNat dSCall) fun (e14 : SCall) => (bd (l13.set i5.toNat (⟨e14.Id, e14.Long, e14.From, (w64 (v11 + (1 : Int))), e14.At⟩ : SCall)) fun (l15 : List SCall) => (bd (w64 ((w64 (v11 + (1 : Int))) + (1 : Int))) fun (v16 : Int) => ix i5 l15.length (chk (decide (i5.toNat < l15.length)) ((bd (l15.getD i5.toNat dSCall) fun (e17 : SCall) => (bd (l15.set i5.toNat (⟨e17.Id, e17.Long, e17.From, e17.To, v16⟩ : SCall)) fun (l18 : List SCall) => J (w64 (v16 + (1 : Int))) (w64 (i5 + (1 : Int))) l18))))))))))))))))))))))
def laws_markCallS_L2 {R : Type} (n : Nat) (kx0 : Int → List SCall → Option R) (J : Int → Int → List SCall → Option R) (k1 : Int) (i2 : Int) (p3 : List SCall) : Option R :=
  (bif (decide (i2 < (p3.length : Int))) then laws_markCallS_k0 n kx0 J k1 i2 p3 else kx0 k1 p3)
def laws_markCallS (n : Nat) (a0 : List SCall) (k1 : Int) : Option (Int × List SCall) :=
  loopN (fun (x : Int × Int × List SCall) J' => laws_markCallS_L2 n (fun k19 p20 => some (k19, p20)) (fun k21 i22 p23 => J' (k21, i22, p23)) x.1 x.2.1 x.2.2) n (k1, (0 : Int), a0)
def laws_markIntS_L2 {R : Type} (n : Nat) (kx0 : Int → List Int → Option R) (J : Int → Int → List Int → Option R) (k1 : Int) (i2 : Int) (p3 : List Int) : Option R :=
  (bif (decide (i2 < (p3.length : Int))) then ix i2 p3.length (chk (decide (i2.toNat < p3.length)) (J (w64 (k1 + (1 : Int))) (w64 (i2 + (1 : Int))) (p3.set i2.toNat k1))) else kx0 k1 p3)
def laws_markIntS (n : Nat) (a0 : List Int) (k1 : Int) : Option (Int × List Int) :=
  loopN (fun (x : Int × Int × List Int) J' => laws_markIntS_L2 n (fun k7 p8 => some (k7, p8)) (fun k9 i10 p11 => J' (k9, i10, p11)) x.1 x.2.1 x.2.2) n (k1, (0 : Int), a0)
def laws_markIntSS_k0 {R : Type} (n : Nat) (kx0 : Int → List (List Int) → Option R) (J : Int → Int → List (List Int) → Option R) (k4 : Int) (i5 : Int) (p6 : List (List Int)) : Option R :=
  ix i5 p6.length (chk (decide (i5.toNat < p6.length)) (chk (decide (i5.toNat < p6.length)) ((laws_markIntS n (p6.getD i5.toNat []) k4).bind fun r7 => chk (decide (i5.toNat = i5.toNat)) (chk (decide (i5.toNat < p6.length)) (J r7.1 (w64 (i5 + (1 : Int))) (p6.set i5.toNat r7.2))))))
def laws_markIntSS_L2 {R : Type} (n : Nat) (kx0 : Int → List (List Int) → Option R) (J : Int → Int → List (List Int) → Option R) (k1 : Int) (i2 : Int) (p3 : List (List Int)) : Option R :=
  (bif (decide (i2 < (p3.length : Int))) then laws_markIntSS_k0 n kx0 J k1 i2 p3 else kx0 k1 p3)
def laws_markIntSS (n : Nat) (a0 : List (List Int)) (k1 : Int) : Option (Int × List (List Int)) :=
  loopN (fun (x : Int × Int × List (List Int)) J' => laws_markIntSS_L2 n (fun k8 p9 => some (k8, p9)) (fun k10 i11 p12 => J' (k10, i11, p12)) x.1 x.2.1 x.2.2) n (k1, (0 : Int), a0)
def laws_markYard (n : Nat) (a0 : SYard) (k1 : Int) : Option (Int × List (List Int)) :=
  (laws_markIntSS n a0.Stacks k1).bind fun r1 => some (r1.1, r1.2)
def laws_markText_L4 {R : Type} (n : Nat) (kx0 : ByteArray → Option R) (J : Int → ByteArray → Option R) (k2 : Int) (out3 : ByteArray) : Option R :=
  (bif (decide (k2 > (0 : Int))) then (bd (w64 ((48 : Int) + (Int.tmod k2 (10 : Int)))) fun (v8 : Int) => chk (decide ((((bstr [(wu8 v8)]).size + out3.size : Nat) : Int) ≤ 9223372036854775807)) ((bd (w64 (Int.tdiv k2 (10 : Int))) fun (v9 : Int) => J v9 ((bstr [(wu8 v8)]) ++ out3)))) else kx0 out3)
def laws_markText (n : Nat) (k0 : Int) : Option ByteArray :=
  (bif (decide (k0 ≤ (0 : Int))) then some (str [109, 48]) else loopN (fun (x : Int × ByteArray) J' => laws_markText_L4 n (fun out13 => chk (decide ((((str [109]).size + out13.size : Nat) : Int) ≤ 9223372036854775807)) (some ((str [109] ++ out13)))) (fun k14 out15 => J' (k14, out15)) x.1 x.2) n (k0, str []))
def laws_markStringS_L2 {R : Type} (n : Nat) (kx0 : Int → List ByteArray → Option R) (J : Int → Int → List ByteArray → Option R) (k1 : Int) (i2 : Int) (p3 : List ByteArray) : Option R :=
  (bif (decide (i2 < (p3.length : Int))) then (laws_markText n k1).bind fun r8 => ix i2 p3.length (chk (decide (i2.toNat < p3.length)) (J (w64 (k1 + (1 : Int))) (w64 (i2 + (1 : Int))) (p3.set i2.toNat r8))) else kx0 k1 p3)
def laws_markStringS (n : Nat) (a0 : List ByteArray) (k1 : Int) : Option (Int × List ByteArray) :=
  loopN (fun (x : Int × Int × List ByteArray) J' => laws_markStringS_L2 n (fun k9 p10 => some (k9, p10)) (fun k11 i12 p13 => J' (k11, i12, p13)) x.1 x.2.1 x.2.2) n (k1, (0 : Int), a0)
def laws_markBillS_k0 {R : Type} (n : Nat) (kx0 : Int → List SBill → Option R) (J : Int → Int → List SBill → Option R) (k4 : Int) (i5 : Int) (p6 : List SBill) : Option R :=
  ix i5 p6.length (chk (decide (i5.toNat < p6.length)) ((bd (p6.getD i5.toNat dSBill) fun (e7 : SBill) => (bd (p6.set i5.toNat (⟨k4, e7.Shipper, e7.Order, e7.Many, e7.Held⟩ : SBill)) fun (l8 : List SBill) => (laws_markText n (w64 (k4 + (1 : Int)))).bind fun r9 => ix i5 l8.length (chk (decide (i5.toNat < l8.length)) ((bd (l8.getD i5.toNat dSBill) fun (e10 : SBill) => (bd (l8.set i5.toNat (⟨e10.Id, r9, e10.Order, e10.Many, e10.Held⟩ : SBill)) fun (l11 : List SBill) => (bd (w64 ((w64 (k4 + (1 : Int))) + (1 : Int))) fun (v12 : Int) => (laws_markText n v12).bind fun r13 => ix i5 l11.length (chk (decide (i5.toNat < l11.length)) ((bd (l11.getD i5.toNat dSBill) fun (e14 : SBill) => (bd (l11.set i5.toNat (⟨e14.Id, e14.Shipper, r13, e14.Many, e14.Held⟩ : SBill)) fun (l15 : List SBill) => ix i5 l15.length (chk (decide (i5.toNat < l15.length)) ((bd (l15.getD i5.toNat dSBill) fun (e16 : SBill) => (bd (l15.set i5.toNat (⟨e16.Id, e16.Shipper, e16.Order, (w64 (v12 + (1 : Int))), e16.Held⟩ : SBill)) fun (l17 : List SBill) => (bd (w64 ((w64 (v12 + (1 : Int))) + (1 : Int))) fun (v18 : Int) => ix i5 l17.length (chk (decide (i5.toNat < l17.length)) (chk (decide (i5.toNat < l17.length)) ((laws_markStringS n ((l17.getD i5.toNat dSBill).Held) v18).bind fun r19 => chk (decide (i5.toNat = i5.toNat)) (chk (decide (i5.toNat < l17.length)) ((bd (l17.getD i5.toNat dSBill) fun (e20 : SBill) => (bd (l17.set i5.toNat (⟨e20.Id, e20.Shipper, e20.Order, e20.Many, r19.2⟩ : SBill)) fun (l21 : List SBill) => J r19.1 (w64 (i5 + (1 : Int))) l21)))))))))))))))))))))))))
def laws_markBillS_L2 {R : Type} (n : Nat) (kx0 : Int → List SBill → Option R) (J : Int → Int → List SBill → Option R) (k1 : Int) (i2 : Int) (p3 : List SBill) : Option R :=
  (bif (decide (i2 < (p3.length : Int))) then laws_markBillS_k0 n kx0 J k1 i2 p3 else kx0 k1 p3)
def laws_markBillS (n : Nat) (a0 : List SBill) (k1 : Int) : Option (Int × List SBill) :=
  loopN (fun (x : Int × Int × List SBill) J' => laws_markBillS_L2 n (fun k22 p23 => some (k22, p23)) (fun k24 i25 p26 => J' (k24, i25, p26)) x.1 x.2.1 x.2.2) n (k1, (0 : Int), a0)
def laws_markBook (n : Nat) (a0 : SBook) (k1 : Int) : Option (Int × List SBill × List Int) :=
  (laws_markBillS n a0.Bills k1).bind fun r1 => (laws_markIntS n a0.Freed r1.1).bind fun r2 => some (r2.1, r1.2, r2.2)
def laws_markLotS_k0 {R : Type} (n : Nat) (kx0 : Int → List SLot → Option R) (J : Int → Int → List SLot → Option R) (k4 : Int) (i5 : Int) (p6 : List SLot) : Option R :=
  ix i5 p6.length (chk (decide (i5.toNat < p6.length)) ((bd (p6.getD i5.toNat dSLot) fun (e7 : SLot) => (bd (p6.set i5.toNat (⟨k4, e7.Owner, e7.Many, e7.Value, e7.Rate, e7.State, e7.Bond⟩ : SLot)) fun (l8 : List SLot) => ix i5 l8.length (chk (decide (i5.toNat < l8.length)) ((bd (l8.getD i5.toNat dSLot) fun (e9 : SLot) => (bd (l8.set i5.toNat (⟨e9.Id, (w64 (k4 + (1 : Int))), e9.Many, e9.Value, e9.Rate, e9.State, e9.Bond⟩ : SLot)) fun (l10 : List SLot) => (bd (w64 ((w64 (k4 + (1 : Int))) + (1 : Int))) fun (v11 : Int) => ix i5 l10.length (chk (decide (i5.toNat < l10.length)) ((bd (l10.getD i5.toNat dSLot) fun (e12 : SLot) => (bd (l10.set i5.toNat (⟨e12.Id, e12.Owner, v11, e12.Value, e12.Rate, e12.State, e12.Bond⟩ : SLot)) fun (l13 : List SLot) => ix i5 l13.length (chk (decide (i5.toNat < l13.length)) ((bd (l13.getD i5.toNat dSLot) fun (e14 : SLot) => (bd (l13.set i5.toNat (⟨e14.Id, e14.Owner, e14.Many, (w64 (v11 + (1 : Int))), e14.Rate, e14.State, e14.Bond⟩ : SLot)) fun (l15 : List SLot) => (bd (w64 ((w64 (v11 + (1 : Int))) + (1 : Int))) fun (v16 : Int) => ix i5 l15.length (chk (decide (i5.toNat < l15.length)) ((bd (l15.getD i5.toNat dSLot) fun (e17 : SLot) => (bd (l15.set i5.toNat (⟨e17.Id, e17.Owner, e17.Many, e17.Value, v16, e17.State, e17.Bond⟩ : SLot)) fun (l18 : List SLot) => ix i5 l18.length (chk (decide (i5.toNat < l18.length)) ((bd (l18.getD i5.toNat dSLot) fun (e19 : SLot) => (bd (l18.set i5.toNat (⟨e19.Id, e19.Owner, e19.Many, e19.Value, e19.Rate, (w64 (v16 + (1 : Int))), e19.Bond⟩ : SLot)) fun (l20 : List SLot) => (bd (w64 ((w64 (v16 + (1 : Int))) + (1 : Int))) fun (v21 : Int) => ix i5 l20.length (chk (decide (i5.toNat < l20.length)) ((bd (l20.getD i5.toNat dSLot) fun (e22 : SLot) => (bd (l20.set i5.toNat (⟨e22.Id, e22.Owner, e22.Many, e22.Value, e22.Rate, e22.State, v21⟩ : SLot)) fun (l23 : List SLot) => J (w64 (v21 + (1 : Int))) (w64 (i5 + (1 : Int))) l23)))))))))))))))))))))))))))))))
def laws_markLotS_L2 {R : Type} (n : Nat) (kx0 : Int → List SLot → Option R) (J : Int → Int → List SLot → Option R) (k1 : Int) (i2 : Int) (p3 : List SLot) : Option R :=
  (bif (decide (i2 < (p3.length : Int))) then laws_markLotS_k0 n kx0 J k1 i2 p3 else kx0 k1 p3)
def laws_markLotS (n : Nat) (a0 : List SLot) (k1 : Int) : Option (Int × List SLot) :=
  loopN (fun (x : Int × Int × List SLot) J' => laws_markLotS_L2 n (fun k24 p25 => some (k24, p25)) (fun k26 i27 p28 => J' (k26, i27, p28)) x.1 x.2.1 x.2.2) n (k1, (0 : Int), a0)
def laws_markTraderS_k0 {R : Type} (n : Nat) (kx0 : Int → List STrader → Option R) (J : Int → Int → List STrader → Option R) (k4 : Int) (i5 : Int) (p6 : List STrader) : Option R :=
  ix i5 p6.length (chk (decide (i5.toNat < p6.length)) ((bd (p6.getD i5.toNat dSTrader) fun (e7 : STrader) => (bd (p6.set i5.toNat (⟨k4, e7.Bond, e7.Bound⟩ : STrader)) fun (l8 : List STrader) => ix i5 l8.length (chk (decide (i5.toNat < l8.length)) ((bd (l8.getD i5.toNat dSTrader) fun (e9 : STrader) => (bd (l8.set i5.toNat (⟨e9.Money, (w64 (k4 + (1 : Int))), e9.Bound⟩ : STrader)) fun (l10 : List STrader) => (bd (w64 ((w64 (k4 + (1 : Int))) + (1 : Int))) fun (v11 : Int) => ix i5 l10.length (chk (decide (i5.toNat < l10.length)) ((bd (l10.getD i5.toNat dSTrader) fun (e12 : STrader) => (bd (l10.set i5.toNat (⟨e12.Money, e12.Bond, v11⟩ : STrader)) fun (l13 : List STrader) => J (w64 (v11 + (1 : Int))) (w64 (i5 + (1 : Int))) l13)))))))))))))
def laws_markTraderS_L2 {R : Type} (n : Nat) (kx0 : Int → List STrader → Option R) (J : Int → Int → List STrader → Option R) (k1 : Int) (i2 : Int) (p3 : List STrader) : Option R :=
  (bif (decide (i2 < (p3.length : Int))) then laws_markTraderS_k0 n kx0 J k1 i2 p3 else kx0 k1 p3)
def laws_markTraderS (n : Nat) (a0 : List STrader) (k1 : Int) : Option (Int × List STrader) :=
  loopN (fun (x : Int × Int × List STrader) J' => laws_markTraderS_L2 n (fun k14 p15 => some (k14, p15)) (fun k16 i17 p18 => J' (k16, i17, p18)) x.1 x.2.1 x.2.2) n (k1, (0 : Int), a0)
def laws_markHouse (n : Nat) (a0 : SHouse) (k1 : Int) : Option (Int × List SLot × List STrader) :=
  (laws_markLotS n a0.Lots k1).bind fun r1 => (laws_markTraderS n a0.Traders r1.1).bind fun r2 => some (r2.1, r1.2, r2.2)
def laws_markPort (n : Nat) (a0 : SPort) (k1 : Int) : Option (Int × List SCall × List (List Int) × List SBill × List Int × List SLot × List STrader) :=
  (laws_markCallS n a0.Calls k1).bind fun r1 => (laws_markYard n a0.Yard r1.1).bind fun r2 => (laws_markBook n a0.Book r2.1).bind fun r3 => (laws_markHouse n a0.House r3.1).bind fun r4 => some (r4.1, r1.2, r2.2, r3.2.1, r3.2.2, r4.2.1, r4.2.2)
def laws_heldCallS_k0 {R : Type} (n : Nat) (kx0 : Int → Option R) (kxr : Int → Option R) (J : Int → Int → Option R) (a1 : List SCall) (k13 : Int) (i14 : Int) : Option R :=
  ix i14 a1.length ((bd (a1.getD i14.toNat dSCall) fun (e15 : SCall) => (bif (!(decide (e15.To = (w64 (k13 + (1 : Int)))))) then kxr (-1 : Int) else (bd (w64 ((w64 (k13 + (1 : Int))) + (1 : Int))) fun (v26 : Int) => ix i14 a1.length ((bd (a1.getD i14.toNat dSCall) fun (e27 : SCall) => (bif (!(decide (e27.At = v26))) then kxr (-1 : Int) else J (w64 (v26 + (1 : Int))) (w64 (i14 + (1 : Int))))))))))
def laws_heldCallS_k1 {R : Type} (n : Nat) (kx0 : Int → Option R) (kxr : Int → Option R) (J : Int → Int → Option R) (a1 : List SCall) (k7 : Int) (i8 : Int) : Option R :=
  ix i8 a1.length ((bd (a1.getD i8.toNat dSCall) fun (e9 : SCall) => (bif (!(decide (e9.Long = (w64 (k7 + (1 : Int)))))) then kxr (-1 : Int) else (bd (w64 ((w64 (k7 + (1 : Int))) + (1 : Int))) fun (v32 : Int) => ix i8 a1.length ((bd (a1.getD i8.toNat dSCall) fun (e33 : SCall) => (bif (!(decide (e33.From = v32))) then kxr (-1 : Int) else laws_heldCallS_k0 n kx0 kxr J a1 v32 i8)))))))
def laws_heldCallS_L2 {R : Type} (n : Nat) (kx0 : Int → Option R) (kxr : Int → Option R) (J : Int → Int → Option R) (a1 : List SCall) (k2 : Int) (i3 : Int) : Option R :=
  (bif (decide (i3 < (a1.length : Int))) then ix i3 a1.length ((bd (a1.getD i3.toNat dSCall) fun (e36 : SCall) => (bif (!(decide (e36.Id = k2))) then kxr (-1 : Int) else laws_heldCallS_k1 n kx0 kxr J a1 k2 i3))) else kx0 k2)
def laws_heldCallS (n : Nat) (a0 : List SCall) (k1 : Int) : Option Int :=
  loopN (fun (x : Int × Int) J' => laws_heldCallS_L2 n (fun k39 => some (k39)) (fun t40 => some (t40)) (fun k41 i42 => J' (k41, i42)) a0 x.1 x.2) n (k1, (0 : Int))
def laws_heldIntS_L2 {R : Type} (n : Nat) (kx0 : Int → Option R) (kxr : Int → Option R) (J : Int → Int → Option R) (a1 : List Int) (k2 : Int) (i3 : Int) : Option R :=
  (bif (decide (i3 < (a1.length : Int))) then ix i3 a1.length ((bif (!(decide ((a1.getD i3.toNat (0 : Int)) = k2))) then kxr (-1 : Int) else J (w64 (k2 + (1 : Int))) (w64 (i3 + (1 : Int))))) else kx0 k2)
def laws_heldIntS (n : Nat) (a0 : List Int) (k1 : Int) : Option Int :=
  loopN (fun (x : Int × Int) J' => laws_heldIntS_L2 n (fun k16 => some (k16)) (fun t17 => some (t17)) (fun k18 i19 => J' (k18, i19)) a0 x.1 x.2) n (k1, (0 : Int))
def laws_heldIntSS_L2 {R : Type} (n : Nat) (kx0 : Int → Option R) (kxr : Int → Option R) (J : Int → Int → Option R) (a1 : List (List Int)) (k2 : Int) (i3 : Int) : Option R :=
  (bif (decide (i3 < (a1.length : Int))) then ix i3 a1.length ((laws_heldIntS n (a1.getD i3.toNat []) k2).bind fun r9 => (bif (decide (r9 < (0 : Int))) then kxr (-1 : Int) else J r9 (w64 (i3 + (1 : Int))))) else kx0 k2)
def laws_heldIntSS (n : Nat) (a0 : List (List Int)) (k1 : Int) : Option Int :=
  loopN (fun (x : Int × Int) J' => laws_heldIntSS_L2 n (fun k12 => some (k12)) (fun t13 => some (t13)) (fun k14 i15 => J' (k14, i15)) a0 x.1 x.2) n (k1, (0 : Int))
def laws_heldYard (n : Nat) (a0 : SYard) (k1 : Int) : Option Int :=
  (laws_heldIntSS n a0.Stacks k1).bind fun r1 => (bif (decide (r1 < (0 : Int))) then some ((-1 : Int)) else some (r1))
def laws_heldStringS_L2 {R : Type} (n : Nat) (kx0 : Int → Option R) (kxr : Int → Option R) (J : Int → Int → Option R) (a1 : List ByteArray) (k2 : Int) (i3 : Int) : Option R :=
  (bif (decide (i3 < (a1.length : Int))) then ix i3 a1.length ((laws_markText n k2).bind fun r13 => (bif (!(decide ((a1.getD i3.toNat (str [])) = r13))) then kxr (-1 : Int) else J (w64 (k2 + (1 : Int))) (w64 (i3 + (1 : Int))))) else kx0 k2)
def laws_heldStringS (n : Nat) (a0 : List ByteArray) (k1 : Int) : Option Int :=
  loopN (fun (x : Int × Int) J' => laws_heldStringS_L2 n (fun k18 => some (k18)) (fun t19 => some (t19)) (fun k20 i21 => J' (k20, i21)) a0 x.1 x.2) n (k1, (0 : Int))
def laws_heldBillS_k0 {R : Type} (n : Nat) (kx0 : Int → Option R) (kxr : Int → Option R) (J : Int → Int → Option R) (a1 : List SBill) (k15 : Int) (i16 : Int) : Option R :=
  ix i16 a1.length ((bd (a1.getD i16.toNat dSBill) fun (e17 : SBill) => (bif (!(decide (e17.Many = (w64 (k15 + (1 : Int)))))) then kxr (-1 : Int) else (bd (w64 ((w64 (k15 + (1 : Int))) + (1 : Int))) fun (v24 : Int) => ix i16 a1.length ((bd (a1.getD i16.toNat dSBill) fun (e25 : SBill) => (laws_heldStringS n e25.Held v24).bind fun r26 => (bif (decide (r26 < (0 : Int))) then kxr (-1 : Int) else J r26 (w64 (i16 + (1 : Int))))))))))
def laws_heldBillS_k1 {R : Type} (n : Nat) (kx0 : Int → Option R) (kxr : Int → Option R) (J : Int → Int → Option R) (a1 : List SBill) (k7 : Int) (i8 : Int) : Option R :=
  ix i8 a1.length ((bd (a1.getD i8.toNat dSBill) fun (e9 : SBill) => (laws_markText n (w64 (k7 + (1 : Int)))).bind fun r10 => (bif (!(decide (e9.Shipper = r10))) then kxr (-1 : Int) else (bd (w64 ((w64 (k7 + (1 : Int))) + (1 : Int))) fun (v29 : Int) => ix i8 a1.length ((bd (a1.getD i8.toNat dSBill) fun (e30 : SBill) => (laws_markText n v29).bind fun r31 => (bif (!(decide (e30.Order = r31))) then kxr (-1 : Int) else laws_heldBillS_k0 n kx0 kxr J a1 v29 i8)))))))
def laws_heldBillS_L2 {R : Type} (n : Nat) (kx0 : Int → Option R) (kxr : Int → Option R) (J : Int → Int → Option R) (a1 : List SBill) (k2 : Int) (i3 : Int) : Option R :=
  (bif (decide (i3 < (a1.length : Int))) then ix i3 a1.length ((bd (a1.getD i3.toNat dSBill) fun (e34 : SBill) => (bif (!(decide (e34.Id = k2))) then kxr (-1 : Int) else laws_heldBillS_k1 n kx0 kxr J a1 k2 i3))) else kx0 k2)
def laws_heldBillS (n : Nat) (a0 : List SBill) (k1 : Int) : Option Int :=
  loopN (fun (x : Int × Int) J' => laws_heldBillS_L2 n (fun k37 => some (k37)) (fun t38 => some (t38)) (fun k39 i40 => J' (k39, i40)) a0 x.1 x.2) n (k1, (0 : Int))
def laws_heldBook (n : Nat) (a0 : SBook) (k1 : Int) : Option Int :=
  (laws_heldBillS n a0.Bills k1).bind fun r1 => (bif (decide (r1 < (0 : Int))) then some ((-1 : Int)) else (laws_heldIntS n a0.Freed r1).bind fun r5 => (bif (decide (r5 < (0 : Int))) then some ((-1 : Int)) else some (r5)))
def laws_heldLotS_k0 {R : Type} (n : Nat) (kx0 : Int → Option R) (kxr : Int → Option R) (J : Int → Int → Option R) (a1 : List SLot) (k19 : Int) (i20 : Int) : Option R :=
  ix i20 a1.length ((bd (a1.getD i20.toNat dSLot) fun (e21 : SLot) => (bif (!(decide (e21.State = (w64 (k19 + (1 : Int)))))) then kxr (-1 : Int) else (bd (w64 ((w64 (k19 + (1 : Int))) + (1 : Int))) fun (v32 : Int) => ix i20 a1.length ((bd (a1.getD i20.toNat dSLot) fun (e33 : SLot) => (bif (!(decide (e33.Bond = v32))) then kxr (-1 : Int) else J (w64 (v32 + (1 : Int))) (w64 (i20 + (1 : Int))))))))))
def laws_heldLotS_k1 {R : Type} (n : Nat) (kx0 : Int → Option R) (kxr : Int → Option R) (J : Int → Int → Option R) (a1 : List SLot) (k13 : Int) (i14 : Int) : Option R :=
  ix i14 a1.length ((bd (a1.getD i14.toNat dSLot) fun (e15 : SLot) => (bif (!(decide (e15.Value = (w64 (k13 + (1 : Int)))))) then kxr (-1 : Int) else (bd (w64 ((w64 (k13 + (1 : Int))) + (1 : Int))) fun (v38 : Int) => ix i14 a1.length ((bd (a1.getD i14.toNat dSLot) fun (e39 : SLot) => (bif (!(decide (e39.Rate = v38))) then kxr (-1 : Int) else laws_heldLotS_k0 n kx0 kxr J a1 v38 i14)))))))
def laws_heldLotS_k2 {R : Type} (n : Nat) (kx0 : Int → Option R) (kxr : Int → Option R) (J : Int → Int → Option R) (a1 : List SLot) (k7 : Int) (i8 : Int) : Option R :=
  ix i8 a1.length ((bd (a1.getD i8.toNat dSLot) fun (e9 : SLot) => (bif (!(decide (e9.Owner = (w64 (k7 + (1 : Int)))))) then kxr (-1 : Int) else (bd (w64 ((w64 (k7 + (1 : Int))) + (1 : Int))) fun (v42 : Int) => ix i8 a1.length ((bd (a1.getD i8.toNat dSLot) fun (e43 : SLot) => (bif (!(decide (e43.Many = v42))) then kxr (-1 : Int) else laws_heldLotS_k1 n kx0 kxr J a1 v42 i8)))))))
def laws_heldLotS_L2 {R : Type} (n : Nat) (kx0 : Int → Option R) (kxr : Int → Option R) (J : Int → Int → Option R) (a1 : List SLot) (k2 : Int) (i3 : Int) : Option R :=
  (bif (decide (i3 < (a1.length : Int))) then ix i3 a1.length ((bd (a1.getD i3.toNat dSLot) fun (e46 : SLot) => (bif (!(decide (e46.Id = k2))) then kxr (-1 : Int) else laws_heldLotS_k2 n kx0 kxr J a1 k2 i3))) else kx0 k2)
def laws_heldLotS (n : Nat) (a0 : List SLot) (k1 : Int) : Option Int :=
  loopN (fun (x : Int × Int) J' => laws_heldLotS_L2 n (fun k49 => some (k49)) (fun t50 => some (t50)) (fun k51 i52 => J' (k51, i52)) a0 x.1 x.2) n (k1, (0 : Int))
def laws_heldTraderS_k0 {R : Type} (n : Nat) (kx0 : Int → Option R) (kxr : Int → Option R) (J : Int → Int → Option R) (a1 : List STrader) (k7 : Int) (i8 : Int) : Option R :=
  ix i8 a1.length ((bd (a1.getD i8.toNat dSTrader) fun (e9 : STrader) => (bif (!(decide (e9.Bond = (w64 (k7 + (1 : Int)))))) then kxr (-1 : Int) else (bd (w64 ((w64 (k7 + (1 : Int))) + (1 : Int))) fun (v20 : Int) => ix i8 a1.length ((bd (a1.getD i8.toNat dSTrader) fun (e21 : STrader) => (bif (!(decide (e21.Bound = v20))) then kxr (-1 : Int) else J (w64 (v20 + (1 : Int))) (w64 (i8 + (1 : Int))))))))))
def laws_heldTraderS_L2 {R : Type} (n : Nat) (kx0 : Int → Option R) (kxr : Int → Option R) (J : Int → Int → Option R) (a1 : List STrader) (k2 : Int) (i3 : Int) : Option R :=
  (bif (decide (i3 < (a1.length : Int))) then ix i3 a1.length ((bd (a1.getD i3.toNat dSTrader) fun (e26 : STrader) => (bif (!(decide (e26.Money = k2))) then kxr (-1 : Int) else laws_heldTraderS_k0 n kx0 kxr J a1 k2 i3))) else kx0 k2)
def laws_heldTraderS (n : Nat) (a0 : List STrader) (k1 : Int) : Option Int :=
  loopN (fun (x : Int × Int) J' => laws_heldTraderS_L2 n (fun k29 => some (k29)) (fun t30 => some (t30)) (fun k31 i32 => J' (k31, i32)) a0 x.1 x.2) n (k1, (0 : Int))
def laws_heldHouse (n : Nat) (a0 : SHouse) (k1 : Int) : Option Int :=
  (laws_heldLotS n a0.Lots k1).bind fun r1 => (bif (decide (r1 < (0 : Int))) then some ((-1 : Int)) else (laws_heldTraderS n a0.Traders r1).bind fun r5 => (bif (decide (r5 < (0 : Int))) then some ((-1 : Int)) else some (r5)))
def laws_heldPort_k0 (n : Nat)  (k2 : Int) (a0 : SPort) : Option Int :=
  (laws_heldYard n a0.Yard k2).bind fun r3 => (bif (decide (r3 < (0 : Int))) then some ((-1 : Int)) else (laws_heldBook n a0.Book r3).bind fun r11 => (bif (decide (r11 < (0 : Int))) then some ((-1 : Int)) else (laws_heldHouse n a0.House r11).bind fun r13 => (bif (decide (r13 < (0 : Int))) then some ((-1 : Int)) else some (r13))))
def laws_heldPort (n : Nat) (a0 : SPort) (k1 : Int) : Option Int :=
  (laws_heldCallS n a0.Calls k1).bind fun r1 => (bif (decide (r1 < (0 : Int))) then some ((-1 : Int)) else laws_heldPort_k0 n  r1 a0)
def laws_FnExactNewPort_k0 (n : Nat)  (m44 : Int) (w045 : Int) (w046 : Int) (w047 : Int) (t48 : List SCall) (t49 : List (List Int)) (t50 : List SBill) (t51 : List Int) (t52 : List SLot) (t53 : List STrader) (g054 : Int) (g055 : Int) (g056 : Int) (t57 : List SCall) (t58 : List (List Int)) (t59 : List SBill) (t60 : List Int) (t61 : List SLot) (t62 : List STrader) : Option Bool :=
  (impl_NewPort n).bind fun r63 => (laws_eqPort n r63 (⟨w045, t48, (⟨w046, t49⟩ : SYard), (⟨t50, t51⟩ : SBook), (⟨t52, t53, w047⟩ : SHouse)⟩ : SPort)).bind fun r64 => (bif (!r64) then some (false) else (laws_heldPort n (⟨g054, t57, (⟨g055, t58⟩ : SYard), (⟨t59, t60⟩ : SBook), (⟨t61, t62, g056⟩ : SHouse)⟩ : SPort) (1 : Int)).bind fun r78 => (bif (decide (r78 < (0 : Int))) then some (false) else (bif (!(decide (r78 = m44))) then some (false) else some (true))))
def laws_FnExactNewPort_k1 (n : Nat)  (w04 : Int) (w05 : Int) (w06 : Int) (t7 : List SCall) (t8 : List (List Int)) (t9 : List SBill) (t10 : List Int) (t11 : List SLot) (t12 : List STrader) (g013 : Int) (g014 : Int) (g015 : Int) (t16 : List SCall) (t17 : List (List Int)) (t18 : List SBill) (t19 : List Int) (t20 : List SLot) (t21 : List STrader) : Option Bool :=
  (laws_markPort n (⟨g013, t16, (⟨g014, t17⟩ : SYard), (⟨t18, t19⟩ : SBook), (⟨t20, t21, g015⟩ : SHouse)⟩ : SPort) (1 : Int)).bind fun r22 => (laws_heldPort n (⟨g013, r22.2.1, (⟨g014, r22.2.2.1⟩ : SYard), (⟨r22.2.2.2.1, r22.2.2.2.2.1⟩ : SBook), (⟨r22.2.2.2.2.2.1, r22.2.2.2.2.2.2, g015⟩ : SHouse)⟩ : SPort) (1 : Int)).bind fun r23 => (bif (decide (r23 < (0 : Int))) then some (false) else (bif (!(decide (r23 = r22.1))) then some (false) else laws_FnExactNewPort_k0 n  r22.1 w04 w05 w06 t7 t8 t9 t10 t11 t12 g013 g014 g015 r22.2.1 r22.2.2.1 r22.2.2.2.1 r22.2.2.2.2.1 r22.2.2.2.2.2.1 r22.2.2.2.2.2.2))
def laws_FnExactNewPort (n : Nat)  : Option Bool :=
  (spec_NewPort n).bind fun r1 => (impl_NewPort n).bind fun r2 => (laws_eqPort n r2 r1).bind fun r3 => (bif (!r3) then some (false) else laws_FnExactNewPort_k1 n  r1.Long r1.Yard.High r1.House.Taken r1.Calls r1.Yard.Stacks r1.Book.Bills r1.Book.Freed r1.House.Lots r1.House.Traders r2.Long r2.Yard.High r2.House.Taken r2.Calls r2.Yard.Stacks r2.Book.Bills r2.Book.Freed r2.House.Lots r2.House.Traders)
def rng (a b x : Int) : Prop := a ≤ x ∧ x ≤ b
def wfSCall (x : SCall) : Prop := rng (-9223372036854775808) 9223372036854775807 x.Id ∧ rng (-9223372036854775808) 9223372036854775807 x.Long ∧ rng (-9223372036854775808) 9223372036854775807 x.From ∧ rng (-9223372036854775808) 9223372036854775807 x.To ∧ rng (-9223372036854775808) 9223372036854775807 x.At
def wfSYard (x : SYard) : Prop := rng (-9223372036854775808) 9223372036854775807 x.High ∧ (x.Stacks.length ≤ 9223372036854775807 ∧ ∀ y ∈ x.Stacks, (y.length ≤ 9223372036854775807 ∧ ∀ z ∈ y, rng (-9223372036854775808) 9223372036854775807 z))
def wfSBill (x : SBill) : Prop := rng (-9223372036854775808) 9223372036854775807 x.Id ∧ x.Shipper.size ≤ 9223372036854775807 ∧ x.Order.size ≤ 9223372036854775807 ∧ rng (-9223372036854775808) 9223372036854775807 x.Many ∧ (x.Held.length ≤ 9223372036854775807 ∧ ∀ y ∈ x.Held, y.size ≤ 9223372036854775807)
def wfSBook (x : SBook) : Prop := (x.Bills.length ≤ 9223372036854775807 ∧ ∀ y ∈ x.Bills, wfSBill y) ∧ (x.Freed.length ≤ 9223372036854775807 ∧ ∀ y ∈ x.Freed, rng (-9223372036854775808) 9223372036854775807 y)
def wfSLot (x : SLot) : Prop := rng (-9223372036854775808) 9223372036854775807 x.Id ∧ rng (-9223372036854775808) 9223372036854775807 x.Owner ∧ rng (-9223372036854775808) 9223372036854775807 x.Many ∧ rng (-9223372036854775808) 9223372036854775807 x.Value ∧ rng (-9223372036854775808) 9223372036854775807 x.Rate ∧ rng (-9223372036854775808) 9223372036854775807 x.State ∧ rng (-9223372036854775808) 9223372036854775807 x.Bond
def wfSTrader (x : STrader) : Prop := rng (-9223372036854775808) 9223372036854775807 x.Money ∧ rng (-9223372036854775808) 9223372036854775807 x.Bond ∧ rng (-9223372036854775808) 9223372036854775807 x.Bound
def wfSHouse (x : SHouse) : Prop := (x.Lots.length ≤ 9223372036854775807 ∧ ∀ y ∈ x.Lots, wfSLot y) ∧ (x.Traders.length ≤ 9223372036854775807 ∧ ∀ y ∈ x.Traders, wfSTrader y) ∧ rng (-9223372036854775808) 9223372036854775807 x.Taken
def wfSPort (x : SPort) : Prop := rng (-9223372036854775808) 9223372036854775807 x.Long ∧ (x.Calls.length ≤ 9223372036854775807 ∧ ∀ y ∈ x.Calls, wfSCall y) ∧ wfSYard x.Yard ∧ wfSBook x.Book ∧ wfSHouse x.House
end Go.Sm
end

section
set_option linter.unusedSimpArgs false
set_option linter.deprecated false
set_option linter.unusedSectionVars false
set_option linter.unusedVariables false
namespace Go.Sm
/-! ### Of the words that printed functions are made of -/
theorem w64_id {x : Int} (h1 : -9223372036854775808 ≤ x) (h2 : x ≤ 9223372036854775807) : w64 x = x := by
  show (let m := x % (2 ^ 64 : Int); if (true && decide ((2 : Int) ^ 63 ≤ m)) = true then m - 2 ^ 64 else m) = x
  simp only [Bool.true_and, decide_eq_true_eq]
  split <;> omega
theorem w64_rng (x : Int) : -9223372036854775808 ≤ w64 x ∧ w64 x ≤ 9223372036854775807 := by
  show -9223372036854775808 ≤ (let m := x % (2 ^ 64 : Int); if (true && decide ((2 : Int) ^ 63 ≤ m)) = true then m - 2 ^ 64 else m) ∧ (let m := x % (2 ^ 64 : Int); if (true && decide ((2 : Int) ^ 63 ≤ m)) = true then m - 2 ^ 64 else m) ≤ 9223372036854775807
  simp only [Bool.true_and, decide_eq_true_eq]
  split <;> omega
theorem chk_of {R : Type} {b : Bool} {x : Option R} (h : b = true) : chk b x = x := by rw [h]; rfl
theorem chk_dec {R : Type} {p : Prop} [Decidable p] {x : Option R} (h : p) : chk (decide p) x = x := chk_of (decide_eq_true h)
theorem ix_of {R : Type} {i : Int} {len : Nat} {x : Option R} (h0 : 0 ≤ i) (h1 : i < (len : Int)) : ix i len x = x := by
  unfold ix
  rw [decide_eq_true h0, decide_eq_true h1]
  rfl
theorem ix_nat {R : Type} {i len : Nat} {x : Option R} (h1 : i < len) : ix (i : Int) len x = x := ix_of (by omega) (by omega)
theorem bif_dec {α : Type} {p : Prop} [Decidable p] {x y : α} : (bif decide p then x else y) = if p then x else y := by
  by_cases h : p <;> simp [h]
theorem bif_not {α : Type} {b : Bool} {x y : α} : (bif !b then x else y) = bif b then y else x := by cases b <;> rfl
theorem bif_and {α : Type} {a b : Bool} {x y : α} : (bif a && b then x else y) = bif a then (bif b then x else y) else y := by cases a <;> rfl
theorem loopN_succ {X R : Type} (b : X → (X → Option R) → Option R) (m : Nat) (x : X) : loopN b (m + 1) x = b x (loopN b m) := rfl
/-- What holds of a loop: by what is left to go. -/
theorem loopN_ind {X R : Type} {b : X → (X → Option R) → Option R} (μ : X → Nat) (I : X → Prop) (Q : X → Option R → Prop)
    (h : ∀ x J, I x → (∀ y, I y → μ y < μ x → Q y (J y)) → Q x (b x J)) : ∀ n x, I x → μ x < n → Q x (loopN b n x)
  | 0, x, hi, hm => absurd hm (Nat.not_lt_zero _)
  | n + 1, x, hi, hm => h x (loopN b n) hi fun y hy hl => loopN_ind μ I Q h n y hy (by omega)
theorem getD_eq {α : Type} {l : List α} {i : Nat} {d : α} (h : i < l.length) : l.getD i d = l[i] := by
  simp [List.getD, h]
theorem w64_succ {k : Nat} (h : k < 9223372036854775807) : w64 ((k : Int) + 1) = ((k + 1 : Nat) : Int) := by
  rw [w64_id (by omega) (by omega)]
  rfl
theorem take_succ_getD {α : Type} {l : List α} {i : Nat} {d : α} (h : i < l.length) : l.take (i + 1) = l.take i ++ [l.getD i d] := by
  rw [List.take_succ, getD_eq h, List.getElem?_eq_getElem h]
  rfl
theorem drop_getD {α : Type} {l : List α} {i : Nat} {d : α} (h : i < l.length) : l.drop i = l.getD i d :: l.drop (i + 1) := by
  rw [getD_eq h]
  exact List.drop_eq_getElem_cons h
theorem bd_eq {α β : Type} (e : α) (f : α → β) : bd e f = f e := rfl
theorem bd_set {α β : Type} {Q : β → Prop} {F : List α → β} {p : List α} {i : Nat} {x : α} (h : ∀ l : List α, l.length = p.length → Q (F l)) : Q (bd (p.set i x) F) := h _ (by simp)
theorem bd_is {α β : Type} {Q : β → Prop} {F : α → β} {e : α} (h : ∀ v : α, v = e → Q (F v)) : Q (bd e F) := h _ rfl
theorem bd_val {α β : Type} {Q : β → Prop} {F : α → β} {e : α} (h : ∀ v : α, Q (F v)) : Q (bd e F) := h _
theorem chk_q {R : Type} {Q : Option R → Prop} {b : Bool} {x : Option R} (h : b = true) (hx : Q x) : Q (chk b x) := by rw [chk_of h]; exact hx
theorem ix_q {R : Type} {Q : Option R → Prop} {i : Int} {len : Nat} {x : Option R} (h0 : 0 ≤ i) (h1 : i < (len : Int)) (hx : Q x) : Q (ix i len x) := by rw [ix_of h0 h1]; exact hx
theorem bd_upd {α β : Type} {Q : β → Prop} {F : List α → β} {p : List α} {i : Nat} {x d : α} (hi : i < p.length) (h : ∀ l : List α, l.length = p.length → l.getD i d = x → (∀ j, j ≠ i → l.getD j d = p.getD j d) → Q (F l)) : Q (bd (p.set i x) F) :=
  h _ (by simp) (by simp [List.getD, hi]) (fun j hj => by simp [List.getD, List.getElem?_set, Ne.symm hj])
/-- A list written from the front. -/
theorem set_take {α : Type} {a : List α} {d : α} {m k : Nat} (h : k < a.length) (hm : m = a.length := by rfl) : (a.take k ++ (List.replicate m d).drop k).set k (a.getD k d) = a.take (k + 1) ++ (List.replicate m d).drop (k + 1) := by
  subst hm
  have h1 : (a.take k).length = k := by simp; omega
  rw [List.set_append_right _ _ (by omega), h1, Nat.sub_self, take_succ_getD h, List.append_assoc]
  congr 1
  rw [List.drop_eq_getElem_cons (by simp; exact h)]
  rfl
/-! ### Loops over 0 .. len, by what is left -/
/-- Steps k, k+1, .. told one after the other; J: what comes behind a step. -/
def forK {S R : Type} (step : Nat → S → (S → Option R) → Option R) (fin : S → Option R) : Nat → Nat → S → Option R
  | 0, _, s => fin s
  | m + 1, k, s => step k s fun s' => forK step fin m (k + 1) s'
theorem loop_forK {X S R : Type} {b : X → (X → Option R) → Option R} {enc : Nat → S → X} {len : Nat} {step : Nat → S → (S → Option R) → Option R} {fin : S → Option R} (I : Nat → S → Prop)
    (hstep : ∀ k s J J', k < len → I k s → (∀ s', I (k + 1) s' → J (enc (k + 1) s') = J' s') → b (enc k s) J = step k s J') (hfin : ∀ s J, I len s → b (enc len s) J = fin s) :
    ∀ m k s n, k + m = len → m < n → I k s → loopN b n (enc k s) = forK step fin m k s
  | 0, k, s, 0, _, h, _ => absurd h (Nat.lt_irrefl _)
  | 0, k, s, n + 1, hk, _, hi => by
    have hk : k = len := by omega
    subst hk
    exact hfin s _ hi
  | m + 1, k, s, 0, _, h, _ => absurd h (Nat.not_lt_zero _)
  | m + 1, k, s, n + 1, hk, hn, hi => by
    show b (enc k s) (loopN b n) = step k s fun s' => forK step fin m (k + 1) s'
    exact hstep k s _ _ (by omega) hi fun s' hi' => loop_forK I hstep hfin m (k + 1) s' n (by omega) (by omega) hi'
/-- The first k at which f answers; at none: z. -/
def scanK {R : Type} (f : Nat → Option (Option R)) (z : Option R) : Nat → Nat → Option R
  | 0, _ => z
  | m + 1, k => match f k with
    | some r => r
    | none => scanK f z m (k + 1)
theorem loop_scan {X R : Type} {b : X → (X → Option R) → Option R} {enc : Nat → X} {len : Nat} {f : Nat → Option (Option R)} {z : Option R}
    (hstep : ∀ k J, k < len → b (enc k) J = match f k with | some r => r | none => J (enc (k + 1))) (hfin : ∀ J, b (enc len) J = z) :
    ∀ m k n, k + m = len → m < n → loopN b n (enc k) = scanK f z m k
  | 0, k, 0, _, h => absurd h (Nat.lt_irrefl _)
  | 0, k, n + 1, hk, _ => by
    have hk : k = len := by omega
    subst hk
    exact hfin _
  | m + 1, k, 0, _, h => absurd h (Nat.not_lt_zero _)
  | m + 1, k, n + 1, hk, hn => by
    show b (enc k) (loopN b n) = _
    rw [hstep k _ (by omega)]
    unfold scanK
    cases f k with
    | some r => rfl
    | none => exact loop_scan hstep hfin m (k + 1) n (by omega) (by omega)
/-- Is p so of all of k, .. k + m - 1? -/
theorem scan_all {R : Type} {p : Nat → Bool} {r z : Option R} : ∀ m k, scanK (fun k => bif p k then none else some r) z m k = bif (List.range' k m).all p then z else r
  | 0, k => rfl
  | m + 1, k => by
    rw [scanK, List.range'_succ, List.all_cons]
    cases h : p k with
    | true => simp only [cond_true, Bool.true_and]; exact scan_all m (k + 1)
    | false => rfl
theorem scan_any {R : Type} {p : Nat → Bool} {r z : Option R} : ∀ m k, scanK (fun k => bif p k then some r else none) z m k = bif (List.range' k m).any p then r else z
  | 0, k => rfl
  | m + 1, k => by
    rw [scanK, List.range'_succ, List.any_cons]
    cases h : p k with
    | false => simp only [cond_false, Bool.false_or]; exact scan_any m (k + 1)
    | true => rfl
theorem mgetI_mputI {β : Type} (l : List (Int × β)) (n m : Int) (v : β) : mgetI (mputI l n v) m = if m = n then some v else mgetI l m := by
  unfold mgetI mputI
  induction l with
  | nil =>
    by_cases h : m = n <;> simp [h]
  | cons a l ih =>
    rw [List.findIdx?_cons]
    by_cases h : n = a.1
    · simp only [h, decide_true, if_true, Option.elim_some, List.set_cons_zero, List.find?_cons]
      by_cases h2 : m = a.1
      · simp [h2]
      · simp [h2]
    · simp only [h, decide_false, Bool.false_eq_true, if_false]
      cases hf : l.findIdx? (fun e => decide (n = e.1)) with
      | none =>
        rw [hf] at ih
        simp only [Option.elim_none] at ih
        simp only [Option.map_none, Option.elim_none, List.cons_append, List.find?_cons]
        by_cases h2 : m = a.1
        · have : m ≠ n := fun e => h (e ▸ h2)
          simp [h2]
          simp [h2] at this
          simp [this]
        · simp only [h2, decide_false]
          exact ih
      | some i =>
        rw [hf] at ih
        simp only [Option.elim_some] at ih
        simp only [Option.map_some, Option.elim_some, List.set_cons_succ, List.find?_cons]
        by_cases h2 : m = a.1
        · have : m ≠ n := fun e => h (e ▸ h2)
          simp [h2]
          simp [h2] at this
          simp [this]
        · simp only [h2, decide_false]
          exact ih
theorem mgetI_nil {β : Type} (m : Int) : mgetI ([] : List (Int × β)) m = none := rfl
/-! ### Chains of tests -/
theorem bif_and' {α : Type} {a b : Bool} {x y : α} : (bif a then (bif b then x else y) else y) = bif a && b then x else y := by cases a <;> rfl
theorem bif_or' {α : Type} {a b : Bool} {x y : α} : (bif a then y else (bif b then x else y)) = bif !a && b then x else y := by cases a <;> rfl
theorem bif_and2 {α : Type} {a b : Bool} {x y : α} : (bif a then (bif b then y else x) else y) = bif a && !b then x else y := by cases a <;> cases b <;> rfl
theorem bif_or2 {α : Type} {a b : Bool} {x y : α} : (bif a then y else (bif b then y else x)) = bif !a && !b then x else y := by cases a <;> cases b <;> rfl
theorem bif_some {α β : Type} {a : Bool} {x y : α} {f : α → Option β} : (bif a then some x else some y).bind f = bif a then f x else f y := by cases a <;> rfl
theorem bif_tf {a : Bool} : (bif a then some true else some false) = some a := by cases a <;> rfl
theorem bif_ft {a : Bool} : (bif a then some false else some true) = some (!a) := by cases a <;> rfl
theorem bif_sf {a b : Bool} : (bif a then some b else some false) = some (a && b) := by cases a <;> rfl
theorem all_range_succ {p : Nat → Bool} {k : Nat} : (List.range (k + 1)).all p = ((List.range k).all p && p k) := by
  rw [List.range_succ, List.all_append]
  simp
theorem any_range_succ {p : Nat → Bool} {k : Nat} : (List.range (k + 1)).any p = ((List.range k).any p || p k) := by
  rw [List.range_succ, List.any_append]
  simp
theorem all_range_not {p : Nat → Bool} {k m : Nat} (hk : k < m) (h : p k = false) : (List.range m).all p = false := by
  rw [Bool.eq_false_iff]
  intro e
  rw [List.all_eq_true] at e
  rw [e k (List.mem_range.2 hk)] at h
  cases h
theorem any_range_of {p : Nat → Bool} {k m : Nat} (hk : k < m) (h : p k = true) : (List.range m).any p = true := by
  rw [List.any_eq_true]
  exact ⟨k, List.mem_range.2 hk, h⟩
/-- A loop that looks at k = 0, 1, .. and leaves at the first that is not so. -/
theorem loop_all {R : Type} {b : Int → (Int → Option R) → Option R} {len : Nat} {p : Nat → Bool} {no yes : Option R} (hlen : len ≤ 9223372036854775807)
    (hstep : ∀ (k : Nat) (J : Int → Option R), k < len → (∀ j, j < k → p j = true) → b (k : Int) J = bif p k then J ((k + 1 : Nat) : Int) else no) (hfin : ∀ J, (∀ j, j < len → p j = true) → b (len : Int) J = yes) {n : Nat} (hn : len < n) :
    loopN b n (0 : Int) = bif (List.range len).all p then yes else no := by
  refine loopN_ind (fun x => len - x.toNat) (fun x => ∃ k : Nat, k ≤ len ∧ x = (k : Int) ∧ (List.range k).all p = true) (fun x r => r = bif (List.range len).all p then yes else no) ?_ n _ ⟨0, by omega, rfl, rfl⟩ (by simp; omega)
  rintro _ J ⟨k, hk, rfl, hb⟩ ih
  have hb' : ∀ j, j < k → p j = true := fun j hj => List.all_eq_true.1 hb j (List.mem_range.2 hj)
  by_cases h : k < len
  · rw [hstep k J h hb']
    cases hp : p k with
    | true => exact ih _ ⟨k + 1, h, rfl, by rw [all_range_succ, hb, hp]; rfl⟩ (by simp; omega)
    | false => rw [all_range_not h hp]; rfl
  · have : k = len := by omega
    subst this
    rw [hfin _ hb', hb]
    rfl
/-- The same, a state turned on the way (its invariant: I). -/
theorem loop_allS {S R : Type} {X : Type} {enc : Int → S → X} {b : X → (X → Option R) → Option R} {len : Nat} {p : Nat → Bool} {I : Nat → S → Prop} {no yes : Option R}
    (hstep : ∀ (k : Nat) (s : S) (J : X → Option R), k < len → I k s → (∀ j, j < k → p j = true) → ∃ s', (p k = true → I (k + 1) s') ∧ b (enc (k : Int) s) J = bif p k then J (enc ((k + 1 : Nat) : Int) s') else no) (hfin : ∀ s J, I len s → (∀ j, j < len → p j = true) → b (enc (len : Int) s) J = yes) {n : Nat} (hn : len < n) {s0 : S} (h0 : I 0 s0) :
    loopN b n (enc (0 : Int) s0) = bif (List.range len).all p then yes else no := by
  have key : ∀ m (k : Nat) (s : S) n, k + m = len → m < n → I k s → (List.range k).all p = true → loopN b n (enc (k : Int) s) = bif (List.range len).all p then yes else no := by
    intro m
    induction m with
    | zero =>
      intro k s n hk hn hi hb
      have hb' : ∀ j, j < k → p j = true := fun j hj => List.all_eq_true.1 hb j (List.mem_range.2 hj)
      have hk : k = len := by omega
      subst hk
      cases n with
      | zero => omega
      | succ n => rw [loopN_succ, hfin s _ hi hb', hb]; rfl
    | succ m ih =>
      intro k s n hk hn hi hb
      have hb' : ∀ j, j < k → p j = true := fun j hj => List.all_eq_true.1 hb j (List.mem_range.2 hj)
      cases n with
      | zero => omega
      | succ n =>
        rw [loopN_succ]
        obtain ⟨s', h1, h2⟩ := hstep k s (loopN b n) (by omega) hi hb'
        rw [h2]
        cases hp : p k with
        | true => exact ih (k + 1) s' n (by omega) (by omega) (h1 hp) (by rw [all_range_succ, hb, hp]; rfl)
        | false => rw [all_range_not (by omega : k < len) hp]; rfl
  exact key len 0 s0 n (by omega) hn h0 rfl
/-- A loop over 0 .. len that never leaves early; its state: I. -/
theorem loop_runS {S R : Type} {X : Type} {enc : Int → S → X} {b : X → (X → Option R) → Option R} {len : Nat} {I : Nat → S → Prop} {Q : Option R → Prop}
    (hstep : ∀ (k : Nat) (s : S) (J : X → Option R), k < len → I k s → ∃ s', I (k + 1) s' ∧ b (enc (k : Int) s) J = J (enc ((k + 1 : Nat) : Int) s')) (hfin : ∀ s J, I len s → Q (b (enc (len : Int) s) J)) {n : Nat} (hn : len < n) {s0 : S} (h0 : I 0 s0) :
    Q (loopN b n (enc (0 : Int) s0)) := by
  have key : ∀ m (k : Nat) (s : S) n, k + m = len → m < n → I k s → Q (loopN b n (enc (k : Int) s)) := by
    intro m
    induction m with
    | zero =>
      intro k s n hk hn hi
      have hk : k = len := by omega
      subst hk
      cases n with
      | zero => omega
      | succ n => rw [loopN_succ]; exact hfin s _ hi
    | succ m ih =>
      intro k s n hk hn hi
      cases n with
      | zero => omega
      | succ n =>
        rw [loopN_succ]
        obtain ⟨s', h1, h2⟩ := hstep k s (loopN b n) (by omega) hi
        rw [h2]
        exact ih (k + 1) s' n (by omega) (by omega) h1
  exact key len 0 s0 n (by omega) hn h0
end Go.Sm
end

section
set_option linter.unusedSimpArgs false
set_option linter.deprecated false
set_option linter.unusedSectionVars false
set_option linter.unusedVariables false
set_option maxRecDepth 100000
namespace Go.Sm
theorem laws_FnExactNewPort_true : ∃ n, laws_FnExactNewPort n = some true := ⟨200, by kernel_rfl⟩
end Go.Sm
end
